import PyProof.Rows.All
import Wide.All
import OpenK.AllK
import Wide.FinOn
import HandS.ForMost
import KE.IntTextLaws
import HandS.Exc
import HandS.WordsExc
import HandS.Star
import HandS.Codes
import HandS.More
import HandS.IsInst
import HandS.Flow
import HandS.Style
import HandS.Conv
import HandS.RaiseMore
import HandS.CallLocal
import HandS.Replace
import HandS.StrMore
import HandS.Zip
import HandS.Wide
import HandS.TupAny
import HandS.RevTup
import HandS.ExcInit
import HandS.ExcField
import HandS.TryMany
import HandS.Lambda
import HandS.EndTab
import KE.KDflt
import PyProof.ReprReads
import PyProof.ReprRoads
import PySem.Challenge.RW_curtainsteps_k31_whole_texts_of_terms
import HandS.Walk
import HandS.DictSub
import HandS.WordsDict
import KE.GoesMore
import PyProof.ListStr
import HandS.Small
import KE.KLam
/-! part K31P -/
section
set_option Elab.async false
set_option linter.all false
set_option maxRecDepth 100000
set_option maxHeartbeats 4000000
/-! K31P: the plain part. Papers, their words, the reader, the walk that looks for a fault, what is due of a text. No program in sight. -/
namespace K31
open PySem L2 TL

/-! ### words -/
inductive W where
  | cash | at_ | above | below | lowest | highest | both | short | times | lesser | greater | ifw
  deriving DecidableEq
def W.str : W → Str
  | .cash => "cash" | .at_ => "at" | .above => "above" | .below => "below" | .lowest => "lowest" | .highest => "highest"
  | .both => "both" | .short => "short" | .times => "times" | .lesser => "lesser" | .greater => "greater" | .ifw => "if"
def W.all : List W := [.cash, .at_, .above, .below, .lowest, .highest, .both, .short, .times, .lesser, .greater, .ifw]
/-- how many integers stand behind a word -/
def W.ni : W → Nat
  | .above | .below | .ifw => 2
  | .cash | .at_ | .lowest | .highest | .times => 1
  | _ => 0
/-- how many papers stand behind a word -/
def W.nk : W → Nat
  | .both | .lesser | .greater | .ifw => 2
  | .short | .times => 1
  | _ => 0
def W.of (x : Str) : Option W := W.all.find? fun w => decide (w.str = x)
/-- the places of the papers in the tuple -/
def W.pl : W → List Nat
  | .both | .lesser | .greater => [1, 2]
  | .short | .times => [1]
  | .ifw => [3, 4]
  | _ => []
theorem W.of_str (w : W) : W.of w.str = some w := by cases w <;> decide +kernel
theorem W.str_inj {v w : W} (h : v.str = w.str) : v = w := by
  have e := W.of_str v
  rw [h, W.of_str w] at e
  exact (Option.some.inj e).symm
theorem W.of_some {x : Str} {w : W} (h : W.of x = some w) : x = w.str := by
  have h1 := List.find?_some h
  exact (of_decide_eq_true h1).symm
theorem W.mem_all (w : W) : w ∈ W.all := by cases w <;> decide
theorem W.of_none {x : Str} (h : W.of x = none) : ∀ w : W, w.str ≠ x := fun w e => by
  have h1 := List.find?_eq_none.mp h w (W.mem_all w)
  exact h1 (decide_eq_true e)
theorem W.pl_len (w : W) : w.pl.length = w.nk := by cases w <;> rfl
theorem W.nk_le (w : W) : w.nk ≤ 2 := by cases w <;> decide
theorem W.ni_le (w : W) : w.ni ≤ 2 := by cases w <;> decide

/-! ### papers -/
inductive Tm where
  | leaf (w : W) (is : List Int)
  | one (w : W) (is : List Int) (a : Tm)
  | two (w : W) (is : List Int) (a b : Tm)
  deriving DecidableEq
namespace Tm
def w : Tm → W
  | leaf w _ => w
  | one w _ _ => w
  | two w _ _ _ => w
def is : Tm → List Int
  | leaf _ is => is
  | one _ is _ => is
  | two _ is _ _ => is
def kids : Tm → List Tm
  | leaf _ _ => []
  | one _ _ a => [a]
  | two _ _ a b => [a, b]
/-- as many integers and papers as the word wants -/
def Sh : Tm → Prop
  | leaf w is => w.nk = 0 ∧ is.length = w.ni
  | one w is a => w.nk = 1 ∧ is.length = w.ni ∧ a.Sh
  | two w is a b => w.nk = 2 ∧ is.length = w.ni ∧ a.Sh ∧ b.Sh
def nodes : Tm → Nat
  | leaf _ _ => 1
  | one _ _ a => a.nodes + 1
  | two _ _ a b => a.nodes + b.nodes + 1
def depth : Tm → Nat
  | leaf _ _ => 1
  | one _ _ a => a.depth + 1
  | two _ _ a b => max a.depth b.depth + 1
end Tm
/-- how a paper's tuple lies: behind its word; α: what stands there -/
def lay {α : Type} (w : W) (is ks : List α) : List α := if w = .ifw then is ++ ks else ks ++ is
def vlay (w : W) (is : List Int) (ks : List V) : List V := .str w.str :: lay w (is.map V.int) ks
def dlay (w : W) (is : List Int) (ks : List PyData) : List PyData := .str w.str :: lay w (is.map PyData.int) ks
def Tm.data : Tm → PyData
  | .leaf w is => .tuple (dlay w is [])
  | .one w is a => .tuple (dlay w is [a.data])
  | .two w is a b => .tuple (dlay w is [a.data, b.data])
theorem lay_length {α : Type} (w : W) (is ks : List α) : (lay w is ks).length = is.length + ks.length := by
  unfold lay
  split <;> simp [Nat.add_comm]
theorem vlay_length (w : W) (is : List Int) (ks : List V) : (vlay w is ks).length = is.length + ks.length + 1 := by
  unfold vlay
  rw [List.length_cons, lay_length, List.length_map]
theorem Tm.nodes_pos (t : Tm) : 1 ≤ t.nodes := by cases t <;> simp [Tm.nodes]
theorem Tm.depth_pos (t : Tm) : 1 ≤ t.depth := by cases t <;> simp [Tm.depth]
theorem Tm.depth_le_nodes : ∀ t : Tm, t.depth ≤ t.nodes
  | .leaf _ _ => Nat.le_refl _
  | .one _ _ a => by
    have := a.depth_le_nodes
    simp only [Tm.depth, Tm.nodes]
    omega
  | .two _ _ a b => by
    have h1 := a.depth_le_nodes
    have h2 := b.depth_le_nodes
    simp only [Tm.depth, Tm.nodes]
    omega

/-! ### texts -/
def istr (i : Int) : Str := ((toString i : String) : Str)
def Tm.words : Tm → List Str
  | .leaf w is => w.str :: is.map istr
  | .one w is a => w.str :: (is.map istr ++ a.words)
  | .two w is a b => w.str :: (is.map istr ++ (a.words ++ b.words))
def Tm.text (t : Tm) : Str := Txt.join " " t.words
theorem Tm.words_ne (t : Tm) : t.words ≠ [] := by cases t <;> simp [Tm.words]

/-! ### integers in words -/
def isDig (c : Nat) : Bool := decide (48 ≤ c) && decide (c ≤ 57)
/-- what stands behind a sign -/
def figs (l : List Nat) : List Nat := if l.take 1 = [45] then l.drop 1 else l
def okFigs (l : List Nat) : Bool := decide (1 ≤ (figs l).length) && decide ((figs l).length ≤ 31) && (figs l).all isDig && !(decide ((figs l).take 1 = [48]) && decide (l ≠ [48]))
def valFigs (l : List Nat) : Int := if l.take 1 = [45] then -((NumText.digitsVal (figs l) : Nat) : Int) else ((NumText.digitsVal (figs l) : Nat) : Int)
def intOf (x : Str) : Option Int := if okFigs (tl x) = true then some (valFigs (tl x)) else none

/-! ### the reader -/
def takeI (ws : List Str) : Nat → Nat → Except Nat (List Int × Nat)
  | 0, i => .ok ([], i)
  | n + 1, i => match ws[i]?.bind intOf with
    | none => .error i
    | some z => match takeI ws n (i + 1) with
      | .error e => .error e
      | .ok (zs, j) => .ok (z :: zs, j)
def readT (ws : List Str) : Nat → Nat → Nat → Except Nat (Tm × Nat × Nat)
  | 0, i, _ => .error i
  | f + 1, i, m =>
    if m = 20 then .error i else
    match ws[i]?.bind W.of with
    | none => .error i
    | some w => match takeI ws w.ni (i + 1) with
      | .error e => .error e
      | .ok (is, j) => match w.nk with
        | 0 => .ok (.leaf w is, j, m + 1)
        | 1 => match readT ws f j (m + 1) with
          | .error e => .error e
          | .ok (a, j, m) => .ok (.one w is a, j, m)
        | _ => match readT ws f j (m + 1) with
          | .error e => .error e
          | .ok (a, j, m) => match readT ws f j m with
            | .error e => .error e
            | .ok (b, j, m) => .ok (.two w is a b, j, m)
def readLine (ws : List Str) : Except Nat Tm := match readT ws 21 0 0 with
  | .error e => .error e
  | .ok (t, j, _) => if j = ws.length then .ok t else .error j

/-! ### the walk for a fault -/
def bounds : W → List (Int × Int)
  | .at_ | .lowest | .highest => [(0, 3)]
  | .above | .below | .ifw => [(0, 3), (-1000, 1000)]
  | .cash | .times => [(-1000, 1000)]
  | _ => []
def within (z : Int × (Int × Int)) : Bool := decide (z.2.1 ≤ z.1) && decide (z.1 ≤ z.2.2)
def own (w : W) (is : List Int) : Bool := (is.zip (bounds w)).all within
def pz (p : List Nat) : List Int := p.map fun (k : Nat) => ((k : Nat) : Int)
def walk (p : List Nat) : Tm → Option (List Nat)
  | .leaf w is => if 8 ≤ p.length then some [] else if own w is = true then none else some p
  | .one w is a => if 8 ≤ p.length then some [] else if own w is = true then walk (p ++ [w.pl.getD 0 0]) a else some p
  | .two w is a b => if 8 ≤ p.length then some [] else if own w is = true then
      match walk (p ++ [w.pl.getD 0 0]) a with
      | some q => some q
      | none => walk (p ++ [w.pl.getD 1 0]) b
    else some p
/-- the same of a pile, its top first -/
def walkAll : List (List Nat × Tm) → Option (List Nat)
  | [] => none
  | (p, t) :: r => match walk p t with
    | some q => some q
    | none => walkAll r
/-- what a paper lays upon the pile -/
def laid (p : List Nat) (t : Tm) : List (List Nat × Tm) := (t.w.pl.zip t.kids).map fun z => (p ++ [z.1], z.2)
theorem walkAll_deep {p : List Nat} {t : Tm} {r : List (List Nat × Tm)} (h : 8 ≤ p.length) : walkAll ((p, t) :: r) = some [] := by
  have e : walk p t = some [] := by cases t <;> exact if_pos h
  show (match walk p t with | some q => some q | none => walkAll r) = _
  rw [e]
theorem walkAll_bad {p : List Nat} {t : Tm} {r : List (List Nat × Tm)} (h : ¬ 8 ≤ p.length) (ho : own t.w t.is = false) : walkAll ((p, t) :: r) = some p := by
  have e : walk p t = some p := by
    cases t <;> (unfold walk; rw [if_neg h]; refine if_neg ?_; intro z; exact Bool.noConfusion (ho.symm.trans z))
  show (match walk p t with | some q => some q | none => walkAll r) = _
  rw [e]
theorem walkAll_good {p : List Nat} {t : Tm} {r : List (List Nat × Tm)} (hs : t.Sh) (h : ¬ 8 ≤ p.length) (ho : own t.w t.is = true) : walkAll ((p, t) :: r) = walkAll (laid p t ++ r) := by
  show (match walk p t with | some q => some q | none => walkAll r) = _
  cases t with
  | leaf w is =>
    have ho' : own w is = true := ho
    have e : walk p (.leaf w is) = none := by unfold walk; rw [if_neg h, if_pos ho']
    have e2 : laid p (.leaf w is) = [] := by simp [laid, Tm.kids]
    rw [e, e2]
    rfl
  | one w is a =>
    have ho' : own w is = true := ho
    have e : walk p (.one w is a) = walk (p ++ [w.pl.getD 0 0]) a := by
      conv => lhs; unfold walk
      rw [if_neg h, if_pos ho']
    have e2 : laid p (.one w is a) = [(p ++ [w.pl.getD 0 0], a)] := by
      have h1 := hs.1
      have h2 := W.pl_len w
      rw [h1] at h2
      simp only [laid, Tm.kids, Tm.w]
      generalize w.pl = q at h2
      match q, h2 with
      | [k], _ => rfl
    rw [e, e2]
    rfl
  | two w is a b =>
    have ho' : own w is = true := ho
    have e : walk p (.two w is a b) = (match walk (p ++ [w.pl.getD 0 0]) a with | some q => some q | none => walk (p ++ [w.pl.getD 1 0]) b) := by
      conv => lhs; unfold walk
      rw [if_neg h, if_pos ho']
    have e2 : laid p (.two w is a b) = [(p ++ [w.pl.getD 0 0], a), (p ++ [w.pl.getD 1 0], b)] := by
      have h1 := hs.1
      have h2 := W.pl_len w
      rw [h1] at h2
      simp only [laid, Tm.kids, Tm.w]
      generalize w.pl = q at h2
      match q, h2 with
      | [k, l], _ => rfl
    rw [e, e2]
    show _ = (match walk (p ++ [w.pl.getD 0 0]) a with | some q => some q | none => match walk (p ++ [w.pl.getD 1 0]) b with | some q => some q | none => walkAll r)
    cases walk (p ++ [w.pl.getD 0 0]) a <;> rfl
theorem walkAll_one (t : Tm) : walkAll [([], t)] = walk [] t := by
  show (match walk [] t with | some q => some q | none => walkAll []) = _
  cases walk [] t <;> rfl
def nodesAll (l : List (List Nat × Tm)) : Nat := (l.map fun z => z.2.nodes).sum
theorem nodesAll_laid {p : List Nat} {t : Tm} {r : List (List Nat × Tm)} (hs : t.Sh) : nodesAll (laid p t ++ r) + 1 = nodesAll ((p, t) :: r) := by
  have e : nodesAll (laid p t) + 1 = t.nodes := by
    cases t with
    | leaf w is => simp [laid, Tm.kids, nodesAll, Tm.nodes]
    | one w is a =>
      have h1 := hs.1
      have h2 := W.pl_len w
      rw [h1] at h2
      simp only [laid, Tm.kids, Tm.w]
      generalize w.pl = q at h2
      match q, h2 with
      | [k], _ => simp [nodesAll, Tm.nodes]
    | two w is a b =>
      have h1 := hs.1
      have h2 := W.pl_len w
      rw [h1] at h2
      simp only [laid, Tm.kids, Tm.w]
      generalize w.pl = q at h2
      match q, h2 with
      | [k, l], _ => simp [nodesAll, Tm.nodes]
  unfold nodesAll at e ⊢
  rw [List.map_append, List.sum_append, List.map_cons, List.sum_cons]
  show _ = t.nodes + _
  omega

/-! ### what is due of a text -/
inductive Res where
  | tm (t : Tm)
  | text (l w : Nat)
  | path (p : List Nat)
  deriving DecidableEq
def Res.data : Res → PyData
  | .tm t => .list [t.data]
  | .text l w => .tuple [.str "text", .int l, .int w]
  | .path p => .tuple [.str "term", .tuple ((pz p).map PyData.int)]
def fault (t : Tm) : Res := match walk [] t with
  | none => .tm t
  | some p => .path p
def due (ls : List Str) : Res := match readLine (Txt.split (ls.getD 0 Str.empty) " ") with
  | .error e => .text 0 e
  | .ok t => if 1 < ls.length then .text 1 0 else fault t
def readR (x : Str) : Res := due (Txt.split x "\n")
end K31
end
/-! part K31R -/
section
set_option Elab.async false
set_option linter.all false
set_option maxRecDepth 100000
set_option maxHeartbeats 4000000
/-! K31R: rules of my own over the layer. -/
namespace K31
open PySem PySem.Spec PyProof.Rows L2

/-! ### the text by places -/
def top (i : Nat) : Stmt := PySem.Challenge.pw_curtainsteps_k31_whole_texts_of_terms.main.body.getD i (.Pass ⟨0, 0, 0, 0⟩)

/-! ### operators -/
section
variable {X : Cx}
theorem op_mul_str : OpR X (binaryOp .Mult) (fun x y H Q => ∃ z n, x = .str z ∧ y = .int n ∧ PySem.MulOk z n ∧ Q (.str (Txt.mul z n)) H) := by
  intro pins s σ H x y v u Q I rx ry h
  obtain ⟨z, n, rfl, rfl, hok, q⟩ := h
  obtain ⟨t, rfl⟩ := rx
  obtain ⟨t', rfl⟩ := ry
  exact SB.mul hok fun tk k => ⟨.str (Txt.mul z n), H, I.tok k, ⟨tk, rfl⟩, q⟩
end

/-! ### a written dict with text keys -/
structure KD (K : PySem.W.Frag) (w : World) (d : Addr) (kvs : List (Str × V)) : Prop where
  at_ : ∃ es n, K.lookup d = some ⟨.type "dict", none, .dict es n, #[]⟩ ∧ PySem.W.KeysLit w.params es.toList ∧
    Paired (fun (e : DictEntry) (kv : Str × V) => (∃ t, e.key = .str kv.1 t) ∧ RelV kv.2 e.val) es.toList kvs
  nd : (kvs.map (·.1)).Nodup
  low : (d == sysModules) = false
  few : kvs.length ≤ 1000
def kk (kvs : List (Str × V)) : List (Key × V) := kvs.map fun p => (Sum.inr p.1, p.2)
theorem kk_nd {kvs : List (Str × V)} (h : (kvs.map (·.1)).Nodup) : ((kk kvs).map (·.1)).Nodup := by
  unfold kk
  rw [List.map_map]
  have e : ((fun x : Key × V => x.1) ∘ fun p : Str × V => ((Sum.inr p.1 : Key), p.2)) = (Sum.inr : Str → Key) ∘ (fun p => p.1) := rfl
  rw [e, ← List.map_map]
  exact List.Pairwise.map _ (fun a b hab q => hab (Sum.inr.inj q)) h
theorem kk_val (kvs : List (Str × V)) (x : Str) : valV (kk kvs) (Sum.inr x) = (kvs.find? fun p => decide (p.1 = x)).map (·.2) := by
  induction kvs with
  | nil => rfl
  | cons p r ih =>
    unfold valV kk at ih ⊢
    rw [List.map_cons, List.find?_cons, List.find?_cons]
    by_cases e : p.1 = x
    · have e2 : decide ((Sum.inr p.1 : Key) = Sum.inr x) = true := decide_eq_true (by rw [e])
      rw [e2, decide_eq_true e]
      rfl
    · have e2 : decide ((Sum.inr p.1 : Key) = Sum.inr x) = false := decide_eq_false (fun q => e (Sum.inr.inj q))
      rw [e2, decide_eq_false e]
      exact ih
theorem kd_pairs {P : Program} {w : World} : ∀ {es : List DictEntry} {kvs : List (Str × V)}, PySem.W.KeysLit w.params es → Paired (fun (e : DictEntry) (kv : Str × V) => (∃ t, e.key = .str kv.1 t) ∧ RelV kv.2 e.val) es kvs →
    ∃ vs, KV (kk kvs) vs ∧ Pairs (mixKind P w) es vs
  | [], _, _, .nil => ⟨[], .nil, .nil⟩
  | e :: es, kv :: kvs, hk, .cons ⟨⟨t, ht⟩, hr⟩ r => by
    obtain ⟨vs, h1, h2⟩ := kd_pairs (P := P) (w := w) hk.2 r
    refine ⟨(Sum.inr kv.1, e.val) :: vs, .cons ⟨rfl, hr⟩ h1, .cons ?_ rfl h2⟩
    rw [ht]
    exact mixKind_str P w kv.1 t
theorem kv_keys : ∀ {kvs : List (Key × V)} {vs : List (Key × Value)}, KV kvs vs → vs.map (·.1) = kvs.map (·.1)
  | _, _, .nil => rfl
  | _, _, .cons h t => by
    rw [List.map_cons, List.map_cons, kv_keys t, h.1]
theorem KD.dictOf {K : PySem.W.Frag} {P : Program} {w : World} {d : Addr} {kvs : List (Str × V)} {h : Heap} (D : KD K w d kvs) (hK : K.In h) : ∃ vs, KV (kk kvs) vs ∧ h.DictOf (mixKind P w) d vs := by
  obtain ⟨es, n, hl, hk, hp⟩ := D.at_
  obtain ⟨vs, h1, h2⟩ := kd_pairs (P := P) (w := w) hk hp
  refine ⟨vs, h1, _, es, n, hK _ _ hl, ⟨rfl, rfl, rfl⟩, rfl, fun e he => ?_, h2, ?_⟩
  · obtain ⟨x, t, e1, e2⟩ := hk.all e (Array.mem_toList_iff.mpr he)
    exact ⟨Sum.inr x, by rw [e1]; exact mixKind_str P w x t, e2⟩
  · rw [kv_keys h1]
    exact kk_nd D.nd
section
variable {X : Cx} {e f : Expr} {nm : Str} {p0 apos cpos : Pos} {ty tx : TE} {d : Addr} {kvs : List (Str × V)}
/-- what a written dict tells of a text -/
def look (kvs : List (Str × V)) (x : Str) : Option V := (kvs.find? fun p => decide (p.1 = x)).map (·.2)
theorem pe_kget1 (D : KD X.K X.w d kvs) (ho : PE X (.Name nm p0) (tC (.ref d))) (he : PE X e ty) (m : M1 X (.Name nm p0) "get" apos e cpos) :
    PE X (.Call (.Attribute (.Name nm p0) "get" apos) [e] [] cpos) (fun σ H Q => ty σ H fun y H2 => ∃ x, y = .str x ∧ Q ((look kvs x).getD .non) H2) := by
  refine ⟨fun pins s σ H Q I h => ?_⟩
  refine wpAny_Call_method m.base m.few m.line PySem.F.plainAttrs_dict PySem.F.slot_dict_get PySem.F.type_dict_get (thn (ho.run pins s σ H (fun v H1 => v = .ref d ∧ H1 = H) I ⟨rfl, rfl⟩) fun u s1 ⟨x, H1, I1, rx, ex, eH⟩ => ?_)
  subst ex
  subst eH
  obtain rfl : u = Value.ref d := rx
  obtain ⟨vs, r1, dd⟩ := D.dictOf (P := X.prog) I1.kIn
  refine ⟨dd.typeIs, fun b q => ?_, ?_⟩
  · cases q
    obtain ⟨ob, _, _, h1, h2, _⟩ := dd
    exact ⟨ob, h1, h2.2.1⟩
  · rw [m.trees]
    refine Calls.callWith_builtin rfl (Calls.evalArgs_plain (Calls.spliced_cons (thn (he.run pins s1 σ _ _ I1 h) fun iv s2 ⟨y, H2, I2, ry, x, ey, q2⟩ => Calls.spliced_nil ?_)))
    subst ey
    obtain ⟨vs2, r2, dd2⟩ := D.dictOf (P := X.prog) I2.kIn
    refine call_meetsIn PySem.F.slot_dict_get dd2.typeIs PySem.F.entry_dict_get (PySem.F.args_dict_get_2 _ _) (meets_dict_get (mixKind X.prog X.w) d (kV_is (k := Sum.inr x) ry) D.low) ⟨_, dd2.mapOf, ?_⟩
    refine ⟨_, H2, I2.tok _, ?_, q2⟩
    have z : RelV ((valV (kk kvs) (Sum.inr x)).getD .non) ((valueAt vs2 (Sum.inr x)).getD .none) := (r2.val (Sum.inr x)).getD rfl
    rw [kk_val] at z
    exact z
theorem pe_kget2 (D : KD X.K X.w d kvs) (ho : PE X (.Name nm p0) (tC (.ref d))) (he : PE X e ty) (hf : PE X f tx) (m : M2 X (.Name nm p0) "get" apos e f cpos) :
    PE X (.Call (.Attribute (.Name nm p0) "get" apos) [e, f] [] cpos) (fun σ H Q => ty σ H fun y H2 => tx σ H2 fun z H3 => ∃ x, y = .str x ∧ Q ((look kvs x).getD z) H3) := by
  refine ⟨fun pins s σ H Q I h => ?_⟩
  refine wpAny_Call_method m.base m.few m.line PySem.F.plainAttrs_dict PySem.F.slot_dict_get PySem.F.type_dict_get (thn (ho.run pins s σ H (fun v H1 => v = .ref d ∧ H1 = H) I ⟨rfl, rfl⟩) fun u s1 ⟨x, H1, I1, rx, ex, eH⟩ => ?_)
  subst ex
  subst eH
  obtain rfl : u = Value.ref d := rx
  obtain ⟨vs, r1, dd⟩ := D.dictOf (P := X.prog) I1.kIn
  refine ⟨dd.typeIs, fun b q => ?_, ?_⟩
  · cases q
    obtain ⟨ob, _, _, h1, h2, _⟩ := dd
    exact ⟨ob, h1, h2.2.1⟩
  · rw [m.trees]
    refine Calls.callWith_builtin rfl (Calls.evalArgs_plain (Calls.spliced_cons (thn (he.run pins s1 σ _ _ I1 h) fun iv s2 ⟨y, H2, I2, ry, q1⟩ =>
      Calls.spliced_cons (thn (hf.run pins s2 σ H2 _ I2 q1) fun fv s3 ⟨z, H3, I3, rz, x, ey, q2⟩ => Calls.spliced_nil ?_))))
    subst ey
    obtain ⟨vs2, r2, dd2⟩ := D.dictOf (P := X.prog) I3.kIn
    refine call_meetsIn PySem.F.slot_dict_get dd2.typeIs PySem.F.entry_dict_get (PySem.F.args_dict_get_3 _ _ _) (meets_dict_get_default (mixKind X.prog X.w) d (kV_is (k := Sum.inr x) ry) D.low fv) ⟨_, dd2.mapOf, ?_⟩
    refine ⟨_, H3, I3.tok _, ?_, q2⟩
    have y := (r2.val (Sum.inr x)).getD rz
    rw [kk_val] at y
    exact y
/-- dict(D), D a written dict -/
theorem call_dictKD : CallR X (.type "dict") (fun xs H Q => ∃ (d : Addr) (kvs : List (Str × V)), xs = [.ref d] ∧ KD X.K X.w d kvs ∧ ∀ p, H p = none → Q (.ref p) (upd H p (.dK (kk kvs)))) := by
  intro pins s σ H xs us Q I r q
  obtain ⟨d, kvs, rfl, D, q⟩ := q
  obtain ⟨u, rfl, rx⟩ := vals1 r
  cases rx
  obtain ⟨vs, rel, dd⟩ := D.dictOf (P := X.prog) I.kIn
  have few : (kk kvs).length ≤ sizeLine := by
    have := D.few
    rw [kk, List.length_map, sizeLine_eq]
    omega
  refine kt_call_dict D.low dd (by rw [← rel.length]; exact few) fun h' d' hs => ?_
  have hm : (s.heap.objs.size == sysModules) = false := beq_eq_false_iff_ne.mpr (Nat.ne_of_gt I.big)
  exact ⟨.ref s.heap.objs.size, upd H s.heap.objs.size (.dK (kk kvs)), I.laid (t' := s.toks) (fun b u e => (hs.2 b (Nat.ne_of_lt (Heap.lt_size e))).trans (Heap.get?_push_of_some _ e)) (Nat.le_refl _)
    (show ObjOk X.prog X.w _ _ _ (.dK (kk kvs)) from ⟨few, hm, vs, rel, d'⟩), rfl, q _ (I.hok.fresh (Nat.le_refl _))⟩
/-- d.update(e), two dicts of the call's own -/
def rUpdate : V → List V → Hp → VK → Prop := fun x xs H Q => ∃ (a b : Addr) (kvs more : List (Key × V)), x = .ref a ∧ xs = [.ref b] ∧ a ≠ b ∧ H a = some (.dK kvs) ∧ H b = some (.dK more) ∧ kvs.length + more.length ≤ 1000 ∧
  Q .non (upd H a (.dK (mergeK kvs more)))
theorem mt_update : MtR X "dict.update" rUpdate := by
  intro pins s σ H x xs v us Q I rx rs h
  obtain ⟨a, b, kvs, more, rfl, rfl, hab, ha, hb, hz, q⟩ := h
  obtain rfl : v = Value.ref a := rx
  obtain ⟨u, rfl, ru⟩ := vals1 rs
  obtain rfl : u = Value.ref b := ru
  obtain ⟨z1, lo1, vs1, rel1, dd1⟩ := dk_rd I.hok (Rd.of ha)
  obtain ⟨z2, lo2, vs2, rel2, dd2⟩ := dk_rd I.hok (Rd.of hb)
  have hlen : vs1.length + vs2.length ≤ sizeLine := by
    rw [← rel1.length, ← rel2.length, sizeLine_eq]
    omega
  refine call_meetsIn PySem.F.slot_dict_update dd1.typeIs PySem.F.entry_dict_update (PySem.F.args_dict_update_2 _ _) (meets_dict_update (mixKind X.prog X.w) a b hab lo2) ⟨vs1, vs2, dd1, dd2, hlen, fun h' e1 e2 hs => ?_⟩
  have hl : (mergeK kvs more).length ≤ sizeLine := by
    have := length_mergeK more kvs
    rw [sizeLine_eq]
    omega
  obtain ⟨o1, _, _, ho1, _⟩ := id e1
  refine ⟨.non, _, I.write (t' := s.toks) (x := a) (e := a) (o := .dK (mergeK kvs more)) (by rw [ha]; trivial) (.inl rfl) (fun c u hc q => (hs.2 c hc).trans q) ⟨o1, ho1⟩ ⟨hl, lo1, _, KV.merge rel2 rel1, e1⟩, rfl, q⟩
end
end K31
end
/-! part K31G -/
section
set_option Elab.async false
set_option linter.all false
set_option maxRecDepth 100000
set_option maxHeartbeats 4000000
/-! K31G: promises where no repr is under way; repr of data; the law's end with tables of code objects. -/
namespace K31
open PySem PySem.Spec PyProof.Rows L2 LamX

/-! ### repr -/
theorem op_repr {X : Cx} (hg : X.A.guards = some []) (hu : X.A.units + 100 < cLine) : CallR X (.builtin "repr") (fun xs H Q => ∃ (a : Addr) (d : PyData),
    xs = [.ref a] ∧ Dp X.K H (.ref a) d ∧ d.showable = true ∧ d.hasDict = false ∧ d.depth ≤ 90 ∧ d.shown.length ≤ sizeLine ∧ Q (.str d.shown) H) := by
  intro pins s σ H xs us Q I r h
  obtain ⟨a, d, rfl, hd, hs, nd, dp, hz, q⟩ := h
  obtain ⟨u, rfl, rx⟩ := vals1 r
  obtain ⟨as, rr⟩ := Dp.reads I d _ u hd rx
  obtain rfl : u = Value.ref a := rx
  refine repr_of_reads' rr hs (PyData.noDict_hsm nd) hg (by omega) (fun b o e => e) (fun h' tk k hk => ?_) hz
  exact ⟨.str d.shown, H, I.kept hk, ⟨tk, rfl⟩, q⟩

/-! ### a def called where no repr is under way -/
def FnG (P : Program) (w : World) (K : PySem.W.Frag) (mg : Str → Option Value) (base : Heap) (CX : CXT) (k : Nat) (f : Addr) (sp : Sp) : Prop :=
  ∀ (A : Around) (outer : List Env) (s : Shared) (H : Hp) (us : List Value) (vs : List V) (Q : VK) (E : XK), A.guards = some [] → Room k A → Env0 P w K mg base A outer s H → Vals vs us → sp vs H Q E →
    codeAny (model P w) A (.call (.ref f) ⟨us, []⟩) (CR CX outer P w H s Q E) s
theorem deeper_guards (A : Around) (env : Env) : (A.deeper env).guards = A.guards := rfl
section
variable {P : Program} {w : World} {K : PySem.W.Frag} {mg : Str → Option Value} {base : Heap} {CX : CXT}
theorem fnG_of {k : Nat} {f : Addr} {name qual : Str} {st : Stmt} {dV kV doc pm cdv ct oc : Value} {an od : Option Addr} {osl : Array (Option Value)} {N ps : List Str} {sp : Sp}
    (lk : K.lookup f = some ⟨oc, od, .func (PySem.W.fnOf name qual (defArgs st) (defBody st) (defScope st) dV kV doc pm an cdv ct), osl⟩) (hcd : PySem.W.codeIn K cdv qual = true) (S : FnScope N ps (defScope st))
    (hb : Binds K (PySem.W.fnOf name qual (defArgs st) (defBody st) (defScope st) dV kV doc pm an cdv ct) ps []) (len : ∀ vs H Q E, sp vs H Q E → vs.length = ps.length)
    (body : ∀ (A : Around) (outer : List Env) (s : Shared) (H : Hp) (vs : List V) (Q : VK) (E : XK), A.guards = some [] → Room k (A.deeper (envOfC qual (defScope st) s.heap.objs.size f cdv)) → sp vs H Q E →
      ∃ t, PSs (cxOf CX P w K mg base N qual (defScope st) f cdv A outer s H E) (defBody st) t ∧ t { nx := fun _ H' => Q .non H', rt := Q } (start N vs) H) :
    FnG P w K mg base CX (k + 1) f sp := by
  intro A outer s H us vs Q E hg hr e0 r hsp
  have hl := len _ _ _ _ hsp
  have e : us ++ [] = us := List.append_nil us
  have hB := hb s us (e0.mod.kin.keeps fun b o z => (e0.bs b o z).1) (by rw [e, ← r.length, hl])
  rw [e] at hB
  exact run_ofS lk hcd S hr e0 hB r hl fun hr' => body A outer s H vs Q E hg hr' hsp
theorem FnG.mono {j k : Nat} {f : Addr} {sp : Sp} (F : FnG P w K mg base CX j f sp) (h : j ≤ k) : FnG P w K mg base CX k f sp := fun A outer s H us vs Q E hg hr => F A outer s H us vs Q E hg (hr.mono h)
end
section
variable {X : Cx} {CX : CXT} {k : Nat} {f : Addr} {sp : Sp} {E : XK} {x : Str} {p pos : Pos} {e : Expr} {es : List Expr} {t : TA}
theorem pe_callG (hA : X.A.guards = some []) (F : FnG X.prog X.w X.K X.mg X.base CX k f sp) (hr : Room k X.A) (hg : Gl X x) (hm : X.mg x = some (.ref f)) (hk : PySem.W.keepIn X.K (.ref f) = true) (hx : Passes CX X E)
    (ha : PA X (e :: es) t) (hdb : (x == ("__debug__" : Str)) = false := by decide) (he : starEach (e :: es) X.env = (false, eval e X.env) :: starEach es X.env := by rfl) (hpl : (backTo pos (starEach es X.env)).any (·.1) = false := by rfl) :
    PE X (.Call (.Name x p) (e :: es) [] pos) (tCall sp [] E t) := by
  refine ⟨fun pins s σ H Q I h => wpAny_Call_Name_kw (ld_glob I hg hm ?_ hdb)⟩
  refine PySem.W.callWith_K (h₀ := X.base) I.ok.mod.kin hk (thn (ha.run pos pins s σ H _ I h) fun us s1 hh => ?_) he hpl
  obtain ⟨vs, H1, I1, r, q⟩ := hh
  have q' : sp vs H1 Q E := by
    rw [List.append_nil] at q
    exact q
  refine ⟨I1.kIn, wpAny_call (codeAny_mono (F X.A X.stack s1 H1 us vs Q E hA hr I1.env0 r q') fun r s' hq => ?_)⟩
  cases r with
  | error er => exact hx pins σ H1 s1 er s' I1 hq
  | ok fl =>
    cases fl with
    | ret u => exact I1.after hq
    | next => exact False.elim hq
    | brk => exact False.elim hq
    | cont => exact False.elim hq
end

/-! ### the law's end -/
/-- what is tracked at the law's entry: the script (unless it is the module's own), the tables of code objects -/
def entryH (tr : Bool) (a : Addr) (o : Obj) (xs : List V) (ts : List Addr) : Hp := fun b => if tr = true ∧ b = a then some (.frz o (.lst xs)) else if b ∈ ts then some (.tbl #[]) else none
theorem entry_inv {tr : Bool} {a b : Addr} {o : Obj} {xs : List V} {ts : List Addr} {u : HO} (h : entryH tr a o xs ts b = some u) : (tr = true ∧ b = a ∧ u = .frz o (.lst xs)) ∨ (b ∈ ts ∧ u = .tbl #[]) := by
  unfold entryH at h
  split at h
  · rename_i c
    exact .inl ⟨c.1, c.2, (Option.some.inj h).symm⟩
  · split at h
    · rename_i c
      exact .inr ⟨c, (Option.some.inj h).symm⟩
    · cases h
/-- code objects and their tables, over a heap -/
structure Tabled (h : Heap) (K : PySem.W.Frag) (mg : Str → Option Value) (cs : List (Addr × Addr)) : Prop where
  tab : ∀ p ∈ cs, h.get? p.2 = some { cls := .none, data := .fields #[] }
  out : ∀ p ∈ cs, K.lookup p.2 = none
  code : ∀ p ∈ cs, PySem.W.CodeHd h p.1 p.2
  blt : ∃ (bm : Addr) (ob : Obj), mg "__builtins__" = some (.ref bm) ∧ bm ≠ builtinsNs ∧ h.get? bm = some ob ∧ ob.cls = .type "module" ∧ ob.dict = some builtinsNs ∧ ob.data = .plain
section
variable {h : Heap} {K : PySem.W.Frag} {mg mb : Str → Option Value} {cs : List (Addr × Addr)} {tr : Bool} {a : Addr} {vs : List Value} {xs : List V}
theorem tabled_at (T : Tabled h K mg cs) {b : Addr} (hb : b ∈ cs.map (·.2)) : h.get? b = some { cls := .none, data := .fields #[] } := by
  obtain ⟨p, hp, rfl⟩ := List.mem_map.mp hb
  exact T.tab p hp
/-- an object that is neither a list nor a table is not tracked -/
theorem entry_free (T : Tabled h K mg cs) {o : Obj} {b : Addr} {ob : Obj} (ho : h.get? a = some o) (hol : ∃ n, o.data = .seq vs.toArray n) (hb : h.get? b = some ob) (h1 : ∀ z n, ob.data ≠ .seq z n) (h2 : ob.data ≠ .fields #[]) :
    entryH tr a o xs (cs.map (·.2)) b = none := by
  cases e : entryH tr a o xs (cs.map (·.2)) b with
  | none => rfl
  | some u =>
    rcases entry_inv e with ⟨_, e2, _⟩ | ⟨e2, _⟩
    · subst e2
      obtain ⟨n, hn⟩ := hol
      rw [ho] at hb
      cases hb
      exact absurd hn (h1 _ _)
    · rw [tabled_at T e2] at hb
      cases hb
      exact absurd rfl h2
theorem entry_ns (T : Tabled h K mg cs) {o : Obj} {b : Addr} {m : Str → Option Value} (ho : h.get? a = some o) (hol : ∃ n, o.data = .seq vs.toArray n) (hn : h.Ns b m) : (hidT h (entryH tr a o xs (cs.map (·.2)))).Ns b m := by
  obtain ⟨ob, es, ep, e1, e2, e3⟩ := hn
  refine ⟨ob, es, ep, hidT_get e1 (entry_free T ho hol e1 (fun z n q => ?_) fun q => ?_), e2, e3⟩
  · rw [e2] at q
    cases q
  · rw [e2] at q
    cases q
theorem entry_tab (T : Tabled h K mg cs) {o : Obj} (ho : h.get? a = some o) (hol : ∃ n, o.data = .seq vs.toArray n) (hns : h.Ns mainGlobals mg) {p : Addr × Addr} (hp : p ∈ cs) :
    TabB (hidT h (entryH tr a o xs (cs.map (·.2)))) mg p.1 p.2 := by
  refine ⟨?_, ?_, fun z => ?_⟩
  · obtain ⟨oc, us, f1, f2, f3, f4, f5, f6, f7, e1, e2, e3, e4, e5⟩ := T.code p hp
    refine ⟨oc, us, f1, f2, f3, f4, f5, f6, f7, hidT_get e1 (entry_free T ho hol e1 (fun z n q => ?_) fun q => ?_), e2, e3, e4, e5⟩
    · rw [e3] at q
      cases q
    · rw [e3] at q
      injection q with q1
      rw [q1] at e4
      simp at e4
  · obtain ⟨bm, ob, b1, b2, b3, b4, b5, b6⟩ := T.blt
    obtain ⟨og, _, _, g1, g2, _⟩ := hns
    have hpt := T.tab p hp
    refine ⟨bm, ob, b1, b2, fun z => ?_, fun z => ?_, hidT_get b3 (entry_free T ho hol b3 (fun z n q => ?_) fun q => ?_), b4, b5, b6⟩
    · subst z
      rw [g1] at b3
      cases b3
      rw [g2] at b6
      cases b6
    · subst z
      rw [hpt] at b3
      cases b3
      cases b6
    · rw [b6] at q
      cases q
    · rw [b6] at q
      cases q
  · obtain ⟨og, _, _, g1, g2, _⟩ := hns
    have hpt := T.tab p hp
    rw [← z, g1] at hpt
    cases hpt
    cases g2
theorem entry_ok {P : Program} {w : World} (T : Tabled h K mg cs) (ho : h.get? a = some { cls := .type "list", data := .seq vs.toArray }) (hv : Vals xs vs) (hz : xs.length ≤ sizeLine) :
    HOk P w (entryH tr a { cls := .type "list", data := .seq vs.toArray } xs (cs.map (·.2))) h := fun b u e => by
  rcases entry_inv e with ⟨_, rfl, rfl⟩ | ⟨e2, rfl⟩
  · exact ⟨ho, hz, vs, _, hv, ho⟩
  · exact tabled_at T e2
end
/-- the law's call, behind the top -/
theorem law_callG {P : Program} {w : World} {K : PySem.W.Frag} {mg mb : Str → Option Value} {CX : CXT} {k : Nat} {fa a : Addr} {cs : List (Addr × Addr)} {sp : Sp} {s1 : Shared} {vs : List Value} {ns : List Int}
    (KX : K.In s1.heap) (hns : s1.heap.Ns mainGlobals mg) (hb : s1.heap.Ns builtinsNs mb) (hbb : ∀ x : Str, x ≠ "__name__" → mb x = bootBuiltins x) (hlim : s1.heap.NoLimit) (hg : s1.gens = #[]) (T : Tabled s1.heap K mg cs)
    (ha : s1.heap.get? a = some { cls := .type "list", data := .seq vs.toArray }) (hi : IntsAre vs ns) (hl : ns.length ≤ sizeLine) (hr : Room k callerA)
    (F : ∀ base : Heap, K.In base → base.Ns mainGlobals mg → (∀ p ∈ cs, TabB base mg p.1 p.2) → FnG P w K mg base CX k fa sp)
    (hsp : ∀ H : Hp, (∀ p ∈ cs, H p.2 = some (.tbl #[])) → SqL K H a (ns.map V.int) → sp [.ref a] H (fun v _ => v = .bl true) fun _ _ _ => False)
    (hCX : ∀ H e s', CX [] H s1 (fun _ _ _ => False) e s' → False) :
    codeAny (model P w) callerA (.call (.ref fa) ⟨[.ref a], []⟩) (fun r s' => r = .ok (.ret (.bool true)) ∧ OldK s1.heap s'.heap ∧ s'.os = s1.os ∧ AllBare s'.gens) s1 := by
  have rv : Vals (ns.map V.int) vs := vals_ints hi
  have hz : (ns.map V.int).length ≤ sizeLine := by rw [List.length_map]; exact hl
  have ol : ∃ n, ({ cls := .type "list", data := .seq vs.toArray } : Obj).data = .seq vs.toArray n := ⟨_, rfl⟩
  have aT : a ∉ cs.map (·.2) := fun z => by
    have q := tabled_at T z
    rw [ha] at q
    cases q
  have core : ∀ tr : Bool, (tr = true → K.lookup a = none) → SqL K (entryH tr a { cls := .type "list", data := .seq vs.toArray } (ns.map V.int) (cs.map (·.2))) a (ns.map V.int) →
      codeAny (model P w) callerA (.call (.ref fa) ⟨[.ref a], []⟩) (fun r s' => r = .ok (.ret (.bool true)) ∧ OldK s1.heap s'.heap ∧ s'.os = s1.os ∧ AllBare s'.gens) s1 := by
    intro tr hK hS
    generalize hH : entryH tr a { cls := .type "list", data := .seq vs.toArray } (ns.map V.int) (cs.map (·.2)) = H at hS
    have hok : HOk P w H s1.heap := by rw [← hH]; exact entry_ok T ha rv hz
    have hT : ∀ p ∈ cs, H p.2 = some (.tbl #[]) := fun p hp => by
      have hm : p.2 ∈ cs.map (·.2) := List.mem_map.mpr ⟨p, hp, rfl⟩
      rw [← hH]
      unfold entryH
      rw [if_neg (fun z => aT (by rw [← z.2]; exact hm)), if_pos hm]
    have hKb : K.In (hidT s1.heap H) := fun b o e => by
      refine hidT_get (KX b o e) ?_
      cases q : H b with
      | none => rfl
      | some u =>
        rw [← hH] at q
        rcases entry_inv q with ⟨e1, e2, _⟩ | ⟨e2, _⟩
        · rw [e2, hK e1] at e
          cases e
        · obtain ⟨p, hp, e3⟩ := List.mem_map.mp e2
          rw [← e3, T.out p hp] at e
          cases e
    have ns1 : ∀ {b : Addr} {m : Str → Option Value}, s1.heap.Ns b m → (hidT s1.heap H).Ns b m := fun {b m} q => by
      rw [← hH]
      exact entry_ns T ha ol q
    have hM : L2.Mod K mg (hidT s1.heap H) := by
      obtain ⟨mc, l1, l2⟩ := hlim
      exact ⟨hKb, ns1 hns, ⟨mb, ns1 hb, hbb⟩, mc, ns1 l1, l2⟩
    have TB : ∀ p ∈ cs, TabB (hidT s1.heap H) mg p.1 p.2 := fun p hp => by
      rw [← hH]
      exact entry_tab T ha ol hns hp
    have e0 : Env0 P w K mg (hidT s1.heap H) callerA [] s1 H :=
      ⟨rfl, hM, fun b o e => of_hidT e, Nat.le_of_eq (hidT_size _ _), trivial, fun b q => (List.not_mem_nil (show b ∈ ([] : List Addr) from q)).elim, hok, .of_eq hg⟩
    refine codeAny_mono (F _ hKb (ns1 hns) TB callerA [] s1 H [.ref a] [.ref a] _ _ rfl hr e0 (.cons rfl .nil) (hsp H hT hS)) fun r s' q => ?_
    cases r with
    | error e => exact (hCX H e s' q).elim
    | ok fl =>
      cases fl with
      | next => exact False.elim q
      | brk => exact False.elim q
      | cont => exact False.elim q
      | ret u =>
        obtain ⟨v, H', os, bare, un, hok', rv', qv⟩ := q
        obtain rfl : v = .bl true := qv
        obtain rfl : u = Value.bool true := rv'
        have stay : ∀ b o, s1.heap.get? b = some o → b ∉ cs.map (·.2) → s'.heap.get? b = some o := fun b o e nb => by
          cases z : H b with
          | none => exact un.keep b o e z (fun y => (List.not_mem_nil (show b ∈ ([] : List Addr) from y)).elim) (by simp)
          | some u =>
            have z0 := z
            rw [← hH] at z0
            rcases entry_inv z0 with ⟨_, _, e3⟩ | ⟨e2, _⟩
            · rw [e3] at z
              obtain ⟨w1, _⟩ := hok b _ z
              obtain ⟨w2, _⟩ := hok' b _ (un.frzs b _ _ z)
              rw [w2, ← w1]
              exact e
            · exact absurd e2 nb
        have grown : ∀ b, b ∈ cs.map (·.2) → ∃ more : Array Value, s'.heap.get? b = some { cls := .none, data := .fields more } := fun b hb => by
          obtain ⟨p, hp, e3⟩ := List.mem_map.mp hb
          obtain ⟨more, z⟩ := un.tbls p.2 #[] (hT p hp)
          rw [← e3]
          exact ⟨_, hok' p.2 _ z⟩
        refine ⟨rfl, ⟨fun b o e => ?_, fun b o e => ?_⟩, os, bare⟩
        · by_cases hm : b ∈ cs.map (·.2)
          · obtain ⟨more, hmo⟩ := grown b hm
            obtain ⟨p, hp, e3⟩ := List.mem_map.mp hm
            have e4 := tabled_at T hm
            rw [e] at e4
            cases e4
            have ct := ((T.code p hp).tab (T.tab p hp)).isCodeTable
            rw [e3] at ct
            exact .inr (.inl ⟨ct, rfl, #[], more, rfl, by rw [Array.empty_append]; exact hmo⟩)
          · exact .inl (stay b o e hm)
        · by_cases hm : b ∈ cs.map (·.2)
          · obtain ⟨more, hmo⟩ := grown b hm
            exact ⟨_, hmo⟩
          · exact ⟨o, stay b o e hm⟩
  cases hk : K.lookup a with
  | some o =>
    have e := KX a o hk
    rw [ha] at e
    cases e
    refine core false (fun z => by cases z) (.inr ⟨_, vs.toArray, _, hk, rfl, rfl, rfl, ?_, by simpa using rv⟩)
    rw [List.size_toArray, ← rv.length]
    exact hz
  | none => exact core true (fun _ => hk) (.inl (.inr ⟨_, if_pos ⟨rfl, rfl⟩⟩))
/-- what is known of the law's promise at the head's heap -/
def LawG (l : PySem.W.OpenLaw) (w : World) (K : PySem.W.Frag) (CX : CXT) (k n : Nat) (mg : Str → Option Value) (fa : Addr) (h : Heap) : Prop :=
  ∃ (cs : List (Addr × Addr)) (sp : Sp), (∀ p ∈ cs, h.get? p.2 = some { cls := .none, data := .fields #[] }) ∧ (∀ p ∈ cs, K.lookup p.2 = none) ∧ (∀ p ∈ cs, PySem.W.CodeHd h p.1 p.2) ∧
    (∀ (H : Hp) (a : Addr) (ns : List Int), ns.length ≤ n → (∀ p ∈ cs, H p.2 = some (.tbl #[])) → SqL K H a (ns.map V.int) → sp [.ref a] H (fun v _ => v = .bl true) fun _ _ _ => False) ∧
    ∀ base : Heap, K.In base → base.Ns mainGlobals mg → (∀ p ∈ cs, TabB base mg p.1 p.2) → FnG l.prog w K mg base CX k fa sp
theorem walk_ofG {l : PySem.W.OpenLaw} {n k : Nat} {q : Program} {loose : List Str} {XP : (Str → Option Value) → Heap → Prop} {YP : World → Heap → Prop} {d : DefRec} {K : Params → PySem.W.Frag} {CX : World → CXT}
    (hn : l.most = some n) (hn2 : n ≤ sizeLine) (hdf : d.params.defaults = []) (hr : Room k callerA) (hY : ∀ (w : World) (h : Heap), YP w h → (K w.params).In h)
    (F : ∀ (w : World) (mg : Str → Option Value) (fa : Addr) (h : Heap), YP w h → (K w.params).In h → h.Ns mainGlobals mg → mg d.name = some (.ref fa) → LawG l w (K w.params) (CX w) k n mg fa h)
    (hCX : ∀ (w : World) (H : Hp) (s : Shared) (e : Value) (s' : Shared), CX w [] H s (fun _ _ _ => False) e s' → False) :
    PySem.W.WalkO q loose XP YP l.row.toRowW d [] (fun f vs => PySem.call f vs) := by
  refine Att.attach_callB hn hdf fun w s0 s1 mg mb fa o pm cd doc a vs ns G Y ho hd hcd hmg hobj hints hlen _ hg => ?_
  have KX := hY w _ Y
  obtain ⟨cs, sp, hT, nT, C, hsp, hF⟩ := F w mg fa _ Y KX G.T.g hmg
  exact law_callG KX G.T.g G.T.b G.T.builtins G.T.nolimit hg ⟨hT, nT, C, G.T.bmain⟩ hobj hints (Nat.le_trans hlen hn2) hr hF (fun H hH hS => hsp H a ns hlen hH hS) fun H e s' => hCX w H s1 e s'
end K31
end
/-! part K31E -/
section
set_option Elab.async false
set_option linter.all false
set_option maxRecDepth 100000
set_option maxHeartbeats 4000000
/-! K31E: the two errors, made and raised. -/
namespace K31
open PySem PySem.Spec PyProof.Rows L2

/-- the class between: its __init__ is ValueError's -/
structure MidC (K : PySem.W.Frag) (S : Addr) : Prop where
  rd : PySem.W.readsIn K S (.type "type") = true
  ini : PySem.W.findCls K (.ref S) (.type "type") "__init__" = some (.val (.builtin "ValueError.__init__"))
  ga : PySem.W.specialIn K (.ref S) "__getattribute__" = some (some (.builtin "type.__getattribute__"))
section
variable {X : Cx} {o e : Expr} {es : List Expr} {to te : TE} {ta : TA} {f : Str} {p p1 p2 pos : Pos} {S : Addr}
theorem pe_seinit {pl : Sem Bool} (M : MidC X.K S) (hg : Gl X "StepError") (hm : X.mg "StepError" = some (.ref S)) (ha : PA X (e :: es) ta)
    (hc : eval (.Call (.Attribute (.Name "StepError" p1) "__init__" p2) (e :: es) [] pos) X.env = (do
      let ov ← eval (.Name "StepError" p1) X.env
      standAt p2.atName
      let (f, first) ← holding [ov] (getMethod ov "__init__" pl)
      callWith pos f first (backTo pos (starEach (e :: es) X.env)) (backToKw pos (keywordEach [] X.env))) := by rfl)
    (he : starEach (e :: es) X.env = (false, eval e X.env) :: starEach es X.env := by rfl) (hpl : (backTo pos (starEach es X.env)).any (·.1) = false := by rfl) :
    PE X (.Call (.Attribute (.Name "StepError" p1) "__init__" p2) (e :: es) [] pos) (tVeI X.K ta) := by
  refine ⟨fun pins s σ H Q I h => PySem.W.methodCall_KW (ld_glob I hg hm ?_) hc⟩
  refine PySem.W.method_cls I.kIn M.ga (PySem.W.cls_value I.kIn M.rd M.ini (by decide +kernel) ?_)
  show wpAny _ _ (callWith pos (Value.builtin "ValueError.__init__") [] (backTo pos (starEach (e :: es) X.env)) []) _ _ _
  refine PyProof.Rows.callWith_method1 (thn (ha.run pos pins _ σ H _ (I.tok _) h) fun us s1 hh => ?_) he hpl
  obtain ⟨vs, H1, I1, r1, a, C, ws, rfl, hl, T, ea, q⟩ := hh
  cases r1 with
  | @cons _ u0 _ ur ra rw' =>
    obtain rfl : u0 = Value.ref a := ra
    refine oinit_ok T I1 ea ?_ fun s' J => ⟨.non, H1, J, rfl, q⟩
    rw [← Paired.length rw', sizeLine_eq]
    omega
end

/-! ### the texts -/
abbrev sBadTermI : Stmt := inClass (top 3) 0
abbrev sBadTextI : Stmt := inClass (top 4) 0
/-- the errors' classes: T for BadTerm, B for BadText, S between, fT and fB their __init__ -/
structure Errs (K : PySem.W.Frag) (mg : Str → Option Value) (S T B fT fB : Addr) (dT dB : FuncData) : Prop where
  mid : MidC K S
  gS : mg "StepError" = some (.ref S)
  gT : mg "BadTerm" = some (.ref T)
  gB : mg "BadText" = some (.ref B)
  oT : OexC K T
  oB : OexC K B
  nP : PySem.W.findIn K (.ref T) "path" = some none
  nL : PySem.W.findIn K (.ref B) "line" = some none
  nW : PySem.W.findIn K (.ref B) "word" = some none
  iT : PySem.W.findIn K (.ref T) "__init__" = some (some (.ref fT))
  iB : PySem.W.findIn K (.ref B) "__init__" = some (some (.ref fB))
  tT : PySem.W.typeIn K (.ref fT) = some (.type "function")
  tB : PySem.W.typeIn K (.ref fB) = some (.type "function")
  FT : Fun K "__init__" "BadTerm.__init__" sBadTermI fT dT
  FB : Fun K "__init__" "BadText.__init__" sBadTextI fB dB
  xT : XfC K T
  xB : XfC K B
  tt : PySem.W.exmOne K (.ref T) (.ref T) = some true
  bb : PySem.W.exmOne K (.ref B) (.ref B) = some true
  tb : PySem.W.exmOne K (.ref T) (.ref B) = some false
theorem scT : FnScope ["self", "path"] ["self", "path"] (defScope sBadTermI) := ⟨rfl, rfl, rfl, by decide +kernel, rfl, by decide +kernel, by decide +kernel⟩
theorem scB : FnScope ["self", "line", "word"] ["self", "line", "word"] (defScope sBadTextI) := ⟨rfl, rfl, rfl, by decide +kernel, rfl, by decide +kernel, by decide +kernel⟩
def spInitT (C : Addr) : Sp := fun vs H Q _ => ∃ (a : Addr) (v : V), vs = [.ref a, v] ∧ H a = some (exo a C none) ∧ ∀ d, H d = none → d ≠ a → Q .non (upd (upd H d (exd d [("path", v)])) a (exo a C (some d)))
def spInitB (C : Addr) : Sp := fun vs H Q _ => ∃ (a : Addr) (v u : V), vs = [.ref a, v, u] ∧ H a = some (exo a C none) ∧
  ∀ d, H d = none → d ≠ a → Q .non (upd (upd (upd H d (exd d [("line", v)])) a (exo a C (some d))) d (exd d [("word", u), ("line", v)]))
section
variable {P : Program} {w : World} {K : PySem.W.Frag} {mg : Str → Option Value} {base : Heap} {S T B fT fB : Addr} {dT dB : FuncData}
theorem ok_initT (R : Errs K mg S T B fT fB dT dB) : FnOk P w K mg base CX0 1 fT dT ["self", "path"] (spInitT T) := by
  refine R.FT.ok scT (fun vs H Q E h => ?_) (fun cdv A outer s H vs Q E hr h => ?_)
  · obtain ⟨a, v, rfl, _⟩ := h
    rfl
  · obtain ⟨a, v, rfl, ha, k⟩ := h
    refine ⟨_, pss_cons (ps_expr (pe_seinit (pl := _) R.mid rfl R.gS (pa_cons (pv 0) (pa_cons pe_str pa_nil)))) (pss_one (ps_ost (pv 0) (pv 1))), ?_⟩
    refine ⟨_, rfl, a, T, _, rfl, by decide, R.oT, ha, ?_⟩
    exact ⟨_, rfl, _, rfl, a, T, rfl, R.oT, R.nP, .inl ⟨ha, fun d hd hda => k d hd hda⟩⟩
theorem ok_initB (R : Errs K mg S T B fT fB dT dB) : FnOk P w K mg base CX0 1 fB dB ["self", "line", "word"] (spInitB B) := by
  refine R.FB.ok scB (fun vs H Q E h => ?_) (fun cdv A outer s H vs Q E hr h => ?_)
  · obtain ⟨a, v, u, rfl, _⟩ := h
    rfl
  · obtain ⟨a, v, u, rfl, ha, k⟩ := h
    refine ⟨_, pss_cons (ps_expr (pe_seinit (pl := _) R.mid rfl R.gS (pa_cons (pv 0) (pa_cons pe_str pa_nil)))) (pss_cons (ps_ost (pv 0) (pv 1)) (pss_one (ps_ost (pv 0) (pv 2)))), ?_⟩
    refine ⟨_, rfl, a, B, _, rfl, by decide, R.oB, ha, ?_⟩
    refine ⟨_, rfl, _, rfl, a, B, rfl, R.oB, R.nL, .inl ⟨ha, fun d hd hda => ?_⟩⟩
    refine ⟨_, rfl, _, rfl, a, B, rfl, R.oB, R.nW, .inr ⟨d, _, upd_same, by rw [upd_ne hda, upd_same], (by show 1 ≤ 900; decide), ?_⟩⟩
    exact k d hd hda
end
/-- a reading, made monotone -/
def tMo (t : TE) : TE := fun σ H Q => ∃ Q', t σ H Q' ∧ ∀ v H', Q' v H' → Q v H'
theorem pe_mo {X : Cx} {e : Expr} {t : TE} (h : PE X e t) : PE X e (tMo t) := ⟨fun pins s σ H Q I z => by
  obtain ⟨Q', h1, h2⟩ := z
  exact thn (h.run pins s σ H Q' I h1) fun u s' ⟨v, H', I', r, q⟩ => ⟨v, H', I', r, h2 _ _ q⟩⟩
theorem same_upd {H : Hp} {p : Addr} {o : HO} (h : H p = none) : Same H (upd H p o) := fun b u e => by
  rw [upd_ne (ne_of_none e h)]
  exact e
theorem at_ne' {H : Hp} {a b : Addr} {o : HO} (h : H a = some o) (h' : H b = none) : b ≠ a := fun z => by
  rw [z, h] at h'
  cases h'
section
variable {X : Cx} {S T B fT fB : Addr} {dT dB : FuncData} {e e2 : Expr} {te te2 : TE} {p pos pos2 : Pos} {W : WX} {k : Nat}
/-- raise BadTerm(e) -/
theorem ps_raiseT (hc : X.calm = true) (R : Errs X.K X.mg S T B fT fB dT dB) (hr : Room 2 X.A) (tk : Takes X W) (ha : PE X e te) (hg : Gl X "BadTerm")
    (he : starEach (e :: []) X.env = (false, eval e X.env) :: starEach [] X.env := by rfl) (hpl : (backTo pos (starEach [] X.env)).any (·.1) = false := by rfl) :
    PS X (.Raise (some (.Call (.Name "BadTerm" p) [e] [] pos)) none pos2) (fun _ σ H => te σ H fun v H1 => ∀ d H2, Same H1 H2 → H1 d = none → H2 d = some (.xd [("path", v)]) → W (.ref T) (some d) σ H2) := by
  have b := R.FT.binds (ps := ["self", "path"]) fun _ _ _ _ _ _ us hl => match us, hl with | [_, _], _ => rfl
  have mk := ps_raise (pos := pos2) hc tk (pmk_oex (p := p) (pos := pos) (x := "BadTerm") (T := R.oT) R.iT R.tT (ok_initT R) hr b .nil pass0 hg R.gT (pa_cons (pe_mo ha) pa_nil he) (by decide) he hpl)
  refine ⟨fun pins s σ H D I h => mk.run pins s σ H D I ⟨_, h, fun v H1 q => ⟨by show 1 ≤ 1000; decide, fun a na => ?_⟩⟩⟩
  refine ⟨a, v, rfl, upd_same, fun d hd hda => ⟨rfl, d, [("path", v)], upd_same, by rw [upd_ne hda, upd_same], ?_, ?_⟩⟩
  · rw [upd_ne hda] at hd
    exact hd
  · have nd : H1 d = none := by
      rw [upd_ne hda] at hd
      exact hd
    refine q d _ (fun b o eb => ?_) nd upd_same
    have b1 : b ≠ d := ne_of_none eb nd
    have b2 : b ≠ a := ne_of_none eb na
    rw [upd_ne b1, del_ne b2, upd_ne b2, upd_ne b1, upd_ne b2]
    exact eb
/-- raise BadText(e, e2) -/
theorem ps_raiseB (hc : X.calm = true) (R : Errs X.K X.mg S T B fT fB dT dB) (hr : Room 2 X.A) (tk : Takes X W) (ha : PE X e te) (hb : PE X e2 te2) (hg : Gl X "BadText")
    (he : starEach [e, e2] X.env = (false, eval e X.env) :: starEach [e2] X.env := by rfl) (he2 : starEach [e2] X.env = (false, eval e2 X.env) :: starEach [] X.env := by rfl) (hpl : (backTo pos (starEach [e2] X.env)).any (·.1) = false := by rfl) :
    PS X (.Raise (some (.Call (.Name "BadText" p) [e, e2] [] pos)) none pos2)
      (fun _ σ H => te σ H fun v H0 => tMo te2 σ H0 fun u H1 => ∀ d H2, Same H1 H2 → H1 d = none → H2 d = some (.xd [("word", u), ("line", v)]) → W (.ref B) (some d) σ H2) := by
  have b := R.FB.binds (ps := ["self", "line", "word"]) fun _ _ _ _ _ _ us hl => match us, hl with | [_, _, _], _ => rfl
  have mk := ps_raise (pos := pos2) hc tk (pmk_oex (p := p) (pos := pos) (x := "BadText") (T := R.oB) R.iB R.tB (ok_initB R) hr b .nil pass0 hg R.gB (pa_cons (pe_mo ha) (pa_cons (pe_mo hb) pa_nil he2) he) (by decide) he hpl)
  refine ⟨fun pins s σ H D I h => mk.run pins s σ H D I ⟨_, h, fun v H0 q0 => ?_⟩⟩
  obtain ⟨Q1, q1, q2⟩ := q0
  refine ⟨Q1, q1, fun u H1 q3 => ⟨by show 2 ≤ 1000; decide, fun a na => ?_⟩⟩
  have q := q2 u H1 q3
  refine ⟨a, v, u, rfl, upd_same, fun d hd hda => ⟨rfl, d, [("word", u), ("line", v)], ?_, upd_same, ?_, ?_⟩⟩
  · rw [upd_ne (Ne.symm hda), upd_same]
  · rw [upd_ne hda] at hd
    exact hd
  · have nd : H1 d = none := by
      rw [upd_ne hda] at hd
      exact hd
    refine q d _ (fun b o eb => ?_) nd upd_same
    have b1 : b ≠ d := ne_of_none eb nd
    have b2 : b ≠ a := ne_of_none eb na
    rw [upd_ne b1, del_ne b2, upd_ne b1, upd_ne b2, upd_ne b1, upd_ne b2]
    exact eb
end
end K31
end
/-! part K31H -/
section
set_option Elab.async false
set_option linter.all false
set_option maxRecDepth 100000
set_option maxHeartbeats 4000000
/-! K31H: try with several clauses that name the error; lambdas (with a default too) handed to _law_heard. -/
namespace K31
open PySem PySem.Spec PyProof.Rows L2 LamX

/-! ### try: .. except X as n: .. except Y as n: .. -/
abbrev Clause := Value × (Addr → Value → Option Addr → TS)
/-- the ends of a clause's suite: the name goes -/
def goneD (i : Nat) (D : Ends) : Ends := { nx := fun σ H => D.nx (σ.set i none) H, rt := D.rt, bk := fun σ H => D.bk (σ.set i none) H, ct := fun σ H => D.ct (σ.set i none) H }
/-- one of the clauses takes it -/
def wAsL (K : PySem.W.Frag) (i : Nat) (D : Ends) : List Clause → WX
  | [] => fun _ _ _ _ => False
  | (c, ts) :: r => fun cls d σ H => ∃ b, PySem.W.exmOne K cls c = some b ∧ (b = true → ∀ a, H a = none → ts a cls d (goneD i D) (σ.set i (some (.ref a))) H) ∧ (b = false → wAsL K i D r cls d σ H)
inductive AsOk (X : Cx) (n : Str) : List ExceptHandler → List Clause → Prop
  | nil : AsOk X n [] []
  | cons {x : Str} {c : Value} {ts : Addr → Value → Option Addr → TS} {st : Stmt} {sts : List Stmt} {p q : Pos} {hs : List ExceptHandler} {l : List Clause} (hc : Names X x c)
      (run : ∀ (a : Addr) (ob : Obj) (cls : Value) (d : Option Addr) (pn : List (Addr × Obj)), Zc cls d ob → (∃ vs, ob.data = .fields vs) → PSs (X.suite a ((a, ob) :: pn)) (st :: sts) (ts a cls d)) (rest : AsOk X n hs l) :
      AsOk X n (.ExceptHandler (some (.Name x p)) (some n) (st :: sts) q :: hs) ((c, ts) :: l)
section
variable {X : Cx} {n : Str} {i : Nat} {body : List Stmt} {h1 : ExceptHandler} {hs : List ExceptHandler} {l : List Clause} {pos : Pos} {tb : WX → TS}
theorem ps_try_asL (stk : X.stack = X.env :: X.outer) (fr : X.env.frame = some X.env.locals) (nd : X.N.Nodup) (hi : X.N[i]? = some n) (loc : X.env.kindOf n = some .local)
    (hb : ∀ (W : WX) (pn : List (Addr × Obj)) (xe : Value → Shared → Prop), Takes (X.tr pn xe) W → PSs (X.tr pn xe) body (tb W)) (hh : AsOk X n (h1 :: hs) l) :
    PS X (.Try body (h1 :: hs) [] [] pos) (fun D σ H => tb (wAsL X.K i D l) D σ H) := by
  refine ⟨fun pins s σ H D I h => wpAny_Try_except ?_⟩
  have ok := I.ok
  have frames : X.A.frames = some (X.env :: X.outer) := ok.frames.trans (congrArg some stk)
  refine wpAny_mono ((hb (wAsL X.K i D l) (X.pn ++ pins) (fun e t1 => wpAny (model X.prog X.w) X.A (noteFrame e X.env) (fun _ t2 => wpAny (model X.prog X.w) X.A (setFlight e none)
    (fun _ t3 => wpAny (model X.prog X.w) X.A (handleBy e X.env (h1 :: hs)) (SP X pins D) X.xe t3) X.xe t2) X.xe t1) (fun u s' caught => ?_)).run [] s σ H D (I.toTry _) h) (fun f t hsp => ?_) fun _ _ z => z
  · obtain ⟨a, B, t0, pins', σ', H', cls, d, rfl, J', base, up, sky, na, os, bare, wish⟩ := caught
    have J : Inv X pins σ' H' t0 := J'.ofTry ok
    rw [stk] at sky
    show wpAny (model X.prog X.w) X.A (noteFrame (.ref a) X.env) _ _ _
    refine Sky.land Zc.steady frames fr sky fun g3 fly3 u3 => ?_
    have J3 : Inv X pins σ' H' { s' with heap := g3 } := J.landed base fly3.1 (up.trans u3) os bare
    obtain ⟨ob3, vs3, at3, z3, d3⟩ := fly3.there
    have off : a ∉ frs (X.env :: X.outer) := fun hm => by
      obtain ⟨_, o', e', hnf⟩ := fly3.2.2.1.mem hm
      rw [at3] at e'
      cases e'
      exact hnf _ d3
    have offL : a ≠ X.env.locals := fun z => off (List.mem_filterMap.mpr ⟨X.env, List.mem_cons_self, fr.trans (congrArg some z.symm)⟩)
    have offF : a ∉ X.fs := fun hm => by
      obtain ⟨e, he, q⟩ := List.mem_filterMap.mp hm
      exact off (List.mem_filterMap.mpr ⟨e, List.mem_cons_of_mem _ he, q⟩)
    have S3 := J3.suite at3 d3 na offL offF
    have look : PySem.W.Looks (model X.prog X.w) g3 (typeOf (.ref a)) cls := fun A Q E s k q => wpAny_typeOf_ref (k _ _ at3) (by rw [z3.1]; exact q)
    have go : ∀ {hs' : List ExceptHandler} {l' : List Clause}, AsOk X n hs' l' → wAsL X.K i D l' cls d σ' H' → wpAny (model X.prog X.w) X.A (handleBy (.ref a) X.env hs') (SP X pins D) X.xe { s' with heap := g3 } := by
      intro hs' l' hk
      induction hk with
      | nil => exact fun z => z.elim
      | @cons x c ts st sts p q hs2 l2 hc run rest ih =>
        rintro ⟨b, eb, yes, no⟩
        refine wpAny_handleBy_cons (codeAny_handlers_test ?_) nofun
        have hit := PySem.W.exm_one (M := model X.prog X.w) J3.kIn look eb
        have ask : ∀ {Q : Value → Shared → Prop} {E : Value → Shared → Prop}, Q c { s' with heap := g3 } → wpAny (model X.prog X.w) (X.A.mark (some (.ref a))) (eval (.Name x p) X.env) Q E { s' with heap := g3 } := fun {Q E} w => by
          obtain ⟨hg, hd, hm | ⟨hm, hv, hnn⟩⟩ := hc
          · exact ld_glob (X := X.suite a ((a, ob3) :: (X.pn ++ pins))) S3 hg hm w hd
          · exact ld_blt (X := X.suite a ((a, ob3) :: (X.pn ++ pins))) S3 hg hm hv w hnn hd
        refine ask (hit.here ?_)
        cases b with
        | false => exact ih (no rfl)
        | true =>
          refine codeAny_handlers_suite_as (HandSPX.lands_againZ fly3 fun g4 fly4 u4 => ?_)
          have J4 : Inv X pins σ' H' { s' with heap := g4 } := J.landed base fly4.1 ((up.trans u3).trans u4) os bare
          obtain ⟨ob4, vs4, at4, z4, d4⟩ := fly4.there
          have S4 := J4.suite at4 d4 na offL offF
          refine store_ok (X := X.suite a ((a, ob4) :: (X.pn ++ pins))) (v := .ref a) S4 nd hi (.inl loc) rfl (fun t5 S5 => ?_) (.inr loc)
          refine wpAny_mono ((run a ob4 cls d (X.pn ++ pins) z4 ⟨_, d4⟩).run [] t5 _ H' _ S5 (yes rfl a na)) (fun f t6 hsp => ?_) fun _ _ z => z.elim
          have fin : ∀ {σ6 : L2.St} {H6 : Hp} {Q : Shared → Prop}, Inv (X.suite a ((a, ob4) :: (X.pn ++ pins))) [] σ6 H6 t6 → (∀ t7, Inv X pins (σ6.set i none) H6 t7 → Q t7) →
              wpAny (model X.prog X.w) X.A (do bindName X.env n .none; unbindBehindTheSuite X.env n q) (fun _ t7 => Q t7) X.xe t6 := fun {σ6 H6 Q} S6 hq => gone_ok (S6.unsuite ok) nd hi loc hq
          cases f with
          | next =>
            obtain ⟨σ6, H6, S6, q6⟩ := hsp
            exact fin S6 fun t7 J7 => ⟨_, _, J7, q6⟩
          | brk =>
            obtain ⟨σ6, H6, S6, q6⟩ := hsp
            exact fin S6 fun t7 J7 => ⟨_, _, J7, q6⟩
          | cont =>
            obtain ⟨σ6, H6, S6, q6⟩ := hsp
            exact fin S6 fun t7 J7 => ⟨_, _, J7, q6⟩
          | ret u =>
            obtain ⟨v6, σ6, H6, S6, r6, q6⟩ := hsp
            exact fin S6 fun t7 J7 => ⟨_, _, _, J7, r6, q6⟩
    exact go hh wish
  · cases f with
    | next =>
      obtain ⟨σ', H', J', q⟩ := hsp
      exact wpAny_execs_nil ⟨σ', H', J'.ofTry ok, q⟩
    | brk =>
      obtain ⟨σ', H', J', q⟩ := hsp
      exact ⟨σ', H', J'.ofTry ok, q⟩
    | cont =>
      obtain ⟨σ', H', J', q⟩ := hsp
      exact ⟨σ', H', J'.ofTry ok, q⟩
    | ret u =>
      obtain ⟨v, σ', H', J', r, q⟩ := hsp
      exact ⟨v, σ', H', J'.ofTry ok, r, q⟩
end

/-! ### lambdas: no parameter, or one with an integer as its default; one captured name -/
structure LamOk (sc scope : Scope) (nm : Str) : Prop where
  kind : scope.kind = .function
  co : scope.isCoroutine = false
  gen : scope.isGenerator = false
  nocell : ∀ y ∈ scope.names, y.2 ≠ .cell
  only : ∀ y ∈ scope.names, y.2 = .free → y.1 = nm
  free : scope.names.lookup nm = some .free
  cell : sc.names.lookup nm = some .cell
/-- its parameters: none, or with defaults that are integers -/
inductive LamPar (params : Arguments) (scope : Scope) : Prop
  | plain (h : ∀ env, defaultsOf params env = ([], [])) (b : ∀ (q : Str) (body : Expr) (cl : List (Str × Addr)) (doc pm cv ctv : Value), bindArgs (PySem.W.kdv_fn "<lambda>" q params (.expr body) scope cl .none doc pm cv ctv) ⟨[], []⟩ = pure [])
  | dflt (z : Int) (j : Nat) (p : Pos) (x : Str) (h : params.defaults = [.Constant (.int z) j p]) (h0 : params.kw_defaults = []) (l : scope.names.lookup x = some .local)
      (b : ∀ (q : Str) (body : Expr) (cl : List (Str × Addr)) (t : Addr) (doc pm cv ctv : Value), ∃ k : Option (Array Value) → Sem (List (Str × Value)), bindArgs (PySem.W.kdv_fn "<lambda>" q params (.expr body) scope cl (.ref t) doc pm cv ctv) ⟨[], []⟩ = seqItems? (.ref t) >>= k ∧
        ∀ u : Value, k (some #[u]) = pure [(x, u)])
section
variable {X : Cx} {pins : List (Addr × Obj)} {σ : L2.St} {H : Hp} {s : Shared}
/-- what stands for the defaults -/
def DfltAt (H : Hp) (params : Arguments) (scope : Scope) (dV : Value) : Prop :=
  (dV = .none ∧ ∀ (q : Str) (body : Expr) (cl : List (Str × Addr)) (doc pm cv ctv : Value), bindArgs (PySem.W.kdv_fn "<lambda>" q params (.expr body) scope cl .none doc pm cv ctv) ⟨[], []⟩ = pure []) ∨
  ∃ (t : Addr) (x : Str) (v : V), dV = .ref t ∧ H t = some (.tup [v]) ∧ scope.names.lookup x = some .local ∧
    ∀ (q : Str) (body : Expr) (cl : List (Str × Addr)) (doc pm cv ctv : Value), ∃ k : Option (Array Value) → Sem (List (Str × Value)), bindArgs (PySem.W.kdv_fn "<lambda>" q params (.expr body) scope cl (.ref t) doc pm cv ctv) ⟨[], []⟩ = seqItems? (.ref t) >>= k ∧
        ∀ u : Value, k (some #[u]) = pure [(x, u)]
theorem DfltAt.mono {H H' : Hp} {params : Arguments} {scope : Scope} {dV : Value} (d : DfltAt H params scope dV) (k : ∀ b xs, H b = some (.tup xs) → H' b = some (.tup xs)) : DfltAt H' params scope dV := by
  rcases d with d | ⟨t, x, v, e, ht, l, b⟩
  · exact .inl d
  · exact .inr ⟨t, x, v, e, k _ _ ht, l, b⟩
/-- the arguments bind -/
theorem DfltAt.binds {params : Arguments} {scope : Scope} {dV : Value} (d : DfltAt H params scope dV) (ok : HOk X.prog X.w H s.heap) (q : Str) (body : Expr) (cl : List (Str × Addr)) (doc pm cv ctv : Value) :
    ∃ bs : List (Str × Value), BindsTo s (PySem.W.kdv_fn "<lambda>" q params (.expr body) scope cl dV doc pm cv ctv) ⟨[], []⟩ bs ∧ ∀ y ∈ bs, scope.names.lookup y.1 = some .local := by
  rcases d with ⟨rfl, b⟩ | ⟨t, x, v, rfl, ht, l, b⟩
  · exact ⟨[], .of_eq (b _ _ _ _ _ _ _), fun y hy => (List.not_mem_nil hy).elim⟩
  · obtain ⟨k, b1, b2⟩ := b q body cl doc pm cv ctv
    obtain ⟨_, its, rv, o, o1, o2, n, o3⟩ := (show ObjOk X.prog X.w H s.heap t (.tup [v]) from ok t _ ht)
    cases rv with
    | cons r1 r2 =>
      rename_i u us
      cases r2
      exact ⟨[(x, u)], .of_defaults rfl o1 o3 b1 (b2 u), fun y hy => by rw [List.mem_singleton.mp hy]; exact l⟩
/-- the function object of the lambda, its defaults told; the making goes on with the code object -/
theorem lam_make3 {T : List (Addr × Str)} {c P : Addr} {params : Arguments} {body : Expr} {scope : Scope} {pos : Pos} {E : Value → Shared → Prop} {Q : Value → Shared → Prop} (I : Inv X pins σ H s) (TB : TabB X.base X.mg c P) (hcode : X.env.code = .ref c)
    (hm : (P, X.env.qual ++ "<lambda>") ∈ T) (hu : ∀ p ∈ T, p.1 = P → p.2 = X.env.qual ++ "<lambda>") (hT : Tabs T H) (pa : LamPar params scope) (hfree : ∀ y ∈ scope.names, y.2 = .free → ∃ c, X.env.cells.lookup y.1 = some c)
    (h : ∀ (f c' : Addr) (dV doc pm ctv : Value) (H1 : Hp) (s' : Shared), Inv X pins σ H1 s' → ExtN H H1 → Tabs T H1 → DfltAt H1 params scope dV →
      s'.heap.get? f = some (PySem.W.kdv_obj "<lambda>" (X.env.qual ++ "<lambda>") params (.expr body) scope (cloFrom X.env.cells scope.names []) dV doc pm c' ctv) → H1 f = none → f ∉ frs X.stack → H1 c' = some (CodeO c' (X.env.qual ++ "<lambda>")) → Q (.ref f) s') :
    wpAny (model X.prog X.w) X.A (eval (.Lambda params body scope pos) X.env) Q E s := by
  have noFr : ∀ {s0 : Shared} {H0 : Hp}, Inv X pins σ H0 s0 → ∀ f, s0.heap.objs.size ≤ f → f ∉ frs X.stack := fun {s0 H0} J f hf z => by
    rcases List.mem_cons.mp (J.stkSub _ z) with e | e
    · exact Nat.lt_irrefl _ (Nat.lt_of_lt_of_le J.lt (e ▸ hf))
    · exact J.nofs hf e
  have mk : ∀ (dV : Value) (H0 : Hp) (s0 : Shared), Inv X pins σ H0 s0 → ExtN H H0 → Tabs T H0 → DfltAt H0 params scope dV →
      wpAny (model X.prog X.w) X.A (makeTail "<lambda>" (X.env.qual ++ "<lambda>") params (.expr body) scope X.env dV .none none pos pos.line) Q E s0 := by
    intro dV H0 s0 J e0 T0 D0
    obtain ⟨ps, tP, tt, ta⟩ := T0 _ hm
    have bP : s0.heap.BuiltinsAt X.mg P := TB.bm.keeps J.bk
    have atP : s0.heap.get? P = some { cls := .none, data := .fields ps } := J.hok P _ tP
    cases hc : codeAmong pos ps.toList with
    | some cv =>
      obtain ⟨c', rfl, hco⟩ := ta pos cv hc
      refine PySem.W.kdv_makeTailHit (mg := X.mg) (c := c) (P := P) (ps := ps) (closure_ok hfree) J.ok.glob (J.mod.glob.keeps J.bk) hcode (TB.code.keeps J.bk) atP tt hc bP fun ctv doc h' tk hx hsz => ?_
      exact h _ c' dV doc _ ctv H0 _ (J.kept (t' := tk) fun b o e => Heap.get?_push_of_some _ (hx b o e)) e0 T0 D0 (Heap.get?_push_size _ rfl) (J.hok.fresh hsz) (noFr J _ hsz) hco
    | none =>
      refine PySem.W.kdv_makeTail (mg := X.mg) (c := c) (P := P) (ps := ps) (closure_ok hfree) J.ok.glob (J.mod.glob.keeps J.bk) hcode (TB.code.keeps J.bk) atP tt hc TB.gP bP fun c' ctv doc h' tk hx hge hlt hrec htb => ?_
      obtain ⟨c2, oc, vs, t, e2, hoc, hd, hv⟩ := hrec
      cases e2
      have big : s0.heap.objs.size ≤ h'.objs.size := Nat.le_trans hge (Nat.le_of_lt hlt)
      have nC : H0 c' = none := J.hok.fresh hge
      have hPc : P ≠ c' := ne_of_none tP nC
      have J1 := inv_table (t' := tk) (more := #[rawInt pos.line, rawInt pos.col, .ref c']) (h' := h'.push (PySem.W.kdv_obj "<lambda>" (X.env.qual ++ "<lambda>") params (.expr body) scope (cloFrom X.env.cells scope.names []) dV doc ((X.mg "__name__").getD .none) c' ctv)) J tP
        (fun b o hb e => Heap.get?_push_of_some _ (hx b o hb e)) (Heap.get?_push_of_some _ htb) hge ⟨oc, vs, t, Heap.get?_push_of_some _ hoc, hd, hv⟩
      have eE : ExtN H0 (upd (upd H0 P (.tbl (ps ++ #[rawInt pos.line, rawInt pos.col, .ref c']))) c' (CodeO c' (X.env.qual ++ "<lambda>"))) := fun b o e nb => by
        have b1 : b ≠ c' := ne_of_none e nC
        have b2 : b ≠ P := fun z => by
          rw [z, tP] at e
          exact nb ps (Option.some.inj e).symm
        rw [upd_ne b1, upd_ne b2]
        exact e
      have eL : (ps ++ #[rawInt pos.line, rawInt pos.col, .ref c']).toList = ps.toList ++ [rawInt pos.line, rawInt pos.col, .ref c'] := by simp
      have T1 : Tabs T (upd (upd H0 P (.tbl (ps ++ #[rawInt pos.line, rawInt pos.col, .ref c']))) c' (CodeO c' (X.env.qual ++ "<lambda>"))) := fun p hp => by
        obtain ⟨qs, a1, a2, a3⟩ := T0 p hp
        by_cases hb : p.1 = P
        · rw [hu p hp hb, hb]
          refine ⟨_, (upd_ne hPc).trans upd_same, by rw [eL]; exact PySem.TriplesOk_snoc _ _ _ _ tt, fun p' cv hcv => ?_⟩
          rw [eL] at hcv
          rcases among_app _ tt hcv with z | z
          · obtain ⟨c0, x1, x2⟩ := ta p' cv z
            exact ⟨c0, x1, eE _ _ x2 codeO_ne⟩
          · exact ⟨c', z, upd_same⟩
        · refine ⟨qs, (upd_ne (ne_of_none a1 nC)).trans ((upd_ne hb).trans a1), a2, fun p' cv hcv => ?_⟩
          obtain ⟨c0, x1, x2⟩ := a3 p' cv hcv
          exact ⟨c0, x1, eE _ _ x2 codeO_ne⟩
      refine h _ c' dV doc _ ctv _ _ J1 (e0.trans eE) T1 (D0.mono fun b xs e => eE b _ e fun q z => by cases z) (Heap.get?_push_size _ rfl) ?_ (noFr J _ big) upd_same
      have n1 : h'.objs.size ≠ c' := Nat.ne_of_gt hlt
      have n2 : h'.objs.size ≠ P := Nat.ne_of_gt (Nat.lt_of_lt_of_le (Heap.lt_size atP) big)
      rw [upd_ne n1, upd_ne n2]
      exact J.hok.fresh big
  cases pa with
  | plain hd hb =>
    refine PySem.W.kla_eval (hd _) ?_
    rw [makeFunction_eq]
    simp only [List.zip_nil_right, List.filterMap_nil, List.isEmpty_nil, if_true, pure_bind]
    exact mk .none H s I (ExtN.refl H) hT (.inl ⟨rfl, hb⟩)
  | dflt z j p x hd h0 l hb =>
    refine PySem.W.kdv_lam (by rw [hd]; rfl) h0 ?_
    rw [hd]
    refine PySem.W.kdv_all1 (wpAny_Constant_int (PySem.W.kdv_all0 ?_))
    rw [makeFunction_eq]
    simp only [List.zip_nil_right, List.filterMap_nil, List.isEmpty_nil, if_true, pure_bind, List.isEmpty_cons, Bool.false_eq_true, if_false]
    refine wpAny_bind (wpAny_newTextTuple ?_)
    have nt : H s.heap.objs.size = none := I.hok.fresh (Nat.le_refl _)
    have J : Inv X pins σ (upd H s.heap.objs.size (.tup [.int z])) { s with heap := s.heap.push { cls := .type "tuple", data := .seq [Value.int z s.toks].toArray }, toks := s.toks + 1 } :=
      I.laid (t' := s.toks + 1) (fun b u e => Heap.get?_push_of_some _ e) (Nat.le_refl _) ⟨(by show 1 ≤ sizeLine; decide), [Value.int z s.toks], .cons ⟨_, rfl⟩ .nil, ⟨_, Heap.get?_push_size _ rfl, rfl, _, rfl⟩⟩
    have eS : Same H (upd H s.heap.objs.size (.tup [.int z])) := same_upd nt
    exact mk (.ref s.heap.objs.size) _ _ J (ExtN.of eS) (hT.ext eS) (.inr ⟨_, x, .int z, rfl, upd_same, l, fun q body cl doc pm cv ctv => hb q body cl _ doc pm cv ctv⟩)
end

abbrev lamEnv3 (X : Cx) (scope : Scope) (L f c' : Addr) : Env := PySem.W.envX (X.env.qual ++ "<lambda>") scope L f (.ref c') (cloFrom X.env.cells scope.names [])
/-- the context of the lambda's body: one name, captured -/
def lamCx3 (X : Cx) (nm : Str) (A : Around) (outer : List Env) (s : Shared) (H : Hp) (E : XK) (scope : Scope) (f c' : Addr) : Cx where
  prog := X.prog
  w := X.w
  K := X.K
  mg := X.mg
  base := X.base
  A := A.deeper (lamEnv3 X scope s.heap.objs.size f c')
  N := [nm]
  s_0 := s
  H_0 := H
  env := lamEnv3 X scope s.heap.objs.size f c'
  outer := outer
  stack := lamEnv3 X scope s.heap.objs.size f c' :: outer
  ex := []
  fn := fun _ => false
  calm := true
  pn := []
  xe := fun e s' => wpAny (model X.prog X.w) (A.deeper (lamEnv3 X scope s.heap.objs.size f c')) (leaving (lamEnv3 X scope s.heap.objs.size f c') e) (fun _ s2 => L2.CX X.prog X.w outer H s E e s2) (fun e' s2 => L2.CX X.prog X.w outer H s E e' s2) s'
section
variable {X : Cx} {pins : List (Addr × Obj)} {σ : L2.St} {H HZ : Hp} {s s1 : Shared}
theorem LamOk.has {nm : Str} {scope : Scope} (L : LamOk X.env.scope scope nm) (ok : X.Ok) : ∀ y ∈ scope.names, y.2 = .free → ∃ c, X.env.cells.lookup y.1 = some c := fun y hy e => by
  rw [L.only y hy e]
  exact ok.has _ (.inl L.cell)
theorem lam_start3 {nm : Str} {i : Nat} {v : V} {A : Around} {outer : List Env} {E : XK} {scope : Scope} {f c' : Addr} {g : Heap} {tk : Nat} {m : Str → Option Value} (I : Inv X pins σ H s) (L : LamOk X.env.scope scope nm) (hi : X.N[i]? = some nm) (hσ : σ[i]? = some (some v))
    (e0 : Env0 X.prog X.w X.K X.mg X.base A outer s1 HZ) (hd : A.handled = none) (un : Un (frs X.stack) [] H HZ s.heap s1.heap) (hns : g.Ns s1.heap.objs.size m) (kp : ∀ b o, s1.heap.get? b = some o → g.get? b = some o) :
    Inv (lamCx3 X nm A outer s1 HZ E scope f c') [] [some v] HZ { s1 with heap := g, toks := tk } := by
  obtain ⟨cN, hcN⟩ := I.ok.has nm (.inl L.cell)
  -- the closure has nothing but the captured cell
  have inC : ∀ {y c}, (y, c) ∈ cloFrom X.env.cells scope.names [] → y = nm ∧ c = cN := fun {y c} hm => by
    rcases cloFrom_mem hm with z | ⟨h1, h2⟩
    · exact (List.not_mem_nil z).elim
    · obtain rfl : y = nm := L.only _ h1 rfl
      exact ⟨rfl, by rw [h2, hcN] <;> rfl⟩
  have lk : ∀ {y c}, (cloFrom X.env.cells scope.names []).lookup y = some c → y = nm ∧ c = cN := fun {y c} e => inC (PySem.mem_of_lookup e)
  have at_ : (cloFrom X.env.cells scope.names []).lookup nm = some cN := by
    obtain ⟨c1, h1⟩ := L2.mem_lookup (cloFrom_has (cells := X.env.cells) (acc := []) (PySem.mem_of_lookup L.free))
    rw [h1, (lk h1).2]
  have cellK : ∀ {v : Option Value}, s.heap.IsCell cN v → g.IsCell cN v := fun {v} z => by
    obtain ⟨o, ho, hdt⟩ := z
    obtain ⟨sl, q⟩ := un.any ho (I.freeC nm cN hcN) (by simp)
    exact ⟨_, kp _ _ q, hdt⟩
  obtain ⟨w0, z0⟩ := I.cell nm cN hcN
  have nox : ∀ b : Addr, b ∉ (lamCx3 X nm A outer s1 HZ E scope f c').ex := fun b z => (List.not_mem_nil (show b ∈ ([] : List Addr) from z)).elim
  refine ⟨⟨e0.mod, L.kind, rfl, rfl, Nat.le_refl _, fun y z c e1 e2 => (lk e1).1.trans (lk e2).1.symm, fun y hy => ?_, fun y c z _ => ?_, fun _ => hd, Around.frames_deeper e0.frames, .inr ⟨rfl, rfl⟩, fun b z => (nox b z).elim, e0.bs, e0.bsz, fun b _ _ => nox b,
      fun b z => (nox b z).elim, e0.funs, e0.frf⟩,
    rfl, e0.bare, Un.kept kp, ⟨_, hns, fun j y u e1 e2 e3 => ?_⟩, fun y c e => ?_, e0.hok.fresh (Nat.le_refl _), fun y c e => ?_, fun q hq => (List.not_mem_nil (show q ∈ ([] : List (Addr × Obj)) from hq)).elim, e0.hok.kept kp, rfl⟩
  · have hy : scope.names.lookup y = some .cell ∨ scope.names.lookup y = some .free := hy
    rcases hy with hy | hy
    · exact absurd rfl (L.nocell _ (PySem.mem_of_lookup hy))
    · obtain rfl : y = nm := L.only _ (PySem.mem_of_lookup hy) rfl
      exact ⟨cN, at_⟩
  · cases (show false = true from z)
  · match j, e1, e2 with
    | 0, e1, e2 =>
      obtain rfl : nm = y := Option.some.inj e1
      obtain rfl : v = u := Option.some.inj (Option.some.inj e2)
      obtain ⟨m1, hn, hl⟩ := I.loc
      obtain ⟨u', r, q⟩ := hl i nm v hi hσ (.inr (.inl L.cell))
      refine ⟨u', r, .inr ⟨.inr L.free, cN, at_, ?_⟩⟩
      rcases q with ⟨k', _⟩ | ⟨_, c3, e', z⟩
      · have k2 : X.env.scope.names.lookup nm = some .local := k'
        rw [L.cell] at k2
        cases k2
      · rw [hcN] at e'
        cases e'
        exact cellK z
  · obtain ⟨e1, e2⟩ := lk e
    rw [e2]
    exact ⟨w0, cellK z0⟩
  · obtain ⟨e1, e2⟩ := lk e
    rw [e2]
    obtain ⟨o, ho, _⟩ := z0
    exact un.free cN o ho (I.freeC nm cN hcN) (by simp)
/-- a(), in the def that got the lambda (its context entered at s): the lambda's body is run -/
theorem pe_act3 {CXg : CXT} {Eg : XK} {Ng : List Str} {qg : Str} {sg : Scope} {g f c' : Addr} {cdg dV doc pm ctv : Value} {params : Arguments} {body : Expr} {scope : Scope} {k i j : Nat} {a nm : Str} {v : V} {pn : List (Addr × Obj)} {xe : Value → Shared → Prop} {W : WX} {E : XK} {tb : TE} {p1 p2 : Pos}
    (I : Inv X pins σ H s) (L : LamOk X.env.scope scope nm) (hi : X.N[i]? = some nm) (hσ : σ[i]? = some (some v)) (dA : DfltAt H params scope dV)
    (hf : s.heap.get? f = some (PySem.W.kdv_obj "<lambda>" (X.env.qual ++ "<lambda>") params (.expr body) scope (cloFrom X.env.cells scope.names []) dV doc pm c' ctv)) (hfn : H f = none) (hfr : f ∉ frs X.stack)
    (tk : Takes ((cxOf CXg X.prog X.w X.K X.mg X.base Ng qg sg g cdg X.A X.stack s H Eg).tr pn xe) W) (hr : Room (k + 1) (X.A.deeper (envOfC qg sg s.heap.objs.size g cdg)))
    (hbody : ∀ (A : Around) (outer : List Env) (s : Shared) (H : Hp), Room k (A.deeper (lamEnv3 X scope s.heap.objs.size f c')) → PE (lamCx3 X nm A outer s H E scope f c') body tb)
    (hN : Ng[j]? = some a) (hv : Vis sg a) (hd : (a == ("__debug__" : Str)) = false := by decide) (hcd : (a == ("__classdict__" : Str)) = false := by decide) :
    PE ((cxOf CXg X.prog X.w X.K X.mg X.base Ng qg sg g cdg X.A X.stack s H Eg).tr pn xe) (.Call (.Name a p1) [] [] p2)
      (fun σZ HZ Q => (∀ cls d H', E cls d H' → W cls d σZ H') ∧ σZ[j]? = some (some (.ref f)) ∧ HZ c' = some (CodeO c' (X.env.qual ++ "<lambda>")) ∧ tb [some v] HZ Q) := by
  refine ⟨fun pinsZ sZ σZ HZ Q IZ h => ?_⟩
  obtain ⟨hW, hs, hc, ht⟩ := h
  refine wpAny_Call_Name_kw (thn ((pe_var (pos := p1) (i := j) hN hv hd hcd).run pinsZ sZ σZ HZ (fun y H1 => y = .ref f ∧ H1 = HZ) IZ ⟨.ref f, hs, rfl, rfl⟩) fun u t1 hh => ?_)
  obtain ⟨y, H1, I1, r1, rfl, rfl⟩ := hh
  obtain rfl : u = Value.ref f := r1
  have off : t1.heap.get? f = some (PySem.W.kdv_obj "<lambda>" (X.env.qual ++ "<lambda>") params (.expr body) scope (cloFrom X.env.cells scope.names []) dV doc pm c' ctv) := I1.base.keep f _ hf hfn hfr (fun z => (List.not_mem_nil (show f ∈ ([] : List Addr) from z)).elim)
  have un : Un (frs X.stack) [] H H1 s.heap t1.heap := I1.base
  refine PySem.W.callWith_F0 ⟨_, _, _, _, off⟩ ?_
  obtain ⟨⟨oc, vs, t, hoc, hdc, hvc⟩, _, _⟩ := (show ObjOk X.prog X.w H1 t1.heap c' (CodeO c' (X.env.qual ++ "<lambda>")) from I1.hok c' _ hc)
  obtain ⟨bs, bind, bl⟩ := (dA.mono un.tups).binds (X := X) (s := t1) I1.hok (X.env.qual ++ "<lambda>") body (cloFrom X.env.cells scope.names []) doc pm (.ref c') ctv
  have run : codeAny (model X.prog X.w) (X.A.deeper (envOfC qg sg s.heap.objs.size g cdg)) (.call (.ref f) ⟨[], []⟩) (CR (L2.CX X.prog X.w) (envOfC qg sg s.heap.objs.size g cdg :: X.stack) X.prog X.w H1 t1 Q E) t1 := by
    refine PySem.W.kla_callFunE hr.depth off rfl L.co L.gen rfl ⟨c', oc, vs, t, rfl, hoc, hdc, hvc⟩ (bind _ _ _ _ ?_)
    refine wpAny_newFunctionEnv L.nocell bl (fun h1 hns hsb => ⟨I1.nolimit.fresh _ hsb, ?_⟩) L.kind
    show codeAny _ _ (.expr body (lamEnv3 X scope t1.heap.objs.size f c')) _ _
    have kp : ∀ b o, t1.heap.get? b = some o → h1.get? b = some o := fun b o e => hsb.extBut b o (Nat.ne_of_lt (Heap.lt_size e)) (Heap.get?_push_of_some _ e)
    have J : Inv (lamCx3 X nm (X.A.deeper (envOfC qg sg s.heap.objs.size g cdg)) (envOfC qg sg s.heap.objs.size g cdg :: X.stack) t1 H1 E scope f c') [] [some v] H1 { t1 with heap := h1, toks := t1.toks + bs.length } :=
      lam_start3 I L hi hσ I1.env0 hr.hd un hns kp
    refine PySem.W.kla_codeExpr (wpAny_mono ((hbody _ _ t1 H1 (hr.deeper _)).run [] _ _ H1 Q J ht) (fun x s' hq => ?_) fun e s' hq => hq)
    obtain ⟨w', H', J', rv, q⟩ := hq
    exact ⟨w', H', J'.os, J'.bare, J'.base, J'.hok, rv, q⟩
  refine wpAny_call (codeAny_mono run fun r s' hq => ?_)
  cases r with
  | error e => exact tk e s' (XE.of_call I1 (fun cls d H' h => hW cls d H' h) hq)
  | ok fl =>
    cases fl with
    | ret u => exact I1.after hq
    | next => exact False.elim hq
    | brk => exact False.elim hq
    | cont => exact False.elim hq
end
end K31
end
/-! part K31T -/
section
set_option Elab.async false
set_option linter.all false
set_option maxRecDepth 100000
set_option maxHeartbeats 4000000
/-! K31T: what the top leaves; defs by their promises; papers in the heap. -/
namespace K31
open PySem PySem.Spec PyProof.Rows L2

/-! ### defs and methods by promise -/
structure Cl (P : Program) (w : World) (K : PySem.W.Frag) (mg : Str → Option Value) (base : Heap) (k : Nat) (x : Str) (sp : Sp) : Prop where
  ex : ∃ f fd ps, FnOk P w K mg base (L2.CX P w) k f fd ps sp ∧ mg x = some (.ref f) ∧ PySem.W.keepIn K (.ref f) = true ∧ Binds K fd ps []
structure Mt (P : Program) (w : World) (K : PySem.W.Frag) (mg : Str → Option Value) (base : Heap) (C : Addr) (k : Nat) (m : Str) (sp : Sp) : Prop where
  ex : ∃ f fd ps, FnOk P w K mg base (L2.CX P w) k f fd ps sp ∧ Meth K C m f ∧ Binds K fd ps []
theorem lift0 {P : Program} {w : World} {K : PySem.W.Frag} {mg : Str → Option Value} {base : Heap} {k : Nat} {f : Addr} {fd : FuncData} {ps : List Str} {sp : Sp} (F : FnOk P w K mg base CX0 k f fd ps sp) : FnOk P w K mg base (L2.CX P w) k f fd ps sp :=
  ⟨F.len, fun A outer s H args us vs Q E hr e0 hb r hs => codeAny_mono (F.run A outer s H args us vs Q E hr e0 hb r hs) fun q s' h => by
    cases q with
    | ok fl => cases fl <;> exact h
    | error e => exact (show False from h).elim⟩
theorem Cl.mono {P : Program} {w : World} {K : PySem.W.Frag} {mg : Str → Option Value} {base : Heap} {j k : Nat} {x : Str} {sp : Sp} (c : Cl P w K mg base j x sp) (h : j ≤ k) : Cl P w K mg base k x sp := by
  obtain ⟨f, fd, ps, F, r⟩ := c.ex
  exact ⟨f, fd, ps, F.mono h, r⟩
theorem Mt.mono {P : Program} {w : World} {K : PySem.W.Frag} {mg : Str → Option Value} {base : Heap} {C : Addr} {j k : Nat} {x : Str} {sp : Sp} (c : Mt P w K mg base C j x sp) (h : j ≤ k) : Mt P w K mg base C k x sp := by
  obtain ⟨f, fd, ps, F, r⟩ := c.ex
  exact ⟨f, fd, ps, F.mono h, r⟩
section
variable {X : Cx} {k : Nat} {x m : Str} {sp : Sp} {E : XK} {C : Addr} {p pos apos : Pos} {e o : Expr} {es : List Expr} {t : TA} {ta : TE}
theorem pe_cl (c : Cl X.prog X.w X.K X.mg X.base k x sp) (hr : Room k X.A) (hg : Gl X x) (hx : Passes (L2.CX X.prog X.w) X E) (ha : PA X (e :: es) t) (hdb : (x == ("__debug__" : Str)) = false := by decide)
    (he : starEach (e :: es) X.env = (false, eval e X.env) :: starEach es X.env := by rfl) (hpl : (backTo pos (starEach es X.env)).any (·.1) = false := by rfl) : PE X (.Call (.Name x p) (e :: es) [] pos) (tCall sp [] E t) := by
  obtain ⟨f, fd, ps, F, hm, hk, hb⟩ := c.ex
  exact pe_call F hr hg hm hk hb .nil hx ha hdb he hpl
theorem pe_cl0 (c : Cl X.prog X.w X.K X.mg X.base k x sp) (hr : Room k X.A) (hg : Gl X x) (hx : Passes (L2.CX X.prog X.w) X E) (hdb : (x == ("__debug__" : Str)) = false := by decide) : PE X (.Call (.Name x p) [] [] pos) (tCall sp [] E tNil) := by
  obtain ⟨f, fd, ps, F, hm, hk, hb⟩ := c.ex
  exact pe_call0 F hr hg hm hk hb .nil hx hdb
theorem pe_mtd {pl : Sem Bool} (ho : PE X o ta) (cl : Cls X.K C) (c : Mt X.prog X.w X.K X.mg X.base C k m sp) (hr : Room k X.A) (hx : Passes (L2.CX X.prog X.w) X E) (ha : PA X (e :: es) t)
    (hst : starEach (e :: es) X.env = (false, eval e X.env) :: starEach es X.env := by rfl) (hpl : (backTo pos (starEach es X.env)).any (·.1) = false := by rfl)
    (ht : eval (.Call (.Attribute o m apos) (e :: es) [] pos) X.env = (do
      let ov ← eval o X.env
      standAt apos.atName
      let (f, first) ← holding [ov] (getMethod ov m pl)
      callWith pos f first (backTo pos (starEach (e :: es) X.env)) (backToKw pos (keywordEach [] X.env))) := by rfl) :
    PE X (.Call (.Attribute o m apos) (e :: es) [] pos) (tMeth C m sp [] E ta t) := by
  obtain ⟨f, fd, ps, F, hm, hb⟩ := c.ex
  exact pe_meth ho cl hm F hr hb .nil hx ha hst hpl ht
theorem pe_mtd0 {pl : Sem Bool} (ho : PE X o ta) (cl : Cls X.K C) (c : Mt X.prog X.w X.K X.mg X.base C k m sp) (hr : Room k X.A) (hx : Passes (L2.CX X.prog X.w) X E)
    (ht : eval (.Call (.Attribute o m apos) [] [] pos) X.env = (do
      let ov ← eval o X.env
      standAt apos.atName
      let (f, first) ← holding [ov] (getMethod ov m pl)
      callWith pos f first (backTo pos (starEach [] X.env)) (backToKw pos (keywordEach [] X.env))) := by rfl) :
    PE X (.Call (.Attribute o m apos) [] [] pos) (tMeth C m sp [] E ta tNil) := by
  obtain ⟨f, fd, ps, F, hm, hb⟩ := c.ex
  exact pe_meth0 ho cl hm F hr hb .nil hx ht
end
/-- a def of the module, as the top leaves it -/
structure Df (K : PySem.W.Frag) (mg : Str → Option Value) (x : Str) (st : Stmt) : Prop where
  ex : ∃ f fd, Fun K x x st f fd ∧ mg x = some (.ref f)
structure Dm (K : PySem.W.Frag) (C : Addr) (m qual : Str) (st : Stmt) : Prop where
  ex : ∃ f fd, Fun K m qual st f fd ∧ Meth K C m f
/-- a name of the module -/
def GC (mg : Str → Option Value) (x : Str) (v : V) : Prop := ∃ u, mg x = some u ∧ RelV v u
section
variable {X : Cx} {x : Str} {v : V} {pos : Pos}
theorem pe_g (h : GC X.mg x v) (hg : Gl X x := by rfl) (hd : (x == ("__debug__" : Str)) = false := by decide) : PE X (.Name x pos) (tC v) := by
  obtain ⟨u, hm, r⟩ := h
  exact pe_glob hg hm r hd
end

/-! ### what the top leaves -/
structure Ad where
  (S T B fT fB Wd : Addr)
  (dT dB : FuncData)
  (len plc : Addr)
  pl : W → Addr
def lenK : List (Str × V) := W.all.map fun w => (w.str, .int ((w.ni + w.nk + 1 : Nat) : Int))
def plcK (pl : W → Addr) : List (Str × V) := ([.both, .short, .times, .lesser, .greater, .ifw] : List W).map fun w => (w.str, .ref (pl w))
structure Tx (K : PySem.W.Frag) (mg : Str → Option Value) (w : World) (a : Ad) : Prop where
  errs : Errs K mg a.S a.T a.B a.fT a.fB a.dT a.dB
  len : KD K w a.len lenK
  plc : KD K w a.plc (plcK a.pl)
  pls : ∀ v : W, v.nk ≠ 0 → ∀ H, SqT K H (a.pl v) ((pz v.pl).map V.int)
  gLEN : mg "LENGTHS" = some (.ref a.len)
  gPLC : mg "PLACES" = some (.ref a.plc)
  cW : Cls K a.Wd
  gW : mg "Words" = some (.ref a.Wd)
  nAll : NoAttr K a.Wd "all_words"
  nRow : NoAttr K a.Wd "row"
  nAt : NoAttr K a.Wd "at"
  nRead : NoAttr K a.Wd "terms_read"
  cDAYS : GC mg "MOST_DAYS" (.int 4)
  cWORDS : GC mg "MOST_WORDS" (.int 20)
  cDEEP : GC mg "MOST_DEEP" (.int 8)
  cMARK : GC mg "MOST_MARK" (.int 1000)
  cCASH : GC mg "CASH" (.str "cash")
  cAT : GC mg "AT" (.str "at")
  cABOVE : GC mg "ABOVE" (.str "above")
  cBELOW : GC mg "BELOW" (.str "below")
  cLOWEST : GC mg "LOWEST" (.str "lowest")
  cHIGHEST : GC mg "HIGHEST" (.str "highest")
  cTIMES : GC mg "TIMES" (.str "times")
  cIF : GC mg "IF" (.str "if")
  cNEWLINE : GC mg "NEWLINE" (.str "\n")
  cBLANK : GC mg "BLANK" (.str " ")
  cMINUS : GC mg "MINUS" (.str "-")
  cNAUGHT : GC mg "NAUGHT" (.str "0")
  cFIGURES : GC mg "FIGURES" (.str "0123456789")
  cMOSTF : GC mg "MOST_FIGURES" (.int 31)
  nIsi : mg "isinstance" = none
  nInt : mg "int" = none
  nBool : mg "bool" = none
  nStr : mg "str" = none
  nTuple : mg "tuple" = none
  nList : mg "list" = none
  nDict : mg "dict" = none
  nLen : mg "len" = none
  nRange : mg "range" = none
  nAllB : mg "all" = none
  nZip : mg "zip" = none
  nEnum : mg "enumerate" = none
  nMin : mg "min" = none
  nRepr : mg "repr" = none
  d6 : Df K mg "is_integer" (top 6)
  d26 : Df K mg "is_mark" (top 26)
  d27 : Df K mg "is_day_number" (top 27)
  d28 : Df K mg "are_own" (top 28)
  d29 : Df K mg "is_form" (top 29)
  d30 : Df K mg "places_in" (top 30)
  d31 : Df K mg "paths_to" (top 31)
  d32 : Df K mg "need_term" (top 32)
  d40 : Df K mg "words_in" (top 40)
  d41 : Df K mg "term_text" (top 41)
  d42 : Df K mg "integer_in" (top 42)
  d44 : Df K mg "lines_of" (top 44)
  d45 : Df K mg "need_one" (top 45)
  d46 : Df K mg "term_in" (top 46)
  d47 : Df K mg "read_term" (top 47)
  d49 : Df K mg "_law_mixed" (top 49)
  d50 : Df K mg "_law_begin" (top 50)
  d51 : Df K mg "_law_draw" (top 51)
  d52 : Df K mg "_law_of" (top 52)
  d53 : Df K mg "_law_paper_words" (top 53)
  d54 : Df K mg "_law_joined" (top 54)
  d55 : Df K mg "_law_integers" (top 55)
  d56 : Df K mg "_law_kids" (top 56)
  d57 : Df K mg "_law_line_of" (top 57)
  d58 : Df K mg "_law_paper" (top 58)
  d59 : Df K mg "_law_bounds_of" (top 59)
  d60 : Df K mg "_law_are_good" (top 60)
  d61 : Df K mg "_law_places" (top 61)
  d62 : Df K mg "_law_fault" (top 62)
  d63 : Df K mg "_law_integer" (top 63)
  d64 : Df K mg "_law_take" (top 64)
  d65 : Df K mg "_law_read_line" (top 65)
  d66 : Df K mg "_law_term_due" (top 66)
  d67 : Df K mg "_law_bent_text" (top 67)
  mInit : ∃ f fd, Fun K "__init__" "Words.__init__" (inClass (top 43) 0) f fd ∧ Mk K a.Wd f
  mRefuse : Dm K a.Wd "refuse" "Words.refuse" (inClass (top 43) 1)
  mNext : Dm K a.Wd "next_word" "Words.next_word" (inClass (top 43) 2)
  mWord : Dm K a.Wd "word_of" "Words.word_of" (inClass (top 43) 3)
  mTold : Dm K a.Wd "told" "Words.told" (inClass (top 43) 4)
  mInteger : Dm K a.Wd "integer" "Words.integer" (inClass (top 43) 5)
  mEnd : Dm K a.Wd "end" "Words.end" (inClass (top 43) 7)
  mTerm : Dm K a.Wd "term" "Words.term" (inClass (top 43) 8)

/-! ### papers in the heap -/
section
variable {K : PySem.W.Frag} {H H' : Hp} {v : V} {d : PyData}
theorem same_sqT {a : Addr} {xs : List V} (e : Same H H') (h : SqT K H a xs) : SqT K H' a xs := by
  rcases h with (h | ⟨o, h⟩) | h
  · exact .inl (.inl (e _ _ h))
  · exact .inl (.inr ⟨o, e _ _ h⟩)
  · exact .inr h
mutual
theorem dp_mono (e : Same H H') : ∀ (d : PyData) (v : V), Dp K H v d → Dp K H' v d
  | .none, _, h => by cases h; exact .non
  | .bool b, _, h => by cases h; exact .bl b
  | .int i, _, h => by cases h; exact .int i
  | .str x, _, h => by cases h; exact .str x
  | .list ds, _, h => by
    cases h with
    | lst hs ha => exact .lst (e.seq hs) (dp_monoAll e ds _ ha)
  | .tuple ds, _, h => by
    cases h with
    | tup hs ha => exact .tup (same_sqT e hs) (dp_monoAll e ds _ ha)
  | .dict _, _, h => by cases h
theorem dp_monoAll (e : Same H H') : ∀ (ds : List PyData) (vs : List V), DpAll K H vs ds → DpAll K H' vs ds
  | [], _, h => by cases h; exact .nil
  | d :: ds, _, h => by
    cases h with
    | cons h1 h2 => exact .cons (dp_mono e d _ h1) (dp_monoAll e ds _ h2)
end
theorem dp_append {vs us : List V} {ds es : List PyData} (h : DpAll K H vs ds) (h' : DpAll K H us es) : DpAll K H (vs ++ us) (ds ++ es) := by
  induction ds generalizing vs with
  | nil => cases h; exact h'
  | cons d ds ih =>
    cases h with
    | cons h1 h2 => exact .cons h1 (ih h2)
theorem dp_ints (is : List Int) : DpAll K H (is.map V.int) (is.map PyData.int) := by
  induction is with
  | nil => exact .nil
  | cons i is ih => exact .cons (.int i) ih
theorem dp_split {us : List PyData} {ds : List PyData} {vs : List V} (h : DpAll K H vs (ds ++ us)) : ∃ vs1 vs2, vs = vs1 ++ vs2 ∧ DpAll K H vs1 ds ∧ DpAll K H vs2 us := by
  induction ds generalizing vs with
  | nil => exact ⟨[], vs, rfl, .nil, h⟩
  | cons d ds ih =>
    cases h with
    | cons h1 h2 =>
      obtain ⟨v1, v2, e, a, b⟩ := ih h2
      exact ⟨_ :: v1, v2, by rw [e]; rfl, .cons h1 a, b⟩
theorem dp_ints_inv {is : List Int} {vs : List V} (h : DpAll K H vs (is.map PyData.int)) : vs = is.map V.int := by
  induction is generalizing vs with
  | nil => cases h; rfl
  | cons i is ih =>
    cases h with
    | cons h1 h2 =>
      cases h1
      rw [ih h2]
      rfl
/-- a paper at a value -/
abbrev TV (K : PySem.W.Frag) (H : Hp) (v : V) (t : Tm) : Prop := Dp K H v t.data
theorem Tm.data_eq (t : Tm) : t.data = .tuple (dlay t.w t.is (t.kids.map Tm.data)) := by cases t <;> rfl
theorem lay_map {α β : Type} (f : α → β) (w : W) (is ks : List α) : (lay w is ks).map f = lay w (is.map f) (ks.map f) := by
  unfold lay
  split <;> simp
theorem TV.inv {t : Tm} (h : TV K H v t) : ∃ a ks, v = .ref a ∧ SqT K H a (vlay t.w t.is ks) ∧ DpAll K H ks (t.kids.map Tm.data) := by
  have h' : Dp K H v (.tuple (dlay t.w t.is (t.kids.map Tm.data))) := by rw [← Tm.data_eq]; exact h
  cases h' with
  | @tup a xs ds hs ha =>
    cases ha with
    | @cons v0 vs d0 ds0 h1 h2 =>
      cases h1
      unfold lay at h2
      by_cases c : t.w = .ifw
      · rw [if_pos c] at h2
        obtain ⟨v1, v2, rfl, a1, a2⟩ := dp_split h2
        refine ⟨a, v2, rfl, ?_, a2⟩
        rw [dp_ints_inv a1] at hs
        unfold vlay lay
        rw [if_pos c]
        exact hs
      · rw [if_neg c] at h2
        obtain ⟨v1, v2, rfl, a1, a2⟩ := dp_split h2
        refine ⟨a, v1, rfl, ?_, a1⟩
        rw [dp_ints_inv a2] at hs
        unfold vlay lay
        rw [if_neg c]
        exact hs
theorem TV.mk {t : Tm} {a : Addr} {ks : List V} (hs : SqT K H a (vlay t.w t.is ks)) (hk : DpAll K H ks (t.kids.map Tm.data)) : TV K H (.ref a) t := by
  show Dp K H (.ref a) t.data
  rw [Tm.data_eq]
  refine .tup hs (.cons (.str _) ?_)
  unfold lay
  split
  · exact dp_append (dp_ints _) hk
  · exact dp_append hk (dp_ints _)
theorem TV.mono {t : Tm} (e : Same H H') (h : TV K H v t) : TV K H' v t := dp_mono e _ _ h
end
end K31
end
/-! part K31S -/
section
set_option Elab.async false
set_option linter.all false
set_option maxRecDepth 100000
set_option maxHeartbeats 4000000
/-! K31S: t[::-1] of a tuple. -/
namespace K31
open PySem PySem.Spec PyProof.Rows L2
section
variable {prog : Program} {w : World} {A : Around} {E : Value → Shared → Prop} {s : Shared}
theorem fmap_congr {α β : Type} {f g : α → Option β} : ∀ (l : List α), (∀ k ∈ l, f k = g k) → l.filterMap f = l.filterMap g
  | [], _ => rfl
  | k :: l, h => by
    rw [List.filterMap_cons, List.filterMap_cons, h k List.mem_cons_self, fmap_congr l fun j hj => h j (List.mem_cons_of_mem _ hj)]
theorem adjust_rev (n : Nat) : Builtin.Slice.sliceAdjust none none (-1) (n : Int) = ((n : Int) - 1, -1) := by
  unfold Builtin.Slice.sliceAdjust
  simp only [show ((-1 : Int) < 0) from by decide, if_true]
theorem places_rev (n : Nat) : Builtin.Slice.slicePlaces ((n : Int) - 1) (-1) (-1) = n := by
  unfold Builtin.Slice.slicePlaces
  rw [if_neg (by decide : ¬ ((-1 : Int) > 0))]
  split
  · rw [show (-(-1) : Int) = 1 from by decide, Int.ediv_one]
    omega
  · omega
theorem pick_rev (xs : Array Value) : ((List.range xs.size).filterMap fun (k : Nat) => xs[((xs.size : Int) - 1 + (k : Int) * (-1)).toNat]?).toArray = xs.toList.reverse.toArray := by
  have e : (fun (k : Nat) => xs[((xs.size : Int) - 1 + (k : Int) * (-1)).toNat]?) = fun (k : Nat) => xs[((xs.size : Int) - 1 - (k : Int)).toNat]? := by
    funext k
    have : ((xs.size : Int) - 1 + (k : Int) * (-1)).toNat = ((xs.size : Int) - 1 - (k : Int)).toNat := by omega
    rw [this]
  rw [e]
  have h := PySem.W.krv_pick xs
  unfold slicePick at h
  rw [PySem.W.krv_bounds] at h
  rw [← h]
  show _ = ((sliceRange ((xs.size : Int) - 1) (-1) (-1)).filterMap (xs[·]?)).toArray
  rw [PySem.W.krv_sliceRange, List.filterMap_map]
  refine congrArg List.toArray (fmap_congr _ fun k hk => ?_)
  have hk' := List.mem_range.mp hk
  show xs[((xs.size : Int) - 1 - (k : Int)).toNat]? = xs[xs.size - 1 - k]?
  have : ((xs.size : Int) - 1 - (k : Int)).toNat = xs.size - 1 - k := by omega
  rw [this]
theorem sliceApplied_rev {sl : Addr} {vs : Value} {n : Nat} {Q : Int × Int × Nat → Shared → Prop} (hs : s.heap.IsSliceOf sl .none .none vs) (ps : IsPart vs (some (-1)))
    (h : Q ((n : Int) - 1, -1, n) s) : wpAny (model prog w) A (Builtin.Slice.sliceApplied (.ref sl) (pure (n : Int))) Q E s := by
  obtain ⟨os, hos, hcs, hds⟩ := id hs
  unfold Builtin.Slice.sliceApplied Builtin.Slice.sliceFields
  refine wpAny_bind (wpAny_bind (wpAny_field hos hds (x := .none) rfl (wpAny_bind (wpAny_field hos hds (x := .none) rfl (wpAny_bind (wpAny_field hos hds (x := vs) rfl (wpAny_pure ?_)))))))
  refine wpAny_bind (HT.slicePart_ ps ?_)
  show wpAny _ _ (if (((-1 : Int)) == 0) = true then _ else _) _ _ s
  rw [if_neg (by decide)]
  refine wpAny_bind (slicePart_none (wpAny_bind (slicePart_none (wpAny_bind (wpAny_pure ?_)))))
  show wpAny _ _ (match Builtin.Slice.sliceAdjust none none (-1) (n : Int) with | (lo, hi) => pure (lo, (-1 : Int), Builtin.Slice.slicePlaces lo hi (-1))) _ _ s
  rw [adjust_rev n]
  show wpAny _ _ (pure ((n : Int) - 1, (-1 : Int), Builtin.Slice.slicePlaces ((n : Int) - 1) (-1) (-1))) _ _ s
  rw [places_rev]
  exact wpAny_pure h
theorem getItem_tuple_rev {t sl : Addr} {items : Array Value} {vs : Value} {Q : Value → Shared → Prop} (ht : IsTup s.heap t items) (hs : s.heap.IsSliceOf sl .none .none vs) (ps : IsPart vs (some (-1)))
    (h : Q (.ref s.heap.objs.size) { s with heap := s.heap.push { cls := .type "tuple", data := .seq items.toList.reverse.toArray } }) (hsz : items.size ≤ sizeLine) : wpAny (model prog w) A (getItem (.ref t) (.ref sl)) Q E s := by
  have fits : sizeOk (.seq items.toList.reverse.toArray) := by
    show items.toList.reverse.toArray.size ≤ sizeLine
    rw [List.size_toArray, List.length_reverse, Array.length_toList]
    exact hsz
  obtain ⟨os, hos, hcs, hds⟩ := id hs
  unfold getItem
  try with_reducible refine wpAny_holding ?_
  first | refine wpAny_bind (wpAny_pure ?_) | skip
  refine wpAny_bind (wpAny_sequenceKey ht.typeIs (by decide) (wpAny_bind (wpAny_callSpecial?_slot (name := Str.ofString "__getitem__") ht.typeIs PyProof.Rows.slot_tuple_getitem
    (wpAny_call_entry PyProof.Rows.slot_tuple_getitem ht.typeIs entry_tuple_getitem ?_ (args_tuple_getitem _ _)))))
  show wpAny _ _ (Builtin.Tuple.tupleItemsOf (.ref t) >>= _) _ _ s
  refine wpAny_bind (tupleItemsOf_ ht (wpAny_bind (wpAny_typeOf (T := "slice") ⟨os, hos, hcs⟩ ?_)))
  rw [if_pos (by decide)]
  refine wpAny_bind (sliceApplied_rev hs ps ?_)
  have no : ¬ (((items.size : Int) - 1 == 0 && (-1 : Int) == 1 && items.size == items.size) = true) := by simp
  show wpAny _ _ (if ((items.size : Int) - 1 == 0 && (-1 : Int) == 1 && items.size == items.size) = true then _ else _) _ _ s
  rw [if_neg no, pick_rev]
  first
    | exact wpAny_bind (m := Builtin.Tuple.tupleExact _) (wpAny_newObj_type (wpAny_pure ⟨_, rfl, wpAny_pure h⟩) fits)
    | exact wpAny_bind (m := Builtin.Tuple.tupleExact _) (wpAny_newObj_type (wpAny_bind (wpAny_pure (wpAny_pure ⟨_, rfl, wpAny_pure h⟩))) fits)
    | exact wpAny_bind (wpAny_bind (m := Builtin.Tuple.tupleExact _) (wpAny_newObj_type (wpAny_pure (wpAny_pure ⟨_, rfl, wpAny_pure h⟩)) fits))
    | exact wpAny_bind (wpAny_bind (m := Builtin.Tuple.tupleExact _) (wpAny_newObj_type (wpAny_pure ⟨_, rfl, wpAny_pure h⟩) fits))
end
def tRevT (K : PySem.W.Frag) (te : TE) : TE := fun σ H Q => te σ H fun x H1 => ∃ a xs, x = .ref a ∧ SqT K H1 a xs ∧ ∀ p, H1 p = none → Q (.ref p) (upd H1 p (.tup xs.reverse))
theorem pe_revT {X : Cx} {e : Expr} {te : TE} {k : Nat} {p1 p2 p3 pos : Pos} (he : PE X e te) : PE X (.Subscript e (.Slice none none (some (.UnaryOp .USub (.Constant (.int 1) k p1) p2)) p3) pos) (tRevT X.K te) := by
  refine ⟨fun pins s σ H Q I h => Subscript_ (thn (he.run pins s σ H _ I h) fun v s1 hh => ?_)⟩
  obtain ⟨x, H1, I1, r1, a, xs, rfl, hx, q⟩ := hh
  obtain rfl : v = Value.ref a := r1
  have step : PO X (some (.UnaryOp .USub (.Constant (.int 1) k p1) p2)) (tPart (tUn (rU fun i => .int (-i)) (tC (.int 1)))) := po_some (pe_un un_neg pe_int)
  refine wpAny_Slice (thn (po_none.run pins s1 σ H1 (fun o J => o = none ∧ J = H1) I1 ⟨rfl, rfl⟩) fun vl s2 h2 => ?_)
  obtain ⟨o2, J2, I2, pl, rfl, rfl⟩ := h2
  refine thn (po_none.run pins s2 σ J2 (fun o J => o = none ∧ J = J2) I2 ⟨rfl, rfl⟩) fun vu s3 h3 => ?_
  obtain ⟨o3, J3, I3, pu, rfl, rfl⟩ := h3
  refine thn (step.run pins s3 σ J3 (fun o J => o = some (-1) ∧ J = J3) I3 ⟨1, rfl, -1, rfl, rfl, rfl⟩) fun vs s4 h4 => ?_
  obtain ⟨o4, J4, I4, ps, rfl, rfl⟩ := h4
  cases pl
  cases pu
  have I5 : Inv X pins σ J4 { s4 with heap := s4.heap.push { cls := .type "slice", data := .fields #[.none, .none, vs] } } := I4.kept (t' := s4.toks) fun b ob z => Heap.get?_push_of_some _ z
  obtain ⟨its, r, ht, hz⟩ := I5.tuple hx
  have len := r.length
  show wpAny (model X.prog X.w) X.A (subscriptTail e (.Slice none none (some (.UnaryOp .USub (.Constant (.int 1) k p1) p2)) p3) (.ref a) (.ref s4.heap.objs.size)) (EP X pins σ Q) X.xe { s4 with heap := s4.heap.push { cls := .type "slice", data := .fields #[.none, .none, vs] } }
  refine tail_any (ops := [.ref a, .ref s4.heap.objs.size]) ht.typeIs (PyProof.Rows.slot_tuple_getitem.lookup) ?_ (by with_unfolding_all rfl)
  refine getItem_tuple_rev ht (Heap.IsSliceOf.new _ .none .none vs) ps ?_ (by rw [List.size_toArray]; omega)
  refine ⟨.ref _, _, I5.laid (t' := s4.toks) (o := .tup xs.reverse) (fun b ob z => Heap.get?_push_of_some _ z) (Nat.le_refl _) ⟨by rw [List.length_reverse]; exact hz, its.reverse, r.reverse, ⟨_, Heap.get?_push_size _ rfl, rfl, 0, ?_⟩⟩, rfl, q _ (I5.hok.fresh (Nat.le_refl _))⟩
  simp
end K31
end
/-! part K31A -/
section
set_option Elab.async false
set_option linter.all false
set_option maxRecDepth 100000
set_option maxHeartbeats 4000000
/-! K31A: the program's module of papers: is_integer .. need_term. -/
namespace K31
open PySem PySem.Spec PyProof.Rows L2

theorem boot_int : bootBuiltins "int" = some (.type "int") := by decide +kernel
theorem boot_bool : bootBuiltins "bool" = some (.type "bool") := by decide +kernel
theorem boot_str : bootBuiltins "str" = some (.type "str") := by decide +kernel
theorem boot_tuple : bootBuiltins "tuple" = some (.type "tuple") := by decide +kernel
theorem boot_list : bootBuiltins "list" = some (.type "list") := by decide +kernel
theorem boot_dict : bootBuiltins "dict" = some (.type "dict") := by decide +kernel
theorem boot_all : bootBuiltins "all" = some (.builtin "all") := by decide +kernel
theorem boot_min : bootBuiltins "min" = some (.builtin "min") := by decide +kernel
theorem boot_repr : bootBuiltins "repr" = some (.builtin "repr") := by decide +kernel

section
variable {P : Program} {w : World} {K : PySem.W.Frag} {mg : Str → Option Value} {base : Heap} {a : Ad}

/-! ### is_integer, is_mark, is_day_number -/
def spIsInteger : Sp := fun vs H Q _ => ∃ i : Int, vs = [.int i] ∧ Q (.bl true) H
theorem sc6 : FnScope ["thing"] ["thing"] (defScope (top 6)) := ⟨rfl, rfl, rfl, by decide +kernel, rfl, by decide +kernel, by decide +kernel⟩
theorem cl6 (T : Tx K mg w a) : Cl P w K mg base 1 "is_integer" spIsInteger := by
  obtain ⟨f, fd, F, hm⟩ := T.d6.ex
  refine ⟨f, fd, ["thing"], lift0 (F.ok sc6 (fun vs H Q E h => ?_) (fun cdv A outer s H vs Q E hr h => ?_)), hm, F.kp, F.binds fun _ _ _ _ _ _ us hl => match us, hl with | [_], _ => rfl⟩
  · obtain ⟨i, rfl, _⟩ := h
    rfl
  · obtain ⟨i, rfl, k⟩ := h
    refine ⟨_, pss_one (ps_ret (pe_and (pe_callB call_isi (by rfl) T.nIsi boot_isinstance (pa_cons (pv 0) (pa_cons (pe_bltn (v := .ty "int") (by rfl) T.nInt boot_int rfl) pa_nil)))
      (pe_one (pe_not (pe_callB call_isi (by rfl) T.nIsi boot_isinstance (pa_cons (pv 0) (pa_cons (pe_bltn (v := .ty "bool") (by rfl) T.nBool boot_bool rfl) pa_nil))))))), ?_⟩
    refine ⟨_, rfl, _, _, _, _, true, rfl, .ty "int", .base (.int i), kit_ty (by decide +kernel), true, rfl, iteT ?_⟩
    exact ⟨_, rfl, _, _, _, _, false, rfl, .ty "bool", .base (.int i), kit_ty (by decide +kernel), false, rfl, k⟩
def spIsMark : Sp := fun vs H Q _ => ∃ i : Int, vs = [.int i] ∧ Q (.bl (decide (-1000 ≤ i) && decide (i ≤ 1000))) H
theorem sc26 : FnScope ["thing"] ["thing"] (defScope (top 26)) := ⟨rfl, rfl, rfl, by decide +kernel, rfl, by decide +kernel, by decide +kernel⟩
theorem cl26 (T : Tx K mg w a) : Cl P w K mg base 2 "is_mark" spIsMark := by
  obtain ⟨f, fd, F, hm⟩ := T.d26.ex
  refine ⟨f, fd, ["thing"], lift0 (F.ok sc26 (fun vs H Q E h => ?_) (fun cdv A outer s H vs Q E hr h => ?_)), hm, F.kp, F.binds fun _ _ _ _ _ _ us hl => match us, hl with | [_], _ => rfl⟩
  · obtain ⟨i, rfl, _⟩ := h
    rfl
  · obtain ⟨i, rfl, k⟩ := h
    refine ⟨_, pss_one (ps_ret (pe_and (pe_cl (cl6 T) hr rfl passL (pa_cons (pv 0) pa_nil))
      (pe_one (pe_chain op_le op_le (pe_op op_sub pe_int (pe_g T.cMARK)) (pv 0) (pe_g T.cMARK))))), ?_⟩
    refine ⟨_, rfl, i, rfl, true, rfl, iteT ?_⟩
    refine ⟨_, _, rfl, rfl, _, rfl, _, _, rfl, rfl, _, rfl, ?_⟩
    refine ite2 (fun c => ?_) (fun c => ?_)
    · refine ⟨_, _, rfl, rfl, ?_⟩
      have e : decide (-1000 ≤ i) = true := c
      rw [e] at k
      exact k
    · have e : decide (-1000 ≤ i) = false := by
        cases q : decide (-1000 ≤ i) with
        | false => rfl
        | true => exact absurd q c
      rw [e] at k
      exact k
def spIsDay : Sp := fun vs H Q _ => ∃ i : Int, vs = [.int i] ∧ Q (.bl (decide (0 ≤ i) && decide (i ≤ 3))) H
theorem sc27 : FnScope ["thing"] ["thing"] (defScope (top 27)) := ⟨rfl, rfl, rfl, by decide +kernel, rfl, by decide +kernel, by decide +kernel⟩
theorem cl27 (T : Tx K mg w a) : Cl P w K mg base 2 "is_day_number" spIsDay := by
  obtain ⟨f, fd, F, hm⟩ := T.d27.ex
  refine ⟨f, fd, ["thing"], lift0 (F.ok sc27 (fun vs H Q E h => ?_) (fun cdv A outer s H vs Q E hr h => ?_)), hm, F.kp, F.binds fun _ _ _ _ _ _ us hl => match us, hl with | [_], _ => rfl⟩
  · obtain ⟨i, rfl, _⟩ := h
    rfl
  · obtain ⟨i, rfl, k⟩ := h
    refine ⟨_, pss_one (ps_ret (pe_and (pe_cl (cl6 T) hr rfl passL (pa_cons (pv 0) pa_nil))
      (pe_one (pe_chain op_le op_lt pe_int (pv 0) (pe_g T.cDAYS))))), ?_⟩
    refine ⟨_, rfl, i, rfl, true, rfl, iteT ?_⟩
    refine ⟨_, rfl, _, _, rfl, rfl, _, rfl, ?_⟩
    refine ite2 (fun c => ?_) (fun c => ?_)
    · refine ⟨_, _, rfl, rfl, ?_⟩
      have e : decide (0 ≤ i) = true := c
      have e2 : decide (i < 4) = decide (i ≤ 3) := decide_eq_decide.mpr (by omega)
      rw [e] at k
      show Q (.bl (decide (i < 4))) H
      rw [e2]
      exact k
    · have e : decide (0 ≤ i) = false := by
        cases q : decide (0 ≤ i) with
        | false => rfl
        | true => exact absurd q c
      rw [e] at k
      exact k
end

/-! ### are_own -/
theorem len0 {α : Type} {l : List α} (h : l.length = 0) : l = [] := List.length_eq_zero_iff.mp h
theorem len1 {α : Type} : ∀ {l : List α}, l.length = 1 → ∃ x, l = [x]
  | [x], _ => ⟨x, rfl⟩
theorem len2 {α : Type} : ∀ {l : List α}, l.length = 2 → ∃ x y, l = [x, y]
  | [x, y], _ => ⟨x, y, rfl⟩
theorem wEq (v u : W) : decide (V.str v.str = V.str u.str) = decide (v = u) := by
  by_cases e : v = u
  · rw [e, decide_eq_true rfl, decide_eq_true rfl]
  · rw [decide_eq_false e]
    refine decide_eq_false fun q => e (W.str_inj ?_)
    injection q
theorem bl_cases {b : Bool} {A B : Prop} (h1 : b = true → A) (h2 : b = false → B) : if b = true then A else B := by
  cases b with
  | true => exact iteT (h1 rfl)
  | false => exact iteF (h2 rfl)
section
variable {P : Program} {w : World} {K : PySem.W.Frag} {mg : Str → Option Value} {base : Heap} {a : Ad}
def spAreOwn (K : PySem.W.Frag) : Sp := fun vs H Q _ => ∃ (p : Addr) (v : W) (is : List Int) (ks : List V), vs = [.ref p] ∧ SqT K H p (vlay v is ks) ∧ is.length = v.ni ∧ ks.length = v.nk ∧ ∀ H', Same H H' → Q (.bl (own v is)) H'
theorem sc28 : FnScope ["term", "word"] ["term"] (defScope (top 28)) := ⟨rfl, rfl, rfl, by decide +kernel, rfl, by decide +kernel, by decide +kernel⟩
theorem in3 (v : W) : inV (.str v.str) [V.str "at", V.str "lowest", V.str "highest"] = (decide (v = .at_) || decide (v = .lowest) || decide (v = .highest)) := by cases v <;> decide +kernel
theorem in3b (v : W) : inV (.str v.str) [V.str "above", V.str "below", V.str "if"] = (decide (v = .above) || decide (v = .below) || decide (v = .ifw)) := by cases v <;> decide +kernel
theorem own1 {v : W} {n : Int} {b : Int × Int} (h : bounds v = [b]) : own v [n] = (decide (b.1 ≤ n) && decide (n ≤ b.2)) := by
  unfold own
  rw [h]
  simp [within]
theorem own2 {v : W} {n m : Int} (h : bounds v = [(0, 3), (-1000, 1000)]) : own v [n, m] = ((decide (0 ≤ n) && decide (n ≤ 3)) && (decide (-1000 ≤ m) && decide (m ≤ 1000))) := by
  unfold own
  rw [h]
  simp [within]
theorem own0 {v : W} {is : List Int} (h : bounds v = []) : own v is = true := by
  unfold own
  rw [h]
  simp
theorem vlay_at {v : W} {is : List Int} {ks : List V} {j : Nat} {x : V} (h : (vlay v is ks)[j]? = some x) : atI (vlay v is ks) (j : Int) = some x := atI_nat h
theorem cl28 (T : Tx K mg w a) : Cl P w K mg base 3 "are_own" (spAreOwn K) := by
  obtain ⟨f, fd, F, hm⟩ := T.d28.ex
  refine ⟨f, fd, ["term"], lift0 (F.ok sc28 (fun vs H Q E h => ?_) (fun cdv A outer s H vs Q E hr h => ?_)), hm, F.kp, F.binds fun _ _ _ _ _ _ us hl => match us, hl with | [_], _ => rfl⟩
  · obtain ⟨p, v, is, ks, rfl, _⟩ := h
    rfl
  · obtain ⟨p, v, is, ks, rfl, hS, hi, hk, k⟩ := h
    refine ⟨_, (pss_cons (ps_set (i := 1) sc28.nd rfl (Or.inl rfl) (pe_ix ix_tup (pv 0) pe_int (fun _ _ => rfl)))
      (pss_cons (ps_if (pt_cmpR op_eq (pv 1) (pe_g T.cCASH) (nomark _)) (pss_one (ps_ret (pe_cl (cl26 T) hr rfl passL (pa_cons (pe_ix ix_tup (pv 0) pe_int (fun _ _ => rfl)) pa_nil)))) pss_nil)
      (pss_cons (ps_if (pt_cmpR op_eq (pv 1) (pe_g T.cTIMES) (nomark _)) (pss_one (ps_ret (pe_cl (cl26 T) hr rfl passL (pa_cons (pe_ix ix_tup (pv 0) pe_int (fun _ _ => rfl)) pa_nil)))) pss_nil)
      (pss_cons (ps_if (pt_cmpR op_in_seq (pv 1) (pe_tup (pa_cons (pe_g T.cAT) (pa_cons (pe_g T.cLOWEST) (pa_cons (pe_g T.cHIGHEST) pa_nil)))) rfl) (pss_one (ps_ret (pe_cl (cl27 T) hr rfl passL (pa_cons (pe_ix ix_tup (pv 0) pe_int (fun _ _ => rfl)) pa_nil)))) pss_nil)
      (pss_one (ps_ret (pe_or (pe_cmpR op_notIn_seq (pv 1) (pe_tup (pa_cons (pe_g T.cABOVE) (pa_cons (pe_g T.cBELOW) (pa_cons (pe_g T.cIF) pa_nil)))) rfl) (pe_one (pe_and (pe_cl (cl27 T) hr rfl passL (pa_cons (pe_ix ix_tup (pv 0) pe_int (fun _ _ => rfl)) pa_nil)) (pe_one (pe_cl (cl26 T) hr rfl passL (pa_cons (pe_ix ix_tup (pv 0) pe_int (fun _ _ => rfl)) pa_nil)))))))))))), ?_⟩
    refine ⟨_, rfl, p, _, _, _, rfl, rfl, hS, vlay_at (j := 0) rfl, ?_⟩
    -- word == CASH
    refine ⟨_, rfl, rfl, _, rfl, ?_⟩
    rw [show decide (V.str v.str = V.str "cash") = decide (v = .cash) from wEq v .cash]
    refine bl_cases (fun c => ?_) (fun c1 => ?_)
    · obtain rfl := of_decide_eq_true c
      obtain ⟨n, rfl⟩ := len1 hi
      obtain rfl := len0 hk
      refine ⟨_, rfl, p, _, _, _, rfl, rfl, hS, vlay_at (j := 1) rfl, n, rfl, ?_⟩
      have z := k H (Same.refl H)
      rw [own1 (b := (-1000, 1000)) rfl] at z
      exact z
    -- word == TIMES
    refine ⟨_, rfl, rfl, _, rfl, ?_⟩
    rw [show decide (V.str v.str = V.str "times") = decide (v = .times) from wEq v .times]
    refine bl_cases (fun c => ?_) (fun c2 => ?_)
    · obtain rfl := of_decide_eq_true c
      obtain ⟨n, rfl⟩ := len1 hi
      obtain ⟨k0, rfl⟩ := len1 hk
      refine ⟨_, rfl, p, _, _, _, rfl, rfl, hS, vlay_at (j := 2) rfl, n, rfl, ?_⟩
      have z := k H (Same.refl H)
      rw [own1 (b := (-1000, 1000)) rfl] at z
      exact z
    -- word in (AT, LOWEST, HIGHEST)
    refine ⟨_, rfl, (by show 3 ≤ sizeLine; decide), fun q hq => ?_⟩
    have e1 : Same H (upd H q (.tup [V.str "at", V.str "lowest", V.str "highest"])) := same_upd hq
    refine ⟨q, _, rfl, .inr (SqT.of upd_same), rfl, by decide, _, rfl, ?_⟩
    show (if inV (.str v.str) [V.str "at", V.str "lowest", V.str "highest"] = true then _ else _)
    rw [in3]
    refine bl_cases (fun c => ?_) (fun c3 => ?_)
    · have hb : bounds v = [(0, 3)] ∧ v.ni = 1 ∧ v.nk = 0 := by
        revert c
        cases v <;> first | (intro c; exact absurd c (by decide)) | (intro _; exact ⟨rfl, rfl, rfl⟩)
      rw [hb.2.1] at hi
      rw [hb.2.2] at hk
      obtain ⟨n, rfl⟩ := len1 hi
      obtain rfl := len0 hk
      refine ⟨_, rfl, p, _, _, _, rfl, rfl, same_sqT e1 hS, vlay_at (j := 1) (by unfold vlay lay; split <;> rfl), n, rfl, ?_⟩
      have z := k _ e1
      rw [own1 hb.1] at z
      exact z
    -- the rest
    refine ⟨_, rfl, (by show 3 ≤ sizeLine; decide), fun r hr2 => ?_⟩
    have e2 : Same H (upd (upd H q (.tup [V.str "at", V.str "lowest", V.str "highest"])) r (.tup [V.str "above", V.str "below", V.str "if"])) := e1.trans (same_upd hr2)
    refine ⟨r, _, rfl, .inr (SqT.of upd_same), rfl, by decide, _, rfl, ?_⟩
    show (if (!inV (.str v.str) [V.str "above", V.str "below", V.str "if"]) = true then _ else _)
    rw [in3b]
    refine bl_cases (fun c => ?_) (fun c4 => ?_)
    · have hb : bounds v = [] := by
        revert c c1 c2 c3
        cases v <;> first | (intro c c1 c2 c3; exact absurd c (by decide)) | (intro c c1 c2 c3; exact absurd c1 (by decide)) | (intro c c1 c2 c3; exact absurd c2 (by decide)) | (intro c c1 c2 c3; exact absurd c3 (by decide)) | (intro _ _ _ _; rfl)
      have z := k _ e2
      rw [own0 hb] at z
      exact z
    · have hb : bounds v = [(0, 3), (-1000, 1000)] ∧ v.ni = 2 ∧ (v.nk = 0 ∨ v = .ifw) := by
        revert c4
        cases v <;> first | (intro c; exact absurd c (by decide)) | (intro _; exact ⟨rfl, rfl, by decide⟩)
      rw [hb.2.1] at hi
      obtain ⟨n, m, rfl⟩ := len2 hi
      have a1 : (vlay v [n, m] ks)[1]? = some (.int n) ∧ (vlay v [n, m] ks)[2]? = some (.int m) := by
        unfold vlay lay
        split
        · exact ⟨rfl, rfl⟩
        · rename_i nv
          rcases hb.2.2 with z | z
          · rw [z] at hk
            obtain rfl := len0 hk
            exact ⟨rfl, rfl⟩
          · exact absurd z nv
      refine ⟨_, rfl, p, _, _, _, rfl, rfl, same_sqT e2 hS, vlay_at (j := 1) a1.1, n, rfl, _, rfl, ?_⟩
      have z := k _ e2
      rw [own2 hb.1] at z
      refine bl_cases (fun d => ?_) (fun d => ?_)
      · rw [d, Bool.true_and] at z
        exact ⟨_, rfl, p, _, _, _, rfl, rfl, same_sqT e2 hS, vlay_at (j := 2) a1.2, m, rfl, z⟩
      · rw [d, Bool.false_and] at z
        exact z
end

/-! ### is_form, places_in -/
theorem strOk_word (v : W) : (PyData.str v.str).canLay0 = true := by cases v <;> decide +kernel
theorem canLayAll_app (xs ys : List PyData) : PyData.canLayAll0 (xs ++ ys) = (PyData.canLayAll0 xs && PyData.canLayAll0 ys) := by
  induction xs with
  | nil => simp [PyData.canLayAll0]
  | cons x xs ih => simp [PyData.canLayAll0, ih, Bool.and_assoc]
theorem canLayAll_ints (is : List Int) : PyData.canLayAll0 (is.map PyData.int) = true := by
  induction is with
  | nil => rfl
  | cons i is ih => simp [PyData.canLayAll0, PyData.canLay0, ih]
theorem depthAll_app (xs ys : List PyData) : PyData.depthAll (xs ++ ys) = max (PyData.depthAll xs) (PyData.depthAll ys) := by
  induction xs with
  | nil => simp [PyData.depthAll]
  | cons x xs ih => simp [PyData.depthAll, ih, Nat.max_assoc]
theorem depthAll_ints (is : List Int) : PyData.depthAll (is.map PyData.int) = 0 := by
  induction is with
  | nil => rfl
  | cons i is ih => simp [PyData.depthAll, PyData.depth, ih]
theorem canLay_dlay (v : W) (is : List Int) (ks : List PyData) (h : PyData.canLayAll0 ks = true) : PyData.canLay0 (.tuple (dlay v is ks)) = true := by
  show PyData.canLayAll0 (dlay v is ks) = true
  unfold dlay lay
  rw [PyData.canLayAll0, strOk_word]
  split <;> simp [canLayAll_app, canLayAll_ints, h]
theorem depth_dlay (v : W) (is : List Int) (ks : List PyData) : PyData.depth (.tuple (dlay v is ks)) = PyData.depthAll ks + 1 := by
  show PyData.depthAll (dlay v is ks) + 1 = _
  unfold dlay lay
  rw [PyData.depthAll]
  split <;> simp [depthAll_app, depthAll_ints, PyData.depth]
theorem data_canLay : ∀ t : Tm, t.data.canLay0 = true
  | .leaf v is => canLay_dlay v is [] rfl
  | .one v is t => canLay_dlay v is [t.data] (by simp [PyData.canLayAll0, data_canLay t])
  | .two v is t u => canLay_dlay v is [t.data, u.data] (by simp [PyData.canLayAll0, data_canLay t, data_canLay u])
theorem data_depth : ∀ t : Tm, t.data.depth = t.depth
  | .leaf v is => depth_dlay v is []
  | .one v is t => by
    rw [show (Tm.one v is t).data = .tuple (dlay v is [t.data]) from rfl, depth_dlay]
    simp [PyData.depthAll, Tm.depth, data_depth t]
  | .two v is t u => by
    rw [show (Tm.two v is t u).data = .tuple (dlay v is [t.data, u.data]) from rfl, depth_dlay]
    simp [PyData.depthAll, Tm.depth, data_depth t, data_depth u]
theorem data_shaped {t : Tm} (h : t.depth ≤ 60) : SeqAt.shaped t.data = true := by
  unfold SeqAt.shaped
  rw [data_canLay, data_depth, Bool.true_and]
  exact decide_eq_true (by omega)
theorem tyx_T {K : PySem.W.Frag} {H : Hp} {p : Addr} {xs : List V} (h : SqT K H p xs) : TyX K H (.ref p) (.type "tuple") := by
  rcases h with (h | ⟨o, h⟩) | ⟨o, its, n, h1, h2, _⟩
  · exact .base (.tup h)
  · exact .fTuple h
  · exact .kTuple h1 h2
theorem tyx_L {K : PySem.W.Frag} {H : Hp} {p : Addr} {xs : List V} (h : SqL K H p xs) : TyX K H (.ref p) (.type "list") := by
  rcases h with (h | ⟨o, h⟩) | ⟨o, its, n, h1, h2, _⟩
  · exact .base (.lst h)
  · exact .base (.frz h)
  · exact .kList h1 h2
theorem hu64 {A : Around} {k : Nat} (hr : Room k A) : A.units + 64 < cLine := hr.units
theorem look_len (v : W) : look lenK v.str = some (.int ((v.ni + v.nk + 1 : Nat) : Int)) := by cases v <;> decide +kernel
theorem look_plc (pl : W → Addr) (v : W) : look (plcK pl) v.str = if v.nk = 0 then none else some (.ref (pl v)) := by
  cases v <;> (unfold look plcK; simp only [List.map_cons, List.map_nil, List.find?_cons, List.find?_nil]; (repeat rw [decide_eq_false (by decide +kernel)]); first | rfl | (rw [decide_eq_true (by decide +kernel)]; rfl))
section
variable {P : Program} {w : World} {K : PySem.W.Frag} {mg : Str → Option Value} {base : Heap} {a : Ad}
def spIsForm (K : PySem.W.Frag) : Sp := fun vs H Q _ => ∃ (v : V) (t : Tm), vs = [v] ∧ TV K H v t ∧ t.Sh ∧ t.depth ≤ 60 ∧ ∀ H', Same H H' → Q (.bl (own t.w t.is)) H'
theorem sc29 : FnScope ["thing"] ["thing"] (defScope (top 29)) := ⟨rfl, rfl, rfl, by decide +kernel, rfl, by decide +kernel, by decide +kernel⟩
theorem Tm.Sh.lens {t : Tm} (h : t.Sh) : t.is.length = t.w.ni ∧ t.kids.length = t.w.nk := by
  cases t with
  | leaf v is => exact ⟨h.2, h.1.symm⟩
  | one v is t => exact ⟨h.2.1, h.1.symm⟩
  | two v is t u => exact ⟨h.2.1, h.1.symm⟩
theorem dpAll_len {H : Hp} {vs : List V} {ds : List PyData} (h : DpAll K H vs ds) : vs.length = ds.length := by
  induction ds generalizing vs with
  | nil => cases h; rfl
  | cons d ds ih =>
    cases h with
    | cons h1 h2 => rw [List.length_cons, List.length_cons, ih h2]
theorem cl29 (T : Tx K mg w a) : Cl P w K mg base 4 "is_form" (spIsForm K) := by
  obtain ⟨f, fd, F, hm⟩ := T.d29.ex
  refine ⟨f, fd, ["thing"], lift0 (F.ok sc29 (fun vs H Q E h => ?_) (fun cdv A outer s H vs Q E hr h => ?_)), hm, F.kp, F.binds fun _ _ _ _ _ _ us hl => match us, hl with | [_], _ => rfl⟩
  · obtain ⟨v, t, rfl, _⟩ := h
    rfl
  · obtain ⟨v, t, rfl, hT, hS, hD, k⟩ := h
    obtain ⟨p, ks, rfl, hp, hk⟩ := TV.inv hT
    obtain ⟨l1, l2⟩ := hS.lens
    have l3 : ks.length = t.w.nk := by rw [dpAll_len hk, List.length_map, l2]
    have sz : ((vlay t.w t.is ks).length : Int) = ((t.w.ni + t.w.nk + 1 : Nat) : Int) := by rw [vlay_length, l1, l3]
    refine ⟨_, (pss_cons (ps_if (PW.pt (pw_or (pt_not (pt_val (pe_callB call_isi (by rfl) T.nIsi boot_isinstance (pa_cons (pv 0) (pa_cons (pe_bltn (v := .ty "tuple") (by rfl) T.nTuple boot_tuple rfl) pa_nil))))) (pw_or (pt_cmpR (op_eqD (hu64 hr)) (pv 0) (pe_tup pa_nil) (nomark _)) (pw_or1 (pt_not (pt_val (pe_callB call_isi (by rfl) T.nIsi boot_isinstance (pa_cons (pe_ix ix_tup (pv 0) pe_int (fun _ _ => rfl)) (pa_cons (pe_bltn (v := .ty "str") (by rfl) T.nStr boot_str rfl) pa_nil))))))))) (pss_one (ps_ret pe_bl)) pss_nil)
      (pss_one (ps_ret (pe_and (pe_cmpR op_eq (pe_kget1 T.len (pe_glob rfl T.gLEN rfl) (pe_ix ix_tup (pv 0) pe_int (fun _ _ => rfl)) ⟨rfl, rfl, rfl, rfl⟩) (pe_callB call_len (by rfl) T.nLen PySem.boot_len (pa_cons (pv 0) pa_nil)) (nomark _)) (pe_one (pe_cl (cl28 T) hr rfl passL (pa_cons (pv 0) pa_nil))))))), ?_⟩
    refine ⟨_, rfl, _, _, _, _, true, rfl, .ty "tuple", tyx_T hp, kit_ty (by decide +kernel), true, rfl, iteF ?_⟩
    -- thing == ()
    refine ⟨_, rfl, Nat.zero_le _, fun q hq => ?_⟩
    have e1 : Same H (upd H q (.tup [])) := same_upd hq
    refine ⟨t.data, .tuple [], TV.mono e1 hT, .tup (SqT.of upd_same) .nil, data_shaped hD, rfl, _, rfl, ?_⟩
    have ne : PyData.eqv t.data (.tuple []) = false := by rw [Tm.data_eq]; rfl
    rw [ne]
    refine iteF ?_
    -- isinstance(thing[0], str)
    refine ⟨_, rfl, p, _, _, _, rfl, rfl, same_sqT e1 hp, vlay_at (j := 0) rfl, _, _, _, _, true, rfl, .ty "str", .base (.str _), kit_ty (by decide +kernel), true, rfl, iteF ?_⟩
    -- LENGTHS.get(thing[0]) == len(thing) and are_own(thing)
    refine ⟨_, rfl, p, _, _, _, rfl, rfl, same_sqT e1 hp, vlay_at (j := 0) rfl, _, rfl, ?_⟩
    rw [look_len]
    refine ⟨_, rfl, _, _, rfl, .inr ⟨_, same_sqT e1 hp, rfl⟩, rfl, _, rfl, ?_⟩
    rw [sz]
    refine bl_cases (fun _ => ?_) (fun c => Bool.noConfusion (c.symm.trans (decide_eq_true rfl)))
    exact ⟨_, rfl, p, t.w, t.is, ks, rfl, same_sqT e1 hp, l1, l3, fun H' e => k H' (e1.trans e)⟩
def spPlaces (K : PySem.W.Frag) : Sp := fun vs H Q _ => ∃ (p : Addr) (v : W) (is : List Int) (ks : List V), vs = [.ref p] ∧ SqT K H p (vlay v is ks) ∧ ∀ (q : Addr) H', Same H H' → SqT K H' q ((pz v.pl).map V.int) → Q (.ref q) H'
theorem sc30 : FnScope ["term"] ["term"] (defScope (top 30)) := ⟨rfl, rfl, rfl, by decide +kernel, rfl, by decide +kernel, by decide +kernel⟩
theorem cl30 (T : Tx K mg w a) : Cl P w K mg base 1 "places_in" (spPlaces K) := by
  obtain ⟨f, fd, F, hm⟩ := T.d30.ex
  refine ⟨f, fd, ["term"], lift0 (F.ok sc30 (fun vs H Q E h => ?_) (fun cdv A outer s H vs Q E hr h => ?_)), hm, F.kp, F.binds fun _ _ _ _ _ _ us hl => match us, hl with | [_], _ => rfl⟩
  · obtain ⟨p, v, is, ks, rfl, _⟩ := h
    rfl
  · obtain ⟨p, v, is, ks, rfl, hp, k⟩ := h
    refine ⟨_, (pss_one (ps_ret (pe_kget2 T.plc (pe_glob rfl T.gPLC rfl) (pe_ix ix_tup (pv 0) pe_int (fun _ _ => rfl)) (pe_tup pa_nil) ⟨rfl, rfl, rfl, rfl⟩))), ?_⟩
    refine ⟨_, rfl, p, _, _, _, rfl, rfl, hp, vlay_at (j := 0) rfl, Nat.zero_le _, fun q hq => ⟨_, rfl, ?_⟩⟩
    have e1 : Same H (upd H q (.tup [])) := same_upd hq
    rw [look_plc]
    by_cases c : v.nk = 0
    · rw [if_pos c]
      refine k q _ e1 ?_
      have e : v.pl = [] := List.length_eq_zero_iff.mp (by rw [W.pl_len, c])
      rw [e]
      exact SqT.of upd_same
    · rw [if_neg c]
      exact k _ _ e1 (T.pls v c _)
end
end K31
end
/-! part K31B -/
section
set_option Elab.async false
set_option linter.all false
set_option maxRecDepth 100000
set_option maxHeartbeats 4000000
/-! K31B: paths_to, need_term. -/
namespace K31
open PySem PySem.Spec PyProof.Rows L2

/-! ### tuples stay while lists grow -/
def isTp : HO → Bool
  | .tup _ => true
  | .frz _ (.tup _) => true
  | _ => false
def Grw (H H' : Hp) : Prop := ∀ b u, H b = some u → isTp u = true → H' b = some u
theorem Grw.refl (H : Hp) : Grw H H := fun _ _ h _ => h
theorem Grw.trans {H1 H2 H3 : Hp} (h : Grw H1 H2) (h' : Grw H2 H3) : Grw H1 H3 := fun b u e i => h' b u (h b u e i) i
theorem Grw.of {H H' : Hp} (e : Same H H') : Grw H H' := fun b u h _ => e b u h
theorem Grw.lst {H : Hp} {p : Addr} {o o' : HO} (h : H p = some o) (n : isTp o = false) : Grw H (upd H p o') := fun b u e i => by
  have ne : b ≠ p := fun z => by
    rw [z, h] at e
    injection e with e
    rw [e, i] at n
    cases n
  rw [upd_ne ne]
  exact e
theorem Grw.sqT {K : PySem.W.Frag} {H H' : Hp} {p : Addr} {xs : List V} (e : Grw H H') (h : SqT K H p xs) : SqT K H' p xs := by
  rcases h with (h | ⟨o, h⟩) | h
  · exact .inl (.inl (e _ _ h rfl))
  · exact .inl (.inr ⟨o, e _ _ h rfl⟩)
  · exact .inr h
mutual
def noL : PyData → Bool
  | .list _ => false
  | .dict _ => false
  | .tuple ds => noLs ds
  | _ => true
def noLs : List PyData → Bool
  | [] => true
  | d :: ds => noL d && noLs ds
end
section
variable {K : PySem.W.Frag} {H H' : Hp}
mutual
theorem Grw.dp (e : Grw H H') : ∀ (d : PyData) (v : V), noL d = true → Dp K H v d → Dp K H' v d
  | .none, _, _, h => by cases h; exact .non
  | .bool b, _, _, h => by cases h; exact .bl b
  | .int i, _, _, h => by cases h; exact .int i
  | .str x, _, _, h => by cases h; exact .str x
  | .list ds, _, n, _ => Bool.noConfusion n
  | .tuple ds, _, n, h => by
    cases h with
    | tup hs ha => exact .tup (e.sqT hs) (Grw.dpAll e ds _ n ha)
  | .dict _, _, n, _ => Bool.noConfusion n
theorem Grw.dpAll (e : Grw H H') : ∀ (ds : List PyData) (vs : List V), noLs ds = true → DpAll K H vs ds → DpAll K H' vs ds
  | [], _, _, h => by cases h; exact .nil
  | d :: ds, _, n, h => by
    cases h with
    | cons h1 h2 =>
      have n' : (noL d && noLs ds) = true := n
      rw [Bool.and_eq_true] at n'
      exact .cons (Grw.dp e d _ n'.1 h1) (Grw.dpAll e ds _ n'.2 h2)
end
end
theorem noLs_app (xs ys : List PyData) : noLs (xs ++ ys) = (noLs xs && noLs ys) := by
  induction xs with
  | nil => simp [noLs]
  | cons x xs ih => simp [noLs, ih, Bool.and_assoc]
theorem noLs_ints (is : List Int) : noLs (is.map PyData.int) = true := by
  induction is with
  | nil => rfl
  | cons i is ih => simp [noLs, noL, ih]
theorem noL_dlay (v : W) (is : List Int) (ks : List PyData) (h : noLs ks = true) : noL (.tuple (dlay v is ks)) = true := by
  show noLs (dlay v is ks) = true
  unfold dlay lay
  have e : noL (PyData.str v.str) = true := rfl
  rw [noLs, e]
  split <;> simp [noLs_app, noLs_ints, h]
theorem noL_data : ∀ t : Tm, noL t.data = true
  | .leaf v is => noL_dlay v is [] rfl
  | .one v is t => noL_dlay v is [t.data] (by simp [noLs, noL_data t])
  | .two v is t u => noL_dlay v is [t.data, u.data] (by simp [noLs, noL_data t, noL_data u])
/-- a path and a paper -/
def pd (z : List Nat × Tm) : PyData := .tuple [.tuple ((pz z.1).map .int), z.2.data]
theorem noL_pd (z : List Nat × Tm) : noL (pd z) = true := by
  show noLs [.tuple ((pz z.1).map .int), z.2.data] = true
  simp [noLs, noL_data]
  exact noLs_ints _
theorem noLs_pd (L : List (List Nat × Tm)) : noLs (L.map pd) = true := by
  induction L with
  | nil => rfl
  | cons z L ih => simp [noLs, noL_pd, ih]
theorem shaped_pds {L : List (List Nat × Tm)} (h : ∀ z ∈ L, z.2.depth ≤ 60) : SeqAt.shaped (.list (L.map pd)) = true := by
  have a : PyData.canLayAll0 (L.map pd) = true ∧ PyData.depthAll (L.map pd) ≤ 61 := by
    induction L with
    | nil => exact ⟨rfl, by decide⟩
    | cons z L ih =>
      have i := ih fun y hy => h y (List.mem_cons_of_mem _ hy)
      have d := h z List.mem_cons_self
      refine ⟨?_, ?_⟩
      · rw [List.map_cons, PyData.canLayAll0, i.1, Bool.and_true]
        show PyData.canLayAll0 [.tuple ((pz z.1).map .int), z.2.data] = true
        simp [PyData.canLayAll0, PyData.canLay0, data_canLay, canLayAll_ints]
      · rw [List.map_cons, PyData.depthAll]
        have e : (pd z).depth ≤ 61 := by
          show PyData.depthAll [.tuple ((pz z.1).map .int), z.2.data] + 1 ≤ 61
          simp only [PyData.depthAll, PyData.depth, data_depth, depthAll_ints]
          have := z.2.depth_pos
          omega
        have := i.2
        omega
  unfold SeqAt.shaped
  have c : (PyData.list (L.map pd)).canLay0 = true := a.1
  have d : (PyData.list (L.map pd)).depth ≤ 64 := by
    show PyData.depthAll (L.map pd) + 1 ≤ 64
    have := a.2
    omega
  rw [c, decide_eq_true d]
  rfl
theorem eqv_nil (L : List PyData) : PyData.eqv (.list L) (.list []) = L.isEmpty := by cases L <;> rfl
theorem vlay_pl {w : W} {is : List Int} {ks : List V} (hi : is.length = w.ni) (hk : ks.length = w.nk) {j k : Nat} (h : w.pl[j]? = some k) : (vlay w is ks)[k]? = ks[j]? := by
  cases w <;> first
    | (exact absurd (show ([] : List Nat)[j]? = some k from h) (by simp))
    | (obtain ⟨x, y, rfl⟩ := len2 hk
       first
         | (obtain rfl := len0 hi
            match j, h with
            | 0, h => (cases h; rfl)
            | 1, h => (cases h; rfl)
            | j + 2, h => exact absurd h (by simp [W.pl]))
         | (obtain ⟨n, m, rfl⟩ := len2 hi
            match j, h with
            | 0, h => (cases h; rfl)
            | 1, h => (cases h; rfl)
            | j + 2, h => exact absurd h (by simp [W.pl])))
    | (obtain ⟨x, rfl⟩ := len1 hk
       match j, h with
       | 0, h => (cases h; rfl)
       | j + 1, h => exact absurd h (by simp [W.pl]))
theorem vlay_none {w : W} {is : List Int} {ks : List V} (hi : is.length = w.ni) (hk : ks.length = w.nk) : ∀ k, k ∈ w.pl → k ≠ 0 := by
  intro k hk
  revert hk
  cases w <;> simp [W.pl] <;> omega
theorem dpAll_get {K : PySem.W.Frag} {H : Hp} {vs : List V} {ds : List PyData} (h : DpAll K H vs ds) {j : Nat} {d : PyData} (e : ds[j]? = some d) : ∃ v, vs[j]? = some v ∧ Dp K H v d := by
  induction ds generalizing vs j with
  | nil => cases e
  | cons d0 ds ih =>
    cases h with
    | cons h1 h2 =>
      cases j with
      | zero => cases e; exact ⟨_, rfl, h1⟩
      | succ j => exact ih h2 e
theorem laid_get {p : List Nat} {t : Tm} {i : Nat} {z : List Nat × Tm} (h : (laid p t)[i]? = some z) : ∃ k, t.w.pl[i]? = some k ∧ t.kids[i]? = some z.2 ∧ z.1 = p ++ [k] := by
  unfold laid at h
  rw [List.getElem?_map, Option.map_eq_some_iff] at h
  obtain ⟨y, h1, rfl⟩ := h
  rw [List.getElem?_zip_eq_some] at h1
  exact ⟨y.1, h1.1, h1.2, rfl⟩
theorem laid_len {p : List Nat} {t : Tm} (h : t.Sh) : (laid p t).length = t.w.pl.length := by
  unfold laid
  rw [List.length_map, List.length_zip, h.lens.2, W.pl_len]
  omega
theorem kids_sh {t u : Tm} (h : t.Sh) (m : u ∈ t.kids) : u.Sh ∧ u.depth + 1 ≤ t.depth := by
  cases t with
  | leaf v is => cases m
  | one v is a =>
    have e : u = a := by simpa [Tm.kids] using m
    subst e
    exact ⟨h.2.2, Nat.le_refl _⟩
  | two v is a b =>
    have e : u = a ∨ u = b := by simpa [Tm.kids] using m
    rcases e with rfl | rfl
    · refine ⟨h.2.2.1, ?_⟩
      simp only [Tm.depth]
      omega
    · refine ⟨h.2.2.2, ?_⟩
      simp only [Tm.depth]
      omega
theorem laid_ok {p : List Nat} {t : Tm} {z : List Nat × Tm} (h : t.Sh) (m : z ∈ laid p t) : z.2.Sh ∧ z.2.depth + 1 ≤ t.depth := by
  obtain ⟨i, hi⟩ := List.getElem?_of_mem m
  obtain ⟨k, _, e, _⟩ := laid_get hi
  exact kids_sh h (List.mem_of_getElem? e)
theorem pz_app (p : List Nat) (k : Nat) : (pz (p ++ [k])).map V.int = (pz p).map V.int ++ [V.int ((k : Nat) : Int)] := by simp [pz]
theorem pz_len (p : List Nat) : ((pz p).map V.int).length = p.length := by simp [pz]

section
variable {P : Program} {w : World} {K : PySem.W.Frag} {mg : Str → Option Value} {base : Heap} {a : Ad}
def spPaths (K : PySem.W.Frag) (T : Addr) : Sp := fun vs H Q E => ∃ (v : V) (t : Tm), vs = [v] ∧ TV K H v t ∧ t.Sh ∧ t.depth ≤ 50 ∧ t.nodes ≤ 20 ∧ (walk [] t = none → ∀ u H', Same H H' → Q u H') ∧
  (∀ p, walk [] t = some p → ∀ (d q : Addr) H', Same H H' → H' d = some (.xd [("path", .ref q)]) → SqT K H' q ((pz p).map V.int) → E (.ref T) (some d) H')
theorem nodesAll_len (M : List (List Nat × Tm)) : M.length ≤ nodesAll M := by
  induction M with
  | nil => exact Nat.le_refl _
  | cons z M ih =>
    have := z.2.nodes_pos
    show M.length + 1 ≤ z.2.nodes + nodesAll M
    omega
structure PT (K : PySem.W.Frag) (H : Hp) (t : Tm) (fo wa : Addr) (M : List (List Nat × Tm)) (its fl : List V) (H' : Hp) : Prop where
  same : Same H H'
  nf : H fo = none
  nw : H wa = none
  ne : fo ≠ wa
  hf : H' fo = some (.lst fl)
  hw : H' wa = some (.lst its)
  dp : DpAll K H' its (M.reverse.map pd)
  cnt : fl.length + nodesAll M ≤ 20
  ok : ∀ z ∈ M, z.2.Sh ∧ z.2.depth ≤ 50
  wk : walkAll M = walk [] t
theorem PT.up {K : PySem.W.Frag} {H : Hp} {t : Tm} {fo wa : Addr} {M : List (List Nat × Tm)} {its fl : List V} {H' : Hp} {q : Addr} {o : HO} (I : PT K H t fo wa M its fl H') (h : H' q = none) : PT K H t fo wa M its fl (upd H' q o) := by
  have s := same_upd (o := o) h
  exact ⟨I.same.trans s, I.nf, I.nw, I.ne, s _ _ I.hf, s _ _ I.hw, dp_monoAll s _ _ I.dp, I.cnt, I.ok, I.wk⟩
theorem sc31 : FnScope ["term", "found", "waiting", "path", "here", "place"] ["term"] (defScope (top 31)) := ⟨rfl, rfl, rfl, by decide +kernel, rfl, by decide +kernel, by decide +kernel⟩
theorem cl31 (T : Tx K mg w a) : Cl P w K mg base 5 "paths_to" (spPaths K a.T) := by
  obtain ⟨f, fd, F, hm⟩ := T.d31.ex
  refine ⟨f, fd, ["term"], F.okX sc31 (fun vs H Q E h => ?_) (fun cdv A outer s H vs Q E hr h => ?_), hm, F.kp, F.binds fun _ _ _ _ _ _ us hl => match us, hl with | [_], _ => rfl⟩
  · obtain ⟨v, t, rfl, _⟩ := h
    rfl
  · obtain ⟨v, t, rfl, hT, hS, hD, hN, k, ke⟩ := h
    refine ⟨_, (pss_cons (ps_par (i := 1) (j := 2) rfl sc31.nd rfl rfl (by decide) rfl rfl (pa_cons (pe_lst pa_nil) (pa_cons (pe_lst (pa_cons (pe_tup (pa_cons (pe_tup pa_nil) (pa_cons (pv 0) pa_nil))) pa_nil)) pa_nil)) rfl)
      (pss_cons (ps_while (passes_of rfl) (pt_cmpR (op_neD (hu64 hr)) (pv 2) (pe_lst pa_nil) (nomark _)) (pss_cons (ps_asg (pe_bm0 PySem.F.plainAttrs_list PySem.F.slot_list_pop PySem.F.type_list_pop mt_pop (pv 2)) (pg_tup rfl (pgs_cons (pg_name (i := 3) sc31.nd rfl (Or.inl rfl)) (pgs_cons (pg_name (i := 4) sc31.nd rfl (Or.inl rfl)) pgs_nil))))
      (pss_cons (ps_if (PW.pt (pw_or (pt_cmpR op_eq (pe_callB call_len (by rfl) T.nLen PySem.boot_len (pa_cons (pv 1) pa_nil)) (pe_g T.cWORDS) (nomark _)) (pw_or1 (pt_cmpR op_ge (pe_callB call_len (by rfl) T.nLen PySem.boot_len (pa_cons (pv 3) pa_nil)) (pe_g T.cDEEP) (nomark _))))) (pss_one (ps_raiseT (W := fun cls d _ H => E cls d H) rfl T.errs (hr.mono (by decide)) (takes_of rfl rfl rfl rfl) (pe_tup pa_nil) rfl)) pss_nil)
      (pss_cons (ps_if (pt_not (pt_val (pe_cl (cl29 T) hr rfl passL (pa_cons (pv 4) pa_nil)))) (pss_one (ps_raiseT (W := fun cls d _ H => E cls d H) rfl T.errs (hr.mono (by decide)) (takes_of rfl rfl rfl rfl) (pv 3) rfl)) pss_nil)
      (pss_cons (ps_expr (pe_bm PySem.F.plainAttrs_list PySem.F.slot_list_append PySem.F.type_list_append mt_append (pv 1) (pa_cons (pv 3) pa_nil)))
      (pss_one (ps_for (passes_of rfl) rfl (pi_tup (pe_revT (pe_cl (cl30 T) (hr.mono (by decide)) rfl passL (pa_cons (pv 4) pa_nil)))) (pg_name (i := 5) sc31.nd rfl (Or.inl rfl)) (pss_one (ps_expr (pe_bm PySem.F.plainAttrs_list PySem.F.slot_list_append PySem.F.type_list_append mt_append (pv 2) (pa_cons (pe_tup (pa_cons (pe_tup (StX.pa_star (pv 3) (pa_cons (pv 5) pa_nil))) (pa_cons (pe_ix ix_tup (pv 4) (pv 5) (fun _ _ => rfl)) pa_nil))) pa_nil)))))))))))
      (pss_one (ps_ret (pv 1))))), ?_⟩
    refine ⟨Nat.zero_le _, fun fo hfo => ⟨Nat.zero_le _, fun q0 hq0 => ⟨_, rfl, (by show 2 ≤ sizeLine; decide), fun q1 hq1 => ⟨(by show 1 ≤ sizeLine; decide), fun wa hwa => ⟨_, _, rfl, ?_⟩⟩⟩⟩⟩
    have s1 : Same H (upd H fo (.lst [])) := same_upd hfo
    have s2 := same_upd (o := HO.tup []) hq0
    have s3 := same_upd (o := HO.tup [V.ref q0, v]) hq1
    have s4 := same_upd (o := HO.lst [V.ref q1]) hwa
    have m0 : PT K H t fo wa [([], t)] [V.ref q1] [] (upd (upd (upd (upd H fo (.lst [])) q0 (.tup [])) q1 (.tup [V.ref q0, v])) wa (.lst [V.ref q1])) := by
      refine ⟨s1.trans (s2.trans (s3.trans s4)), hfo, ?_, ?_, ?_, upd_same, ?_, ?_, fun z hz => ?_, walkAll_one t⟩
      · cases e : H wa with
        | none => rfl
        | some u => exact absurd ((s1.trans (s2.trans s3)) _ _ e) (by rw [hwa]; intro z; cases z)
      · intro e
        have z : upd (upd (upd H fo (.lst [])) q0 (.tup [])) q1 (.tup [V.ref q0, v]) fo = some (.lst []) := (s2.trans s3) _ _ upd_same
        rw [← e] at hwa
        rw [hwa] at z
        cases z
      · exact (s2.trans (s3.trans s4)) _ _ upd_same
      · refine .cons (.tup (SqT.of (s4 _ _ upd_same)) (.cons (.tup (SqT.of ((s3.trans s4) _ _ upd_same)) .nil) (.cons ?_ .nil))) .nil
        exact TV.mono (s1.trans (s2.trans (s3.trans s4))) hT
      · show 0 + (t.nodes + 0) ≤ 20
        omega
      · have e : z = ([], t) := by simpa using hz
        subst e
        exact ⟨hS, hD⟩
    refine ⟨fun m σ H' => ∃ M its fl x3 x4 x5, σ = [some v, some (.ref fo), some (.ref wa), x3, x4, x5] ∧ m = nodesAll M ∧ PT K H t fo wa M its fl H', ⟨_, _, _, _, none, none, none, rfl, rfl, m0⟩, ?_⟩
    rintro m σ H1 ⟨M, its, fl, x3, x4, x5, rfl, rfl, I⟩
    -- waiting != []
    refine ⟨_, rfl, Nat.zero_le _, fun q2 hq2 => ?_⟩
    have I := I.up (o := .lst []) hq2
    refine ⟨.list (M.reverse.map pd), .list [], .lst (SqL.of I.hw) I.dp, .lst (SqL.of upd_same) .nil, shaped_pds (fun z hz => ?_), rfl, _, rfl, ?_⟩
    · have := (I.ok z (List.mem_reverse.mp hz)).2
      omega
    rw [eqv_nil]
    cases M with
    | nil =>
      refine iteF ?_
      exact ⟨_, rfl, k I.wk.symm _ _ I.same⟩
    | cons z r =>
      obtain ⟨p, t1⟩ := z
      have e1 : ((((p, t1) :: r).reverse.map pd).isEmpty) = false := by simp
      rw [e1]
      refine iteT ?_
      have dp := I.dp
      rw [List.reverse_cons, List.map_append] at dp
      obtain ⟨its1, y, rfl, d1, d2⟩ := dp_split dp
      have ey : ∃ b pa h1, y = [V.ref b] ∧ SqT K (upd H1 q2 (.lst [])) b [V.ref pa, h1] ∧ SqT K (upd H1 q2 (.lst [])) pa ((pz p).map V.int) ∧ TV K (upd H1 q2 (.lst [])) h1 t1 := by
        cases d2 with
        | cons e f =>
          cases f
          cases e with
          | tup hb hc =>
            cases hc with
            | cons g1 g2 =>
              cases g2 with
              | cons g3 g4 =>
                cases g4
                cases g1 with
                | tup i1 i2 =>
                  rw [dp_ints_inv i2] at i1
                  exact ⟨_, _, _, rfl, hb, i1, g3⟩
      obtain ⟨b, pa, h1, rfl, hb, hpa, hh⟩ := ey
      refine ⟨fun σ' H' => ∃ M its fl x3 x4 x5, σ' = [some v, some (.ref fo), some (.ref wa), x3, x4, x5] ∧ nodesAll M < nodesAll ((p, t1) :: r) ∧ PT K H t fo wa M its fl H', ?_, ?_⟩
      · rintro σ' H' ⟨M, its, fl, x3, x4, x5, rfl, l, I⟩
        exact ⟨_, l, M, its, fl, x3, x4, x5, rfl, rfl, I⟩
      -- path, here = waiting.pop()
      generalize hH2 : upd H1 q2 (.lst []) = H2 at *
      have hlast : (its1 ++ [V.ref b])[(its1 ++ [V.ref b]).length - 1]? = some (.ref b) := by simp
      refine ⟨_, rfl, .inl ⟨rfl, _, SqL.of I.hw⟩, wa, _, _, rfl, rfl, I.hw, hlast, ?_⟩
      rw [List.dropLast_concat]
      have g3 : Grw H2 (upd H2 wa (.lst its1)) := Grw.lst I.hw rfl
      have same3 : Same H (upd H2 wa (.lst its1)) := fun x u e => by
        rw [upd_ne (ne_of_none e I.nw)]
        exact I.same _ _ e
      have hf3 : upd H2 wa (.lst its1) fo = some (.lst fl) := by
        rw [upd_ne I.ne]
        exact I.hf
      have hw3 : upd H2 wa (.lst its1) wa = some (.lst its1) := upd_same
      refine ⟨b, _, rfl, g3.sqT hb, rfl, _, _, rfl, _, _, rfl, rfl, ?_⟩
      have d13 := Grw.dpAll g3 _ _ (noLs_pd _) d1
      have hpa3 := g3.sqT hpa
      have hh3 := Grw.dp g3 _ _ (noL_data t1) hh
      generalize upd H2 wa (.lst its1) = H3 at *
      have ok1 : t1.Sh ∧ t1.depth ≤ 50 := I.ok (p, t1) List.mem_cons_self
      have cnt1 := I.cnt
      have cnt2 : nodesAll (laid p t1 ++ r) + 1 = nodesAll ((p, t1) :: r) := nodesAll_laid ok1.1
      have wk1 := I.wk
      have nf1 := I.nf
      have nw1 := I.nw
      have ne1 := I.ne
      have ok2 : ∀ z ∈ laid p t1 ++ r, z.2.Sh ∧ z.2.depth ≤ 50 := fun z hz => by
        rcases List.mem_append.mp hz with m | m
        · have := laid_ok ok1.1 m
          exact ⟨this.1, by have := ok1.2; omega⟩
        · exact I.ok z (List.mem_cons_of_mem _ m)
      clear I hb hpa hh d1 d2 dp g3 e1
      -- len(found) == MOST_WORDS
      refine ⟨_, rfl, _, _, rfl, .inl ⟨_, SqL.of hf3, rfl⟩, rfl, _, rfl, ?_⟩
      have fl20 : decide (V.int ((fl.length : Nat) : Int) = V.int 20) = false := decide_eq_false fun z => by
        injection z with z
        have := t1.nodes_pos
        omega
      rw [fl20]
      -- len(path) >= MOST_DEEP
      refine iteF ⟨_, rfl, _, _, rfl, .inr ⟨_, hpa3, rfl⟩, _, _, rfl, rfl, _, rfl, ?_⟩
      rw [pz_len]
      refine bl_cases (fun c => ?_) (fun c => ?_)
      · have c8 : 8 ≤ p.length := by
          have := of_decide_eq_true c
          omega
        rw [walkAll_deep c8] at wk1
        refine ⟨Nat.zero_le _, fun q hq d H4 s4 hd hx => ?_⟩
        have s5 : Same H3 (upd H3 q (.tup [])) := same_upd hq
        refine ke [] wk1.symm d q H4 (same3.trans (s5.trans s4)) hx ?_
        exact same_sqT s4 (SqT.of upd_same)
      have c8 : ¬ 8 ≤ p.length := by
        have := of_decide_eq_false c
        omega
      -- is_form(here)
      refine ⟨_, rfl, h1, t1, rfl, hh3, ok1.1, by have := ok1.2; omega, fun H4 s4 => ⟨_, rfl, ?_⟩⟩
      cases own1 : own t1.w t1.is with
      | false =>
        refine iteT ⟨_, rfl, fun d H5 s5 hd hx => ?_⟩
        rw [walkAll_bad c8 own1] at wk1
        exact ke p wk1.symm d pa H5 (same3.trans (s4.trans s5)) hx (same_sqT (s4.trans s5) hpa3)
      | true =>
      refine iteF ?_
      rw [walkAll_good ok1.1 c8 own1] at wk1
      -- found.append(path)
      have hf4 := s4 _ _ hf3
      have hw4 := s4 _ _ hw3
      refine ⟨_, rfl, .inl ⟨rfl, _, SqL.of hf4⟩, _, rfl, fo, fl, _, rfl, rfl, hf4, (by show fl.length < sizeLine; have : sizeLine = 16777216 := rfl; omega), ?_⟩
      have g5 : Grw H4 (upd H4 fo (.lst (fl ++ [.ref pa]))) := Grw.lst hf4 rfl
      have same5 : Same H (upd H4 fo (.lst (fl ++ [.ref pa]))) := fun x u e => by
        rw [upd_ne (ne_of_none e nf1)]
        exact s4 _ _ (same3 _ _ e)
      have hf5 : upd H4 fo (.lst (fl ++ [.ref pa])) fo = some (.lst (fl ++ [.ref pa])) := upd_same
      have hw5 : upd H4 fo (.lst (fl ++ [.ref pa])) wa = some (.lst its1) := by
        rw [upd_ne (Ne.symm ne1)]
        exact hw4
      have d15 := Grw.dpAll g5 _ _ (noLs_pd _) (dp_monoAll s4 _ _ d13)
      have hpa5 := g5.sqT (same_sqT s4 hpa3)
      have hh5 := Grw.dp g5 _ _ (noL_data t1) (TV.mono s4 hh3)
      generalize upd H4 fo (.lst (fl ++ [.ref pa])) = H5 at *
      obtain ⟨hp, ks, rfl, hhp, hks⟩ := TV.inv hh5
      have ls := ok1.1.lens
      have lk : ks.length = t1.w.nk := by rw [dpAll_len hks, List.length_map, ls.2]
      refine ⟨_, rfl, hp, t1.w, t1.is, ks, rfl, hhp, fun rp H6 s6 hrp => ⟨rp, _, rfl, hrp, fun rq hrq => ⟨rq, rfl, ⟨_, SqT.of upd_same⟩, ?_⟩⟩⟩
      have s7 := same_upd (o := HO.tup ((pz t1.w.pl).map V.int).reverse) hrq
      have s57 := s6.trans s7
      refine for_tup (xs := ((pz t1.w.pl).map V.int).reverse) (fun i σ H' => ∃ its x5, σ = [some v, some (.ref fo), some (.ref wa), some (.ref pa), some (.ref hp), x5] ∧ Same H H' ∧ H' fo = some (.lst (fl ++ [.ref pa])) ∧ H' wa = some (.lst its) ∧
        DpAll K H' its (r.reverse.map pd ++ ((laid p t1).reverse.take i).map pd) ∧ SqT K H' pa ((pz p).map V.int) ∧ SqT K H' hp (vlay t1.w t1.is ks) ∧ DpAll K H' ks (t1.kids.map Tm.data) ∧ SqT K H' rq ((pz t1.w.pl).map V.int).reverse)
        ⟨its1, x5, rfl, same5.trans s57, s57 _ _ hf5, s57 _ _ hw5, ?_, same_sqT s57 hpa5, same_sqT s57 hhp, dp_monoAll s57 _ _ hks, SqT.of upd_same⟩ (fun i σ H' _ h => ?_) (fun i x σ H' hx h => ?_) (fun σ H' h => ?_)
      · rw [List.take_zero, List.map_nil, List.append_nil]
        exact dp_monoAll s57 _ _ d15
      · obtain ⟨_, _, _, _, _, _, _, _, _, _, h⟩ := h
        exact h
      · obtain ⟨its, x5, rfl, sm, hf, hw, hd, h3, h4, hk, hq⟩ := h
        have hi : i < t1.w.pl.length := by
          have := (List.getElem?_eq_some_iff.mp hx).1
          rw [List.length_reverse, pz_len] at this
          exact this
        obtain ⟨z, hz⟩ : ∃ z, (laid p t1).reverse[i]? = some z := ⟨_, List.getElem?_eq_getElem (by rw [List.length_reverse, laid_len ok1.1]; exact hi)⟩
        have hz2 := hz
        rw [List.getElem?_reverse (by rw [laid_len ok1.1]; exact hi), laid_len ok1.1] at hz2
        obtain ⟨k1, hk1, hk2, hk3⟩ := laid_get hz2
        rw [List.getElem?_reverse (by rw [pz_len]; exact hi), pz_len] at hx
        have ex : x = .int ((k1 : Nat) : Int) := by
          unfold pz at hx
          rw [List.getElem?_map, List.getElem?_map, hk1] at hx
          cases hx
          rfl
        subst ex
        obtain ⟨kv, hkv, hkd⟩ := dpAll_get hk (d := z.2.data) (by rw [List.getElem?_map, hk2]; rfl)
        have hat : (vlay t1.w t1.is ks)[k1]? = some kv := by rw [vlay_pl ls.1 lk hk1, hkv]
        have lits : its.length ≤ 25 := by
          have e := dpAll_len hd
          rw [List.length_append, List.length_map, List.length_map, List.length_reverse, List.length_take, List.length_reverse, laid_len ok1.1] at e
          have n1 := nodesAll_len (laid p t1 ++ r)
          rw [List.length_append] at n1
          have n2 := W.pl_len t1.w
          have n3 := W.nk_le t1.w
          omega
        refine ⟨_, rfl, .inl ⟨rfl, _, SqL.of hw⟩, _, rfl, pa, _, rfl, .inl h3, _, rfl, ?_, fun q hq1 => ?_⟩
        · rw [List.length_append, pz_len]
          show p.length + 1 ≤ sizeLine
          have : sizeLine = 16777216 := rfl
          omega
        have t1' := same_upd (o := HO.tup ((pz p).map V.int ++ [V.int ((k1 : Nat) : Int)])) hq1
        refine ⟨_, rfl, _, rfl, hp, _, ((k1 : Nat) : Int), kv, rfl, rfl, same_sqT t1' h4, vlay_at hat, (by show 2 ≤ sizeLine; decide), fun q' hq2 => ?_⟩
        have t2' := same_upd (o := HO.tup [V.ref q, kv]) hq2
        have t3 := t1'.trans t2'
        have hw' := t3 _ _ hw
        refine ⟨wa, its, _, rfl, rfl, hw', (by show its.length < sizeLine; have : sizeLine = 16777216 := rfl; omega), ?_⟩
        have g := Grw.lst (o' := HO.lst (its ++ [V.ref q'])) hw' rfl
        have gg := (Grw.of t3).trans g
        refine ⟨its ++ [V.ref q'], some (.int ((k1 : Nat) : Int)), rfl, fun y u e => ?_, ?_, upd_same, ?_, gg.sqT h3, gg.sqT h4, ?_, gg.sqT hq⟩
        · rw [upd_ne (ne_of_none e nw1)]
          exact t3 _ _ (sm _ _ e)
        · rw [upd_ne ne1]
          exact t3 _ _ hf
        · rw [List.take_succ, hz]
          rw [List.map_append, ← List.append_assoc]
          refine dp_append ?_ ?_
          · have nn : noLs (r.reverse.map pd ++ ((laid p t1).reverse.take i).map pd) = true := by
              rw [noLs_app, noLs_pd, noLs_pd]
              rfl
            exact Grw.dpAll gg _ _ nn hd
          · refine .cons (.tup (g.sqT (SqT.of upd_same)) (.cons (.tup (g.sqT (same_sqT t2' (SqT.of upd_same))) ?_) (.cons ?_ .nil))) .nil
            · rw [hk3, ← pz_app]
              exact dp_ints _
            · exact Grw.dp gg _ _ (noL_data _) hkd
        · have nn : noLs (t1.kids.map Tm.data) = true := by
            have : ∀ l : List Tm, noLs (l.map Tm.data) = true := fun l => by
              induction l with
              | nil => rfl
              | cons z l ih => simp [noLs, noL_data, ih]
            exact this _
          exact Grw.dpAll gg _ _ nn hk
      · obtain ⟨its, x5, rfl, sm, hf, hw, hd, h3, h4, hk, hq⟩ := h
        refine ⟨laid p t1 ++ r, its, _, _, _, x5, rfl, by omega, sm, nf1, nw1, ne1, hf, hw, ?_, ?_, ok2, wk1⟩
        · have el : (laid p t1).reverse.take ((pz t1.w.pl).map V.int).reverse.length = (laid p t1).reverse := by
            refine List.take_of_length_le ?_
            rw [List.length_reverse, List.length_reverse, pz_len, laid_len ok1.1]
            exact Nat.le_refl _
          rw [el] at hd
          rw [List.reverse_append, List.map_append]
          exact hd
        · rw [List.length_append, List.length_singleton]
          omega
def spNeed (K : PySem.W.Frag) (T : Addr) : Sp := fun vs H Q E => ∃ (v : V) (t : Tm), vs = [v] ∧ TV K H v t ∧ t.Sh ∧ t.depth ≤ 50 ∧ t.nodes ≤ 20 ∧ (walk [] t = none → ∀ H', Same H H' → Q v H') ∧
  (∀ p, walk [] t = some p → ∀ (d q : Addr) H', Same H H' → H' d = some (.xd [("path", .ref q)]) → SqT K H' q ((pz p).map V.int) → E (.ref T) (some d) H')
theorem sc32 : FnScope ["thing"] ["thing"] (defScope (top 32)) := ⟨rfl, rfl, rfl, by decide +kernel, rfl, by decide +kernel, by decide +kernel⟩
theorem cl32 (T : Tx K mg w a) : Cl P w K mg base 6 "need_term" (spNeed K a.T) := by
  obtain ⟨f, fd, F, hm⟩ := T.d32.ex
  refine ⟨f, fd, ["thing"], F.okX sc32 (fun vs H Q E h => ?_) (fun cdv A outer s H vs Q E hr h => ?_), hm, F.kp, F.binds fun _ _ _ _ _ _ us hl => match us, hl with | [_], _ => rfl⟩
  · obtain ⟨v, t, rfl, _⟩ := h
    rfl
  · obtain ⟨v, t, rfl, hT, hS, hD, hN, k, ke⟩ := h
    refine ⟨_, (pss_cons (ps_expr (pe_cl (cl31 T) hr rfl (passes_call (W := fun cls d _ H => E cls d H) (takes_of rfl rfl rfl rfl) fun _ _ _ _ h => h) (pa_cons (pv 0) pa_nil)))
      (pss_one (ps_ret (pv 0)))), ?_⟩
    refine ⟨_, rfl, v, t, rfl, hT, hS, hD, hN, fun z u H' s' => ⟨_, rfl, k z _ s'⟩, ke⟩
end
end K31
end
/-! part K31C -/
section
set_option Elab.async false
set_option linter.all false
set_option maxRecDepth 100000
set_option maxHeartbeats 4000000
/-! K31C: words_in, term_text. -/
namespace K31
open PySem PySem.Spec PyProof.Rows L2 TL

/-! ### the plain part -/
/-- integers of at most four figures -/
def Tm.Small : Tm → Prop
  | .leaf _ is => ∀ i ∈ is, i.natAbs ≤ 1000
  | .one _ is a => (∀ i ∈ is, i.natAbs ≤ 1000) ∧ a.Small
  | .two _ is a b => (∀ i ∈ is, i.natAbs ≤ 1000) ∧ a.Small ∧ b.Small
theorem Tm.Small.is {t : Tm} (h : t.Small) : ∀ i ∈ t.is, i.natAbs ≤ 1000 := by
  cases t with
  | leaf v is => exact h
  | one v is a => exact h.1
  | two v is a b => exact h.1
theorem Tm.Small.kids {t u : Tm} (h : t.Small) (m : u ∈ t.kids) : u.Small := by
  cases t with
  | leaf v is => cases m
  | one v is a =>
    have e : u = a := by simpa [Tm.kids] using m
    rw [e]
    exact h.2
  | two v is a b =>
    have e : u = a ∨ u = b := by simpa [Tm.kids] using m
    rcases e with e | e
    · rw [e]; exact h.2.1
    · rw [e]; exact h.2.2
theorem own_small {v : W} {is : List Int} (h : is.length = v.ni) (o : own v is = true) : ∀ i ∈ is, i.natAbs ≤ 1000 := by
  unfold own at o
  rw [List.all_eq_true] at o
  intro i hi
  obtain ⟨j, hj⟩ := List.getElem?_of_mem hi
  have lb : (bounds v).length = v.ni := by cases v <;> rfl
  have lj : j < (bounds v).length := by
    rw [lb, ← h]
    exact (List.getElem?_eq_some_iff.mp hj).1
  have z := o (i, (bounds v)[j]) (List.mem_of_getElem? (i := j) (by rw [List.getElem?_zip_eq_some]; exact ⟨hj, List.getElem?_eq_getElem lj⟩))
  unfold within at z
  rw [Bool.and_eq_true, decide_eq_true_eq, decide_eq_true_eq] at z
  have b : (bounds v)[j] = (0, 3) ∨ (bounds v)[j] = (-1000, 1000) := by
    have m := List.getElem_mem lj
    revert m
    generalize (bounds v)[j] = q
    cases v <;> simp [bounds] <;> (intro h; simp [h])
  rcases b with b | b <;> (rw [b] at z; simp only at z; omega)
theorem walk_small : ∀ {t : Tm} {p : List Nat}, t.Sh → walk p t = none → t.Small
  | .leaf v is, p, h, e => by
    unfold walk at e
    split at e
    · cases e
    · split at e
      · rename_i o
        exact own_small h.2 o
      · cases e
  | .one v is a, p, h, e => by
    unfold walk at e
    split at e
    · cases e
    · split at e
      · rename_i o
        exact ⟨own_small h.2.1 o, walk_small h.2.2 e⟩
      · cases e
  | .two v is a b, p, h, e => by
    unfold walk at e
    split at e
    · cases e
    · split at e
      · rename_i o
        split at e
        · cases e
        · rename_i e1
          exact ⟨own_small h.2.1 o, walk_small h.2.2.1 e1, walk_small h.2.2.2 e⟩
      · cases e
theorem Tm.words_eq (t : Tm) : t.words = (t.w.str :: t.is.map istr) ++ t.kids.flatMap Tm.words := by
  cases t <;> simp [Tm.words, Tm.w, Tm.is, Tm.kids]
theorem istr_len {i : Int} (h : i.natAbs ≤ 1000) : (istr i).length ≤ 5 := by
  have a : ∀ n : Fin 1001, (istr ((n.val : Nat) : Int)).length ≤ 5 ∧ (istr (-((n.val : Nat) : Int))).length ≤ 5 := by decide +kernel
  have z := a ⟨i.natAbs, by omega⟩
  simp only at z
  rcases Int.natAbs_eq i with e | e
  · rw [← e] at z
    exact z.1
  · rw [← e] at z
    exact z.2
theorem W.str_len (v : W) : v.str.length ≤ 7 := by cases v <;> decide +kernel
theorem Tm.words_len : ∀ {t : Tm}, t.Sh → t.words.length ≤ 3 * t.nodes
  | .leaf v is, h => by
    have := v.ni_le
    simp only [Tm.words, Tm.nodes, List.length_cons, List.length_map]
    have := h.2
    omega
  | .one v is a, h => by
    have := v.ni_le
    have := Tm.words_len h.2.2
    simp only [Tm.words, Tm.nodes, List.length_cons, List.length_map, List.length_append]
    have := h.2.1
    omega
  | .two v is a b, h => by
    have := v.ni_le
    have := Tm.words_len h.2.2.1
    have := Tm.words_len h.2.2.2
    simp only [Tm.words, Tm.nodes, List.length_cons, List.length_map, List.length_append]
    have := h.2.1
    omega
theorem Tm.words_short : ∀ {t : Tm}, t.Small → ∀ x ∈ t.words, x.length ≤ 7
  | .leaf v is, h, x, m => by
    rcases List.mem_cons.mp m with rfl | m
    · exact v.str_len
    · obtain ⟨i, hi, rfl⟩ := List.mem_map.mp m
      have := istr_len (h i hi)
      omega
  | .one v is a, h, x, m => by
    rcases List.mem_cons.mp m with rfl | m
    · exact v.str_len
    · rcases List.mem_append.mp m with m | m
      · obtain ⟨i, hi, rfl⟩ := List.mem_map.mp m
        have := istr_len (h.1 i hi)
        omega
      · exact Tm.words_short h.2 x m
  | .two v is a b, h, x, m => by
    rcases List.mem_cons.mp m with rfl | m
    · exact v.str_len
    · rcases List.mem_append.mp m with m | m
      · obtain ⟨i, hi, rfl⟩ := List.mem_map.mp m
        have := istr_len (h.1 i hi)
        omega
      · rcases List.mem_append.mp m with m | m
        · exact Tm.words_short h.2.1 x m
        · exact Tm.words_short h.2.2 x m
theorem sum_short {l : List Str} {n : Nat} (h : ∀ x ∈ l, x.length ≤ n) : (l.map (·.length)).sum ≤ n * l.length := by
  induction l with
  | nil => exact Nat.zero_le _
  | cons x l ih =>
    have h1 := h x List.mem_cons_self
    have h2 := ih fun y hy => h y (List.mem_cons_of_mem _ hy)
    rw [List.map_cons, List.sum_cons, List.length_cons, Nat.mul_succ]
    omega
/-- the word or integer at a place, none where a paper stands -/
def fAt (w : W) (is : List Int) (j : Nat) : Option Str := if j = 0 then some w.str else if j ∈ w.pl then none else
  (is[if w = .ifw then j - 1 else j - 1 - w.nk]?).map istr
theorem fAt_all {w : W} {is : List Int} (hi : is.length = w.ni) : (List.range (w.ni + w.nk + 1)).filterMap (fAt w is) = w.str :: is.map istr := by
  cases w <;> first
    | (obtain ⟨x, y, rfl⟩ := len2 hi; rfl)
    | (obtain ⟨x, rfl⟩ := len1 hi; rfl)
    | (obtain rfl := len0 hi; rfl)
theorem fAt_in {w : W} {is : List Int} {j : Nat} (m : j ∈ w.pl) : fAt w is j = none := by
  have e : j ≠ 0 := by
    revert m
    cases w <;> simp [W.pl] <;> omega
  unfold fAt
  rw [if_neg e, if_pos m]
theorem fAt_out {w : W} {is : List Int} {ks : List V} (hi : is.length = w.ni) (hk : ks.length = w.nk) {j : Nat} (lt : j < w.ni + w.nk + 1) (m : j ∉ w.pl) :
    (∃ s, (vlay w is ks)[j]? = some (.str s) ∧ fAt w is j = some s) ∨ ∃ i, i ∈ is ∧ (vlay w is ks)[j]? = some (.int i) ∧ fAt w is j = some (istr i) := by
  have go : ∀ n, j < n → n ≤ 5 → j = 0 ∨ j = 1 ∨ j = 2 ∨ j = 3 ∨ j = 4 := by omega
  cases w <;> first
    | (obtain ⟨x, y, rfl⟩ := len2 hi
       first
         | (obtain ⟨k, l, rfl⟩ := len2 hk
            rcases go _ lt (by decide) with rfl | rfl | rfl | rfl | rfl <;> first
              | exact .inl ⟨_, rfl, rfl⟩
              | exact .inr ⟨_, List.mem_cons_self, rfl, rfl⟩
              | exact .inr ⟨_, List.mem_cons_of_mem _ List.mem_cons_self, rfl, rfl⟩
              | exact absurd (by decide) m)
         | (obtain rfl := len0 hk
            rcases go _ lt (by decide) with rfl | rfl | rfl | rfl | rfl <;> first
              | exact .inl ⟨_, rfl, rfl⟩
              | exact .inr ⟨_, List.mem_cons_self, rfl, rfl⟩
              | exact .inr ⟨_, List.mem_cons_of_mem _ List.mem_cons_self, rfl, rfl⟩
              | exact absurd lt (by decide)
              | exact absurd (by decide) m))
    | (obtain ⟨x, rfl⟩ := len1 hi
       first
         | (obtain ⟨k, rfl⟩ := len1 hk
            rcases go _ lt (by decide) with rfl | rfl | rfl | rfl | rfl <;> first
              | exact .inl ⟨_, rfl, rfl⟩
              | exact .inr ⟨_, List.mem_cons_self, rfl, rfl⟩
              | exact absurd lt (by decide)
              | exact absurd (by decide) m)
         | (obtain rfl := len0 hk
            rcases go _ lt (by decide) with rfl | rfl | rfl | rfl | rfl <;> first
              | exact .inl ⟨_, rfl, rfl⟩
              | exact .inr ⟨_, List.mem_cons_self, rfl, rfl⟩
              | exact absurd lt (by decide)
              | exact absurd (by decide) m))
    | (obtain rfl := len0 hi
       first
         | (obtain ⟨k, l, rfl⟩ := len2 hk
            rcases go _ lt (by decide) with rfl | rfl | rfl | rfl | rfl <;> first
              | exact .inl ⟨_, rfl, rfl⟩
              | exact absurd lt (by decide)
              | exact absurd (by decide) m)
         | (obtain ⟨k, rfl⟩ := len1 hk
            rcases go _ lt (by decide) with rfl | rfl | rfl | rfl | rfl <;> first
              | exact .inl ⟨_, rfl, rfl⟩
              | exact absurd lt (by decide)
              | exact absurd (by decide) m))
theorem kids_nodes {t u : Tm} (m : u ∈ t.kids) : u.nodes + 1 ≤ t.nodes := by
  cases t with
  | leaf v is => cases m
  | one v is a =>
    have e : u = a := by simpa [Tm.kids] using m
    subst e
    exact Nat.le_refl _
  | two v is a b =>
    have e : u = a ∨ u = b := by simpa [Tm.kids] using m
    simp only [Tm.nodes]
    rcases e with rfl | rfl <;> omega
theorem take_words {t : Tm} {i : Nat} (h : t.Sh) : ((t.kids.take i).flatMap Tm.words).length ≤ 3 * t.nodes := by
  have e := Tm.words_len h
  rw [Tm.words_eq, List.length_append] at e
  have z : ((t.kids.take i).flatMap Tm.words).length ≤ (t.kids.flatMap Tm.words).length := by
    conv => rhs; rw [← List.take_append_drop i t.kids, List.flatMap_append, List.length_append]
    omega
  omega
theorem inV_nat (j : Nat) : ∀ l : List Nat, inV (.int ((j : Nat) : Int)) ((pz l).map V.int) = decide (j ∈ l)
  | [] => rfl
  | k :: l => by
    have ih := inV_nat j l
    show ((((k : Nat) : Int) == ((j : Nat) : Int)) || inV (.int ((j : Nat) : Int)) ((pz l).map V.int)) = _
    rw [ih]
    by_cases e : k = j
    · subst e
      simp
    · have n : (((k : Nat) : Int) == ((j : Nat) : Int)) = false := by
        rw [beq_eq_false_iff_ne]
        omega
      rw [n, Bool.false_or]
      simp only [List.mem_cons, Ne.symm e, false_or]
theorem flat_ints (l : List Int) : (l.map V.int).all flatV = true := by
  induction l with
  | nil => rfl
  | cons i l ih => exact ih
theorem range_len {n : Nat} (h : n ≤ 1000) : -(2 ^ 62) ≤ ((n : Nat) : Int) ∧ ((n : Nat) : Int) < 2 ^ 62 := by omega

section
variable {P : Program} {w : World} {K : PySem.W.Frag} {mg : Str → Option Value} {base : Heap} {a : Ad}
def spWords (K : PySem.W.Frag) (pl : W → Addr) (n : Nat) : Sp := fun vs H Q _ => ∃ (v : V) (d : Addr) (t : Tm), vs = [v, .ref d] ∧ TV K H v t ∧ t.Sh ∧ t.Small ∧ t.depth ≤ n ∧ t.nodes ≤ 30 ∧ H d = some (.dK (kk (plcK pl))) ∧
  ∀ (l : Addr) H', Same H H' → H' l = some (.lst (t.words.map V.str)) → Q (.ref l) H'
theorem sc40 : FnScope ["term", "places", "inner", "found", "spot"] ["term", "places"] (defScope (top 40)) := ⟨rfl, rfl, rfl, by decide +kernel, rfl, by decide +kernel, by decide +kernel⟩
theorem cl40 (T : Tx K mg w a) : ∀ n, Cl P w K mg base (n + 3) "words_in" (spWords K a.pl n) := by
  intro n
  induction n with
  | zero =>
    obtain ⟨f, fd, F, hm⟩ := T.d40.ex
    refine ⟨f, fd, ["term", "places"], lift0 (F.ok (k := 2) sc40 (fun vs H Q E h => ?_) (fun cdv A outer s H vs Q E hr h => ?_)), hm, F.kp, F.binds fun _ _ _ _ _ _ us hl => match us, hl with | [_, _], _ => rfl⟩
    · obtain ⟨v, d, t, rfl, _⟩ := h
      rfl
    · obtain ⟨v, d, t, _, _, _, _, h, _⟩ := h
      have := t.depth_pos
      omega
  | succ n ih =>
  obtain ⟨f, fd, F, hm⟩ := T.d40.ex
  refine ⟨f, fd, ["term", "places"], lift0 (F.ok (k := n + 3) sc40 (fun vs H Q E h => ?_) (fun cdv A outer s H vs Q E hr h => ?_)), hm, F.kp, F.binds fun _ _ _ _ _ _ us hl => match us, hl with | [_, _], _ => rfl⟩
  · obtain ⟨v, d, t, rfl, _⟩ := h
    rfl
  · obtain ⟨v, d, t, rfl, hT, hS, hM, hD, hN, hd, k⟩ := h
    obtain ⟨p, ks, rfl, hp, hk⟩ := TV.inv hT
    obtain ⟨l1, l2⟩ := hS.lens
    have l3 : ks.length = t.w.nk := by rw [dpAll_len hk, List.length_map, l2]
    refine ⟨_, (pss_cons (ps_set (i := 2) sc40.nd rfl (Or.inr rfl) (pe_dget2 (hu_of hr) (pv 1) (pe_ix ix_tup (pv 0) pe_int (fun _ _ => rfl)) (pe_tup pa_nil) ⟨rfl, rfl, rfl, rfl⟩))
      (pss_cons (ps_setLc (i := 3) (own := [("spot", 4)]) (g := gName 4) rfl sc40.nd rfl rfl (sw_true rfl rfl rfl (by decide +kernel)) (pi_range1 rfl T.nRange (pa_cons (pe_callB call_len (by rfl) T.nLen PySem.boot_len (pa_cons (pv 0) pa_nil)) pa_nil)) (blkOk_by (own := [("spot", 4)]) (N := ["term", "places", "inner", "found", "spot"]) (sc := defScope (top 40)) (by decide +kernel)) (fun _ _ _ _ _ => (pg_name (i := 4) sc40.nd rfl (Or.inl rfl))) (fun _ _ _ _ _ => (pts_one (pt_cmpR (op_notIn_seq : OpR _ (compareOp .NotIn) (rIn K true)) (pv 4) (pv 2) rfl))) (fun _ _ _ _ _ => (pe_callTy (CallR.or call_str_int SkE.call_str_str) (by rfl) T.nStr boot_str (pa_cons (pe_ix (ix_tup : IxR _ (rIxT K)) (pv 0) (pv 4) (fun _ _ => rfl)) pa_nil))))
      (pss_cons (ps_for PassesOwn.never rfl (pi_tup (pv 2)) (pg_name (i := 4) sc40.nd rfl (Or.inl rfl)) (pss_one (ps_expr (pe_bm PySem.F.plainAttrs_list PySem.F.slot_list_extend PySem.F.type_list_extend mt_extend (pv 3) (pa_cons (pe_cl (ih) (hr.mono (by omega)) rfl passL (pa_cons (pe_ix ix_tup (pv 0) (pv 4) (fun _ _ => rfl)) (pa_cons (pv 1) pa_nil))) pa_nil)))))
      (pss_one (ps_ret (pv 3)))))), ?_⟩
    -- inner = places.get(term[0], ())
    refine ⟨_, rfl, d, rfl, .inl ⟨_, .inl hd⟩, _, rfl, p, _, _, _, rfl, rfl, hp, vlay_at (j := 0) rfl, Nat.zero_le _, fun q hq => ⟨_, DGet.k (k := Sum.inr t.w.str) (same_upd hq _ _ hd), ?_⟩⟩
    have e1 : Same H (upd H q (.tup [])) := same_upd hq
    have iv : ∃ r, (valV (kk (plcK a.pl)) (Sum.inr t.w.str)).getD (.ref q) = .ref r ∧ ∀ H', Same (upd H q (.tup [])) H' → SqT K H' r ((pz t.w.pl).map V.int) := by
      rw [kk_val]
      have lp := look_plc a.pl t.w
      unfold look at lp
      rw [lp]
      by_cases c : t.w.nk = 0
      · rw [if_pos c]
        refine ⟨q, rfl, fun H' s' => ?_⟩
        have e : t.w.pl = [] := List.length_eq_zero_iff.mp (by rw [W.pl_len, c])
        rw [e]
        exact same_sqT s' (SqT.of upd_same)
      · rw [if_neg c]
        exact ⟨_, rfl, fun H' _ => T.pls t.w c H'⟩
    obtain ⟨r, er, hr'⟩ := iv
    rw [er]
    generalize upd H q (.tup []) = H1 at *
    have hr1 := fun H' s' => hr' H' s'
    -- found = [..]
    have sz : (vlay t.w t.is ks).length = t.w.ni + t.w.nk + 1 := by rw [vlay_length, l1, l3]
    have n1 := t.w.ni_le
    have n2 := t.w.nk_le
    refine ⟨_, rfl, _, _, rfl, .inr ⟨_, same_sqT e1 hp, rfl⟩, _, rfl, ?_, ?_, fun D hD => ?_⟩
    · exact (range_len (by omega)).1
    · exact (range_len (by omega)).2
    rw [Int.toNat_natCast, sz]
    have hDH : ∀ b u, H b = some u → b ≠ D := fun b u e z => by
      have := e1 _ _ e
      rw [z, hD] at this
      cases this
    refine lc_range (fun i H' => Same H1 H' ∧ H' D = some (.lst (((List.range i).filterMap (fAt t.w t.is)).map V.str))) ⟨same_upd hD, upd_same⟩ (fun i H' hi I => ?_) (fun H' I => ?_)
    · obtain ⟨s1, hDi⟩ := I
      rw [Int.zero_add]
      refine ⟨rfl, _, rfl, _, rfl, r, _, rfl, .inr (hr1 _ s1), rfl, flat_ints _, _, rfl, ?_⟩
      show (if (!inV (V.int ((i : Nat) : Int)) ((pz t.w.pl).map V.int)) = true then _ else _)
      rw [inV_nat, List.range_succ, List.filterMap_append]
      by_cases m : i ∈ t.w.pl
      · rw [decide_eq_true m]
        refine iteF ⟨s1, ?_⟩
        have e : [i].filterMap (fAt t.w t.is) = [] := by
          rw [List.filterMap_cons, fAt_in m]
          rfl
        rw [e, List.append_nil]
        exact hDi
      · rw [decide_eq_false m]
        have fin : ∀ (y : Str), fAt t.w t.is i = some y → ∃ acc, H' D = some (.lst acc) ∧ acc.length < sizeLine ∧ Same H1 (upd H' D (.lst (acc ++ [V.str y]))) ∧
            upd H' D (.lst (acc ++ [V.str y])) D = some (.lst (((List.range i).filterMap (fAt t.w t.is) ++ [i].filterMap (fAt t.w t.is)).map V.str)) := fun y ey => by
          refine ⟨_, hDi, ?_, fun b u e => ?_, ?_⟩
          · rw [List.length_map]
            have z := List.length_filterMap_le (fAt t.w t.is) (List.range i)
            rw [List.length_range] at z
            have : sizeLine = 16777216 := rfl
            omega
          · rw [upd_ne (ne_of_none e hD)]
            exact s1 _ _ e
          · rw [upd_same, List.map_append]
            have e : [i].filterMap (fAt t.w t.is) = [y] := by
              rw [List.filterMap_cons, ey]
              rfl
            rw [e]
            rfl
        refine iteT ?_
        rcases fAt_out l1 l3 hi m with ⟨y, e1', e2'⟩ | ⟨y, ym, e1', e2'⟩
        · exact ⟨_, rfl, _, rfl, p, _, ((i : Nat) : Int), _, rfl, rfl, same_sqT (e1.trans s1) hp, vlay_at e1', .inr ⟨_, rfl, fin _ e2'⟩⟩
        · refine ⟨_, rfl, _, rfl, p, _, ((i : Nat) : Int), _, rfl, rfl, same_sqT (e1.trans s1) hp, vlay_at e1', .inl ⟨_, rfl, ?_, fin _ e2'⟩⟩
          have b := hM.is _ ym
          have z : y.natAbs.log2 ≤ 1000 := Nat.le_trans (Nat.log2_le_self _) b
          omega
    obtain ⟨s1, hDi⟩ := I
    rw [fAt_all l1] at hDi
    -- for spot in inner
    have W0 : (t.w.str :: t.is.map istr).length ≤ 3 := by
      rw [List.length_cons, List.length_map, l1]
      omega
    refine ⟨_, rfl, r, rfl, ⟨_, hr1 _ s1⟩, ?_⟩
    refine for_tup (xs := (pz t.w.pl).map V.int) (fun i σ H2 => ∃ x4, σ = [some (.ref p), some (.ref d), some (.ref r), some (.ref D), x4] ∧ Same H1 H2 ∧ H2 D = some (.lst (((t.w.str :: t.is.map istr) ++ (t.kids.take i).flatMap Tm.words).map V.str)))
      ⟨none, rfl, s1, ?_⟩ (fun i σ H2 _ I => ?_) (fun i x σ H2 hx I => ?_) (fun σ H2 I => ?_)
    · rw [List.take_zero, List.flatMap_nil, List.append_nil]
      exact hDi
    · obtain ⟨_, _, s2, _⟩ := I
      exact hr1 _ s2
    · obtain ⟨x4, rfl, s2, hD2⟩ := I
      have hi : i < t.w.pl.length := by
        have := (List.getElem?_eq_some_iff.mp hx).1
        rw [pz_len] at this
        exact this
      obtain ⟨k1, hk1⟩ : ∃ k1, t.w.pl[i]? = some k1 := ⟨_, List.getElem?_eq_getElem hi⟩
      have ex : x = .int ((k1 : Nat) : Int) := by
        unfold pz at hx
        rw [List.getElem?_map, List.getElem?_map, hk1] at hx
        cases hx
        rfl
      subst ex
      obtain ⟨z, hz⟩ : ∃ z, t.kids[i]? = some z := ⟨_, List.getElem?_eq_getElem (by rw [l2, ← W.pl_len]; exact hi)⟩
      obtain ⟨kv, hkv, hkd⟩ := dpAll_get hk (d := z.data) (by rw [List.getElem?_map, hz]; rfl)
      have hat : (vlay t.w t.is ks)[k1]? = some kv := by rw [vlay_pl l1 l3 hk1, hkv]
      have mz := List.mem_of_getElem? hz
      have kz := kids_sh hS mz
      have nz : z.nodes + 1 ≤ t.nodes := kids_nodes mz
      refine ⟨_, rfl, .inl ⟨rfl, _, SqL.of hD2⟩, _, rfl, _, rfl, p, _, ((k1 : Nat) : Int), kv, rfl, rfl, same_sqT (e1.trans s2) hp, vlay_at hat, _, rfl, ?_⟩
      refine ⟨kv, d, z, rfl, TV.mono (e1.trans s2) hkd, kz.1, hM.kids mz, by omega, by omega, (e1.trans s2) _ _ hd, fun l H3 s3 hl => ?_⟩
      have hD3 := s3 _ _ hD2
      refine ⟨D, l, _, _, rfl, rfl, hD3, hl, ?_, ?_⟩
      · rw [List.length_map, List.length_map, List.length_append]
        have b1 := Tm.words_len kz.1
        have b2 := take_words (i := i) hS
        have : sizeLine = 16777216 := rfl
        omega
      refine ⟨_, rfl, fun b u e => ?_, ?_⟩
      · rw [upd_ne (ne_of_none e hD)]
        exact s3 _ _ (s2 _ _ e)
      · rw [upd_same, ← List.map_append, List.take_succ, hz]
        simp
    · obtain ⟨x4, rfl, s2, hD2⟩ := I
      refine ⟨_, rfl, k D H2 (e1.trans s2) ?_⟩
      rw [hD2, pz_len, Tm.words_eq, List.take_of_length_le (by rw [l2, W.pl_len]; exact Nat.le_refl _)]
def spText (K : PySem.W.Frag) : Sp := fun vs H Q _ => ∃ (v : V) (t : Tm), vs = [v] ∧ TV K H v t ∧ t.Sh ∧ t.depth ≤ 50 ∧ t.nodes ≤ 20 ∧ walk [] t = none ∧ ∀ H', Same H H' → Q (.str t.text) H'
theorem sc41 : FnScope ["term"] ["term"] (defScope (top 41)) := ⟨rfl, rfl, rfl, by decide +kernel, rfl, by decide +kernel, by decide +kernel⟩
theorem blank_len : ((" " : Str)).length = 1 := by decide +kernel
theorem cl41 (T : Tx K mg w a) : Cl P w K mg base 64 "term_text" (spText K) := by
  obtain ⟨f, fd, F, hm⟩ := T.d41.ex
  refine ⟨f, fd, ["term"], lift0 (F.ok sc41 (fun vs H Q E h => ?_) (fun cdv A outer s H vs Q E hr h => ?_)), hm, F.kp, F.binds fun _ _ _ _ _ _ us hl => match us, hl with | [_], _ => rfl⟩
  · obtain ⟨v, t, rfl, _⟩ := h
    rfl
  · obtain ⟨v, t, rfl, hT, hS, hD, hN, hW, k⟩ := h
    refine ⟨_, (pss_one (ps_ret (pe_join (pe_g T.cBLANK) (pe_cl (cl40 T 60) (hr.mono (by decide)) rfl passL (pa_cons (pe_cl (cl32 T) (hr.mono (by decide)) rfl passL (pa_cons (pv 0) pa_nil)) (pa_cons (pe_callTy call_dictKD (by rfl) T.nDict boot_dict (pa_cons (pe_glob (v := V.ref a.plc) rfl T.gPLC rfl) pa_nil)) pa_nil)))))), ?_⟩
    have hM := walk_small hS hW
    refine ⟨⟨_, rfl⟩, _, rfl, v, t, rfl, hT, hS, hD, hN, fun _ H1 s1 => ⟨a.plc, _, rfl, T.plc, fun d hd => ?_⟩, fun p e => absurd (hW.symm.trans e) (fun z => nomatch z)⟩
    have s2 := same_upd (o := HO.dK (kk (plcK a.pl))) hd
    refine ⟨v, d, t, rfl, TV.mono (s1.trans s2) hT, hS, hM, by omega, by omega, upd_same, fun l H3 s3 hl => ⟨_, l, t.words, rfl, rfl, .inl (SqL.of hl), ?_, k _ (s1.trans (s2.trans s3))⟩⟩
    have z1 := Tm.words_len hS
    have z2 := sum_short (Tm.words_short hM)
    have z3 : (Str.length " ") = 1 := blank_len
    rw [z3]
    omega
end
end K31
end
/-! part K31D -/
section
set_option Elab.async false
set_option linter.all false
set_option maxRecDepth 100000
set_option maxHeartbeats 4000000
/-! K31D: integer_in. -/
namespace K31
open PySem PySem.Spec PyProof.Rows L2 TL

theorem tl_ext {x y : Str} (h : tl x = tl y) : x = y := by
  cases x with
  | mk a =>
    cases y with
    | mk b =>
      have e : a.toList = b.toList := h
      rw [Array.toList_inj.mp e]
theorem tl_len (x : Str) : (tl x).length = x.length := Array.length_toList
theorem sv_eq (x y : Str) : decide (V.str x = V.str y) = decide (tl x = tl y) := by
  refine decide_eq_decide.mpr ⟨fun e => ?_, fun e => ?_⟩
  · injection e with e
    rw [e]
  · rw [tl_ext e]
theorem cut_to (z : Str) (k : Nat) : tl (cutS z none (some ((k : Nat) : Int))) = (tl z).take k := by
  unfold cutS
  rw [tl_mk, HT.sIx_none, HT.sIx_nat, List.drop_zero, Nat.sub_zero]
  have e : (tl z).length = z.length := Array.length_toList
  have e' : z.cps.toList.length = z.length := Array.length_toList
  by_cases h : k ≤ z.length
  · rw [Nat.min_eq_left h]
  · rw [Nat.min_eq_right (by omega), List.take_of_length_le (by omega), List.take_of_length_le (by omega)]
theorem cut_from (z : Str) (k : Nat) : tl (cutS z (some ((k : Nat) : Int)) none) = (tl z).drop k := by
  unfold cutS
  rw [tl_mk, HT.sIx_none, HT.sIx_nat]
  have e : (tl z).length = z.length := Array.length_toList
  have e' : z.cps.toList.length = z.length := Array.length_toList
  by_cases h : k ≤ z.length
  · rw [Nat.min_eq_left h, List.take_of_length_le (by rw [List.length_drop]; omega)]
  · rw [Nat.min_eq_right (by omega), List.drop_eq_nil_of_le (by omega), List.drop_eq_nil_of_le (by omega), List.take_nil]
theorem yes_ok {σ : L2.St} {H : Hp} {Q : Bool → Hp → Prop} (h : Q true H) : tYes σ H Q := h
def vOpt : Option Int → V
  | some i => .int i
  | none => .non
theorem tl_minus : tl "-" = [45] := by decide +kernel
theorem tl_naught : tl "0" = [48] := by decide +kernel
theorem in_figs (c : Nat) : decide (c ∈ (Str.cps "0123456789").toList) = isDig c := by
  have e : (Str.cps "0123456789").toList = [48, 49, 50, 51, 52, 53, 54, 55, 56, 57] := by decide +kernel
  rw [e]
  unfold isDig
  rw [← Bool.decide_and]
  refine decide_eq_decide.mpr ?_
  simp only [List.mem_cons, List.not_mem_nil, or_false]
  omega
theorem intOf_val {x : Str} (h : okFigs (tl x) = true) (hl : x.length ≤ 4300) : PySem.intText? x = some (valFigs (tl x)) := by
  unfold okFigs at h
  simp only [Bool.and_eq_true, decide_eq_true_eq, List.all_eq_true] at h
  obtain ⟨⟨⟨h1, _⟩, h3⟩, _⟩ := h
  have ad : NumText.AllDigits (figs (tl x)) := fun c hc => by
    have := h3 c hc
    unfold isDig at this
    rw [Bool.and_eq_true, decide_eq_true_eq, decide_eq_true_eq] at this
    exact this
  unfold valFigs
  by_cases c : (tl x).take 1 = [45]
  · rw [if_pos c]
    have e : figs (tl x) = (tl x).drop 1 := if_pos c
    have s : tl x = 45 :: (tl x).drop 1 := by
      conv => lhs; rw [← List.take_append_drop 1 (tl x), c]
      rfl
    rw [e] at ad h1 ⊢
    exact PySem.intText_neg s ad (fun z => by rw [z] at h1; exact absurd h1 (by decide)) hl
  · rw [if_neg c]
    have e : figs (tl x) = tl x := if_neg c
    rw [e] at ad h1 ⊢
    exact PySem.intText_digits ad (fun z => by rw [show tl x = [] from z] at h1; exact absurd h1 (by decide)) hl
section
variable {P : Program} {w : World} {K : PySem.W.Frag} {mg : Str → Option Value} {base : Heap} {a : Ad}
def spInt : Sp := fun vs H Q _ => ∃ x : Str, vs = [.str x] ∧ x.length ≤ 1000000 ∧ ∀ H', Same H H' → Q (vOpt (intOf x)) H'
theorem sc42 : FnScope ["word", "figures", "figure"] ["word"] (defScope (top 42)) := ⟨rfl, rfl, rfl, by decide +kernel, rfl, by decide +kernel, by decide +kernel⟩
theorem cl42 (T : Tx K mg w a) : Cl P w K mg base 1 "integer_in" spInt := by
  obtain ⟨f, fd, F, hm⟩ := T.d42.ex
  refine ⟨f, fd, ["word"], lift0 (F.ok sc42 (fun vs H Q E h => ?_) (fun cdv A outer s H vs Q E hr h => ?_)), hm, F.kp, F.binds fun _ _ _ _ _ _ us hl => match us, hl with | [_], _ => rfl⟩
  · obtain ⟨x, rfl, _⟩ := h
    rfl
  · obtain ⟨x, rfl, hx, k⟩ := h
    refine ⟨_, (pss_cons (ps_set (i := 1) sc42.nd rfl (Or.inl rfl) (pe_ifExp (pt_cmpR op_eq (pe_slice sl_str (pv 0) po_none (po_some pe_int)) (pe_g T.cMINUS) (nomark _)) (pe_slice sl_str (pv 0) (po_some pe_int) po_none) (pv 0)))
      (pss_cons (ps_if (PW.pt (pw_or (pt_not (pt_chain op_le op_le pe_int (pe_callB call_len (by rfl) T.nLen PySem.boot_len (pa_cons (pv 1) pa_nil)) (pe_g T.cMOSTF))) (pw_or1 (pt_not (pt_val (pe_callB (cr_all rfl) (by rfl) T.nAllB boot_all (pa_cons (pe_lc (own := [("figure", 2)]) (g := gName 2) rfl sc42.nd (pi_str (pv 1)) (blkOk_by (own := [("figure", 2)]) (N := ["word", "figures", "figure"]) (sc := defScope (top 42)) (by decide +kernel)) (fun _ _ _ _ _ => (pg_name (i := 2) sc42.nd rfl (Or.inl rfl))) (fun _ _ _ _ _ => pts_nil) (fun _ _ _ _ _ => (pe_cmpR op_in_sign (pv 2) (pe_g T.cFIGURES) rfl))) pa_nil))))))) (pss_one (ps_ret pe_non)) pss_nil)
      (pss_cons (ps_if (PW.pt (pw_and (pt_cmpR op_eq (pe_ix ix_str (pv 1) pe_int (fun _ _ => rfl)) (pe_g T.cNAUGHT) (nomark _)) (pw_and1 (pt_cmpR op_ne (pv 0) (pe_g T.cNAUGHT) (nomark _))))) (pss_one (ps_ret pe_non)) pss_nil)
      (pss_one (ps_ret (pe_callTy call_int_str (by rfl) T.nInt boot_int (pa_cons (pv 0) pa_nil))))))), ?_⟩
    -- figures = word[1:] if word[:1] == MINUS else word
    have size1 : x.length ≤ sizeLine := by
      have : sizeLine = 16777216 := rfl
      omega
    have go : ∀ fg : Str, tl fg = figs (tl x) → fg.length ≤ x.length → ∀ H, (∀ H', Same H H' → Q (vOpt (intOf x)) H') → (tSeq
      (tIfS
        (tOr
          (tNot
            (tTest
              (tChain (rI0 fun i j => V.bl (decide (i ≤ j))) (rI0 fun i j => V.bl (decide (i ≤ j))) (tC (V.int 1))
                (tCB (fun xs H_1 Q => ∃ x n, xs = [x] ∧ LenV K x H_1 n ∧ Q (V.int ↑n) H_1) (tCons (tVar 1) tNil)) (tC (V.int 31)))))
          (tNot
            (tB
              (tCB (rAll K)
                (tCons
                  (tLc (iStr (tVar 1)) (gName 2) tYes
                    (tOp (fun x y H Q => ∃ c z, x = V.str { cps := #[c] } ∧ y = V.str z ∧ Q (V.bl (decide (c ∈ z.cps.toList))) H)
                      (tVar 2) (tC (V.str (Str.ofString "0123456789"))))
                    (List.map (fun x => x.snd) [(Str.ofString "figure", 2)]))
                  tNil)))))
        (tRet (tC V.non)) tNext)
      (tSeq
        (tIfS
          (tAnd (tTest (tOp rEq (tOp rIxS (tVar 1) (tC (V.int 0))) (tC (V.str (Str.ofString "0")))))
            (tTest (tOp rNe (tVar 0) (tC (V.str (Str.ofString "0"))))))
          (tRet (tC V.non)) tNext)
        (tRet
          (tCB (fun xs H Q => ∃ a n, xs = [V.str a] ∧ intText? a = some n ∧ a.length ≤ 640 ∧ Q (V.int n) H)
            (tCons (tVar 0) tNil)))))
      { nx := fun x H' => Q V.non H', rt := Q } [some (.str x), some (.str fg), none] H := by
      intro fg ef lf H k
      have lfg : (figs (tl x)).length = fg.length := by rw [← ef]; exact tl_len fg
      have hno : ∀ H', Same H H' → okFigs (tl x) = false → Q V.non H' := fun H' s' e => by
        have z := k H' s'
        unfold intOf at z
        rw [if_neg (by rw [e]; exact Bool.false_ne_true)] at z
        exact z
      have rest : okFigs (tl x) = (decide (1 ≤ fg.length) && decide (fg.length ≤ 31) && (tl fg).all isDig && !(decide ((tl fg).take 1 = [48]) && decide (tl x ≠ [48]))) := by
        unfold okFigs
        rw [← ef, tl_len]
      refine ⟨_, rfl, _, _, rfl, ⟨by have : sizeLine = 16777216 := rfl; omega, rfl⟩, _, _, rfl, rfl, _, rfl, ?_⟩
      have a1 : decide ((1 : Int) ≤ ((fg.length : Nat) : Int)) = decide (1 ≤ fg.length) := decide_eq_decide.mpr (by omega)
      have a2 : decide (((fg.length : Nat) : Int) ≤ (31 : Int)) = decide (fg.length ≤ 31) := decide_eq_decide.mpr (by omega)
      rw [a1]
      refine bl_cases (fun c1 => ?_) (fun c1 => ?_)
      rotate_left
      · refine ⟨_, rfl, iteT (iteT ?_)⟩
        exact hno _ (Same.refl H) (by rw [rest, c1]; rfl)
      refine ⟨_, _, rfl, rfl, _, rfl, ?_⟩
      rw [a2]
      cases c2 : decide (fg.length ≤ 31) with
      | false =>
        refine iteT (iteT ?_)
        exact hno _ (Same.refl H) (by rw [rest, c1, c2]; rfl)
      | true =>
      refine iteF ?_
      have lsz : (tl fg).length = fg.cps.size := Array.length_toList
      refine ⟨_, rfl, fg, rfl, fun D hD => ?_⟩
      refine lc_it walk_str (fun i H' => Same H H' ∧ H' D = some (.lst ((((tl fg).take i).map isDig).map V.bl))) ⟨same_upd hD, upd_same⟩ (fun _ _ _ _ => trivial) (fun i y H1 H2 hi I Y => ?_) (fun H1 I => ?_)
      · obtain ⟨s1, hD1⟩ := I
        obtain ⟨rfl, c, hc, rfl⟩ := Y
        have hc' : (tl fg)[i]? = some c := by rw [Array.getElem?_toList]; exact hc
        refine ⟨rfl, yes_ok (iteT ⟨_, rfl, c, _, rfl, rfl, _, hD1, ?_, fun b u e => ?_, ?_⟩)⟩
        · rw [List.length_map, List.length_map, List.length_take]
          have : fg.length = fg.cps.size := rfl
          have : sizeLine = 16777216 := rfl
          omega
        · rw [upd_ne (ne_of_none e hD)]
          exact s1 _ _ e
        · rw [upd_same, in_figs, List.take_succ, hc']
          simp
      obtain ⟨s1, hD1⟩ := I
      have full : (tl fg).take fg.cps.size = tl fg := List.take_of_length_le (by omega)
      rw [full] at hD1
      refine ⟨D, _, rfl, SqL.of hD1, _, rfl, ?_⟩
      have a3 : ((tl fg).map isDig).all id = (tl fg).all isDig := by simp [List.all_map]
      rw [a3]
      cases c3 : (tl fg).all isDig with
      | false =>
        refine iteT ?_
        exact hno _ s1 (by rw [rest, c1, c2, c3]; rfl)
      | true =>
      refine iteF ?_
      -- figures[0] == NAUGHT and word != NAUGHT
      have p1 : 1 ≤ fg.length := of_decide_eq_true c1
      obtain ⟨c, r, ecr⟩ : ∃ c r, tl fg = c :: r := by
        cases e : tl fg with
        | nil =>
          have z := tl_len fg
          rw [e] at z
          have z : 0 = fg.length := z
          omega
        | cons c r => exact ⟨c, r, rfl⟩
      refine ⟨_, rfl, fg, 0, c, rfl, rfl, by have : sizeLine = 16777216 := rfl; omega, (by rw [show fg.cps.toList = c :: r from ecr]; exact atI_nat (j := 0) rfl), rfl, _, rfl, ?_⟩
      have e4 : decide (V.str ⟨#[c]⟩ = V.str "0") = decide ((tl fg).take 1 = [48]) := by
        rw [sv_eq, tl_naught, ecr]
        rfl
      rw [e4]
      have fin : okFigs (tl x) = true → tRet (tCB (fun xs H Q => ∃ a n, xs = [V.str a] ∧ intText? a = some n ∧ a.length ≤ 640 ∧ Q (V.int n) H) (tCons (tVar 0) tNil)) { nx := fun x H' => Q V.non H', rt := Q } [some (.str x), some (.str fg), none] H1 := fun ok => by
        have lx : x.length ≤ 32 := by
          have z : fg.length ≤ 31 := of_decide_eq_true c2
          have z2 := tl_len x
          unfold figs at lfg
          split at lfg
          · rw [List.length_drop] at lfg
            omega
          · omega
        have z := k H1 s1
        unfold intOf at z
        rw [if_pos ok] at z
        exact ⟨_, rfl, x, _, rfl, intOf_val ok (by omega), by omega, z⟩
      cases c4 : decide ((tl fg).take 1 = [48]) with
      | false =>
        refine iteF (iteF ?_)
        exact fin (by rw [rest, c1, c2, c3, c4]; rfl)
      | true =>
        refine iteT ⟨_, rfl, rfl, _, rfl, ?_⟩
        rw [sv_eq, tl_naught]
        cases c5 : decide (tl x = [48]) with
        | false =>
          refine iteT ?_
          refine hno _ s1 ?_
          rw [rest, c1, c2, c3, c4, show decide (tl x ≠ [48]) = true from decide_eq_true (of_decide_eq_false c5)]
          rfl
        | true =>
          refine iteF (fin ?_)
          rw [rest, c1, c2, c3, c4, show decide (tl x ≠ [48]) = false from decide_eq_false (fun z => z (of_decide_eq_true c5))]
          rfl
    have ec : decide (V.str (cutS x none (some 1)) = V.str "-") = decide ((tl x).take 1 = [45]) := by
      have z := cut_to x 1
      rw [sv_eq, tl_minus, ← z]
      rfl
    refine ⟨_, rfl, 1, rfl, x, rfl, size1, rfl, _, rfl, ?_⟩
    rw [ec]
    refine bl_cases (fun c => ?_) (fun c => ?_)
    · have c' : (tl x).take 1 = [45] := of_decide_eq_true c
      refine ⟨_, rfl, 1, rfl, x, rfl, size1, ?_⟩
      have e2 : figs (tl x) = (tl x).drop 1 := if_pos c'
      exact go _ (by rw [e2]; exact cut_from x 1) (cutS_length x _ _) H k
    · have c' : ¬ (tl x).take 1 = [45] := of_decide_eq_false c
      refine ⟨_, rfl, ?_⟩
      have e2 : figs (tl x) = tl x := if_neg c'
      exact go x e2.symm (Nat.le_refl _) H k
end
end K31
end
/-! part K31F -/
section
set_option Elab.async false
set_option linter.all false
set_option maxRecDepth 100000
set_option maxHeartbeats 4000000
/-! K31F: the class Words; its walk up to integer and end. -/
namespace K31
open PySem PySem.Spec PyProof.Rows L2 TL

/-! ### the reader, kid by kid -/
def mkTm (w : W) (is : List Int) : List Tm → Tm
  | [] => .leaf w is
  | [a] => .one w is a
  | a :: b :: _ => .two w is a b
def readKs (ws : List Str) (f : Nat) : Nat → Nat → Nat → Except Nat (List Tm × Nat × Nat)
  | 0, j, m => .ok ([], j, m)
  | n + 1, j, m => match readT ws f j m with
    | .error e => .error e
    | .ok (a, j, m) => match readKs ws f n j m with
      | .error e => .error e
      | .ok (as, j, m) => .ok (a :: as, j, m)
theorem readT_succ (ws : List Str) (f i m : Nat) : readT ws (f + 1) i m = if m = 20 then .error i else
    match ws[i]?.bind W.of with
    | none => .error i
    | some w => match takeI ws w.ni (i + 1) with
      | .error e => .error e
      | .ok (is, j) => match readKs ws f w.nk j (m + 1) with
        | .error e => .error e
        | .ok (ks, j, m) => .ok (mkTm w is ks, j, m) := by
  conv => lhs; unfold readT
  split
  · rfl
  · cases ws[i]?.bind W.of with
    | none => rfl
    | some w =>
      show (match takeI ws w.ni (i + 1) with | .error e => _ | .ok (is, j) => _) = (match takeI ws w.ni (i + 1) with | .error e => _ | .ok (is, j) => _)
      cases takeI ws w.ni (i + 1) with
      | error e => rfl
      | ok z =>
        obtain ⟨is, j⟩ := z
        have hk : w.nk = 0 ∨ w.nk = 1 ∨ w.nk = 2 := by have := w.nk_le; omega
        rcases hk with e | e | e
        · simp only [e, readKs, mkTm]
        · simp only [e, readKs]
          cases readT ws f j (m + 1) with
          | error e => rfl
          | ok z => rfl
        · simp only [e, readKs]
          cases readT ws f j (m + 1) with
          | error e => rfl
          | ok z =>
            obtain ⟨a, j, m⟩ := z
            simp only
            cases readT ws f j m with
            | error e => rfl
            | ok z => rfl
theorem takeI_snoc {ws : List Str} : ∀ {n i : Nat} {zs : List Int} {j : Nat}, takeI ws n i = .ok (zs, j) → j = i + n ∧ zs.length = n ∧ takeI ws (n + 1) i = (match ws[j]?.bind intOf with | none => .error j | some z => .ok (zs ++ [z], j + 1))
  | 0, i, zs, j, h => by
    unfold takeI at h
    cases h
    refine ⟨rfl, rfl, ?_⟩
    simp only [takeI]
    cases ws[i]?.bind intOf <;> rfl
  | n + 1, i, zs, j, h => by
    unfold takeI at h
    cases e : ws[i]?.bind intOf with
    | none =>
      rw [e] at h
      cases h
    | some z =>
      rw [e] at h
      simp only at h
      cases e2 : takeI ws n (i + 1) with
      | error q =>
        rw [e2] at h
        cases h
      | ok q =>
        obtain ⟨zs', j'⟩ := q
        rw [e2] at h
        cases h
        obtain ⟨h1, h2, h3⟩ := takeI_snoc e2
        refine ⟨by omega, by rw [List.length_cons, h2], ?_⟩
        rw [takeI, e]
        simp only
        rw [h3]
        cases ws[j]?.bind intOf <;> rfl
theorem takeI_err {ws : List Str} : ∀ {n k i e : Nat}, takeI ws n i = .error e → takeI ws (n + k) i = .error e
  | 0, k, i, e, h => by cases h
  | n + 1, k, i, e, h => by
    rw [show n + 1 + k = (n + k) + 1 by omega]
    unfold takeI at h ⊢
    cases e1 : ws[i]?.bind intOf with
    | none =>
      rw [e1] at h
      exact h
    | some z =>
      rw [e1] at h
      simp only at h ⊢
      cases e2 : takeI ws n (i + 1) with
      | error q =>
        rw [e2] at h
        cases h
        rw [takeI_err e2]
      | ok q =>
        rw [e2] at h
        cases h
theorem readKs_snoc {ws : List Str} {f : Nat} : ∀ {n j m : Nat} {as : List Tm} {j' m' : Nat}, readKs ws f n j m = .ok (as, j', m') → as.length = n ∧
    readKs ws f (n + 1) j m = (match readT ws f j' m' with | .error e => .error e | .ok (a, j, m) => .ok (as ++ [a], j, m))
  | 0, j, m, as, j', m', h => by
    unfold readKs at h
    cases h
    refine ⟨rfl, ?_⟩
    simp only [readKs]
    cases readT ws f j m with
    | error e => rfl
    | ok z => rfl
  | n + 1, j, m, as, j', m', h => by
    unfold readKs at h
    cases e : readT ws f j m with
    | error q =>
      rw [e] at h
      cases h
    | ok q =>
      obtain ⟨a, j1, m1⟩ := q
      rw [e] at h
      simp only at h
      cases e2 : readKs ws f n j1 m1 with
      | error q =>
        rw [e2] at h
        cases h
      | ok q =>
        obtain ⟨as', j2, m2⟩ := q
        rw [e2] at h
        cases h
        obtain ⟨h1, h2⟩ := readKs_snoc e2
        refine ⟨by rw [List.length_cons, h1], ?_⟩
        rw [readKs, e]
        simp only
        rw [h2]
        cases readT ws f j' m' with
        | error e => rfl
        | ok z => rfl
theorem readKs_err {ws : List Str} {f : Nat} : ∀ {n k j m e : Nat}, readKs ws f n j m = .error e → readKs ws f (n + k) j m = .error e
  | 0, k, j, m, e, h => by cases h
  | n + 1, k, j, m, e, h => by
    rw [show n + 1 + k = (n + k) + 1 by omega]
    unfold readKs at h ⊢
    cases e1 : readT ws f j m with
    | error q =>
      rw [e1] at h
      cases h
      rfl
    | ok q =>
      obtain ⟨a, j1, m1⟩ := q
      rw [e1] at h
      simp only at h ⊢
      cases e2 : readKs ws f n j1 m1 with
      | error q =>
        rw [e2] at h
        cases h
        rw [readKs_err e2]
      | ok q =>
        rw [e2] at h
        cases h
def Tm.sumN (l : List Tm) : Nat := (l.map Tm.nodes).sum
theorem mkTm_facts {w : W} {is : List Int} {ks : List Tm} (hi : is.length = w.ni) (hk : ks.length = w.nk) :
    (mkTm w is ks).w = w ∧ (mkTm w is ks).is = is ∧ (mkTm w is ks).kids = ks ∧ (mkTm w is ks).nodes = Tm.sumN ks + 1 ∧ ((∀ k ∈ ks, k.Sh) → (mkTm w is ks).Sh) := by
  have l := w.nk_le
  match ks, hk with
  | [], hk => exact ⟨rfl, rfl, rfl, rfl, fun _ => ⟨hk.symm, hi⟩⟩
  | [a], hk => exact ⟨rfl, rfl, rfl, by simp [mkTm, Tm.nodes, Tm.sumN], fun h => ⟨hk.symm, hi, h a List.mem_cons_self⟩⟩
  | [a, b], hk => exact ⟨rfl, rfl, rfl, by simp [mkTm, Tm.nodes, Tm.sumN], fun h => ⟨hk.symm, hi, h a List.mem_cons_self, h b (List.mem_cons_of_mem _ List.mem_cons_self)⟩⟩
  | a :: b :: c :: r, hk =>
    simp only [List.length_cons] at hk
    omega
/-- what a reading tells: its shape, how many papers, and that they are at most 20 -/
theorem readT_facts (ws : List Str) : ∀ (f i m : Nat) (t : Tm) (j m' : Nat), readT ws f i m = .ok (t, j, m') → t.Sh ∧ m' = m + t.nodes ∧ (m ≤ 20 → m' ≤ 20) := by
  intro f
  induction f with
  | zero =>
    intro i m t j m' h
    unfold readT at h
    cases h
  | succ f ih =>
    have ihk : ∀ (n j m : Nat) (as : List Tm) (j' m' : Nat), readKs ws f n j m = .ok (as, j', m') → (∀ k ∈ as, k.Sh) ∧ as.length = n ∧ m' = m + Tm.sumN as ∧ (m ≤ 20 → m' ≤ 20) := by
      intro n
      induction n with
      | zero =>
        intro j m as j' m' h
        unfold readKs at h
        cases h
        exact ⟨fun k hk => (by cases hk), rfl, rfl, id⟩
      | succ n ihn =>
        intro j m as j' m' h
        unfold readKs at h
        cases e : readT ws f j m with
        | error q =>
          rw [e] at h
          cases h
        | ok q =>
          obtain ⟨a, j1, m1⟩ := q
          rw [e] at h
          simp only at h
          cases e2 : readKs ws f n j1 m1 with
          | error q =>
            rw [e2] at h
            cases h
          | ok q =>
            obtain ⟨as', j2, m2⟩ := q
            rw [e2] at h
            cases h
            obtain ⟨a1, a2, a3⟩ := ih _ _ _ _ _ e
            obtain ⟨b1, b2, b3, b4⟩ := ihn _ _ _ _ _ e2
            refine ⟨fun k hk => ?_, by rw [List.length_cons, b2], ?_, fun z => b4 (a3 z)⟩
            · rcases List.mem_cons.mp hk with rfl | hk
              · exact a1
              · exact b1 k hk
            · rw [b3, a2]
              simp only [Tm.sumN, List.map_cons, List.sum_cons]
              omega
    intro i m t j m' h
    rw [readT_succ] at h
    by_cases c : m = 20
    · rw [if_pos c] at h
      cases h
    · rw [if_neg c] at h
      cases e0 : ws[i]?.bind W.of with
      | none =>
        rw [e0] at h
        cases h
      | some w =>
        rw [e0] at h
        simp only at h
        cases e1 : takeI ws w.ni (i + 1) with
        | error q =>
          rw [e1] at h
          cases h
        | ok q =>
          obtain ⟨is, j1⟩ := q
          rw [e1] at h
          simp only at h
          cases e2 : readKs ws f w.nk j1 (m + 1) with
          | error q =>
            rw [e2] at h
            cases h
          | ok q =>
            obtain ⟨ks, j2, m2⟩ := q
            rw [e2] at h
            cases h
            obtain ⟨_, li, _⟩ := takeI_snoc e1
            obtain ⟨b1, b2, b3, b4⟩ := ihk _ _ _ _ _ _ e2
            obtain ⟨_, _, _, f4, f5⟩ := mkTm_facts li b2
            exact ⟨f5 b1, by rw [f4, b3]; omega, fun z => b4 (by omega)⟩

/-! ### the object -/
def wfs (L : Addr) (row : Int) (i m : Nat) : List (Str × V) := [("all_words", .ref L), ("row", .int row), ("at", .int ((i : Nat) : Int)), ("terms_read", .int ((m : Nat) : Int))]
structure WO (C : Addr) (H : Hp) (o dx L : Addr) (ws : List Str) (row : Int) (i m : Nat) : Prop where
  ob : H o = some (.ins C dx (wfs L row i m))
  ls : H L = some (.lst (ws.map V.str))
/-- all but o stays -/
def Oth (o : Addr) (H H' : Hp) : Prop := ∀ b u, b ≠ o → H b = some u → H' b = some u
theorem Oth.of {o : Addr} {H H' : Hp} (s : Same H H') : Oth o H H' := fun b u _ e => s b u e
theorem Oth.trans {o : Addr} {H1 H2 H3 : Hp} (h : Oth o H1 H2) (h' : Oth o H2 H3) : Oth o H1 H3 := fun b u n e => h' b u n (h b u n e)
theorem Oth.upd {o : Addr} {H : Hp} {u : HO} : Oth o H (upd H o u) := fun b u' n e => by
  rw [upd_ne n]
  exact e
theorem Oth.grw {o : Addr} {H H' : Hp} {u : HO} (h : Oth o H H') (e : H o = some u) (n : isTp u = false) : Grw H H' := fun b v q i => by
  refine h b v (fun z => ?_) q
  rw [z, e] at q
  injection q with q
  rw [q, i] at n
  cases n
theorem WO.same {C : Addr} {H H' : Hp} {o dx L : Addr} {ws : List Str} {row : Int} {i m : Nat} (I : WO C H o dx L ws row i m) (s : Same H H') : WO C H' o dx L ws row i m := ⟨s _ _ I.ob, s _ _ I.ls⟩
theorem WO.ne {C : Addr} {H : Hp} {o dx L : Addr} {ws : List Str} {row : Int} {i m : Nat} (I : WO C H o dx L ws row i m) : L ≠ o := fun z => by
  have e := I.ls
  rw [z, I.ob] at e
  cases e
def vWord : Option Str → V
  | some s => .str s
  | none => .non
section
variable {P : Program} {w : World} {K : PySem.W.Frag} {mg : Str → Option Value} {base : Heap} {a : Ad}
/-- an error at a word -/
def ErrB (a : Ad) (E : XK) (o : Addr) (row : Int) (i : Nat) (H : Hp) : Prop := ∀ (d : Addr) H', Oth o H H' → H' d = some (.xd [("word", .int ((i : Nat) : Int)), ("line", .int row)]) → E (.ref a.B) (some d) H'
def spRefuse (a : Ad) : Sp := fun vs H _ E => ∃ (o dx L : Addr) (ws : List Str) (row : Int) (i m : Nat), vs = [.ref o] ∧ WO a.Wd H o dx L ws row i m ∧ ErrB a E o row i H
theorem scW1 : FnScope ["self"] ["self"] (defScope (inClass (top 43) 1)) := ⟨rfl, rfl, rfl, by decide +kernel, rfl, by decide +kernel, by decide +kernel⟩
theorem mtRefuse (T : Tx K mg w a) : Mt P w K mg base a.Wd 3 "refuse" (spRefuse a) := by
  obtain ⟨f, fd, F, hM⟩ := T.mRefuse.ex
  refine ⟨f, fd, ["self"], F.okX scW1 (fun vs H Q E h => ?_) (fun cdv A outer s H vs Q E hr h => ?_), hM, F.binds fun _ _ _ _ _ _ us hl => match us, hl with | [_], _ => rfl⟩
  · obtain ⟨o, dx, L, ws, row, i, m, rfl, _⟩ := h
    rfl
  · obtain ⟨o, dx, L, ws, row, i, m, rfl, I, ke⟩ := h
    refine ⟨_, (pss_one (ps_raiseB (W := fun cls d _ H => E cls d H) rfl T.errs (hr.mono (by decide)) (takes_of rfl rfl rfl rfl) (pe_fld (pv 0) rfl) (pe_fld (pv 0) rfl) rfl)), ?_⟩
    refine ⟨_, rfl, o, _, dx, _, _, rfl, I.ob, T.cW, T.nRow, rfl, ?_⟩
    refine ⟨fun u H1 => u = V.int ((i : Nat) : Int) ∧ H1 = H, ⟨_, rfl, o, _, dx, _, _, rfl, I.ob, T.cW, T.nAt, rfl, rfl, rfl⟩, fun u H1 e d H2 s2 hd hx => ?_⟩
    obtain ⟨rfl, rfl⟩ := e
    exact ke d H2 (Oth.of s2) hx
def spNext (a : Ad) : Sp := fun vs H Q _ => ∃ (o dx L : Addr) (ws : List Str) (row : Int) (i m : Nat), vs = [.ref o] ∧ WO a.Wd H o dx L ws row i m ∧ Q (vWord ws[i]?) H
theorem scW2 : FnScope ["self"] ["self"] (defScope (inClass (top 43) 2)) := ⟨rfl, rfl, rfl, by decide +kernel, rfl, by decide +kernel, by decide +kernel⟩
theorem mtNext (T : Tx K mg w a) : Mt P w K mg base a.Wd 1 "next_word" (spNext a) := by
  obtain ⟨f, fd, F, hM⟩ := T.mNext.ex
  refine ⟨f, fd, ["self"], lift0 (F.ok scW2 (fun vs H Q E h => ?_) (fun cdv A outer s H vs Q E hr h => ?_)), hM, F.binds fun _ _ _ _ _ _ us hl => match us, hl with | [_], _ => rfl⟩
  · obtain ⟨o, dx, L, ws, row, i, m, rfl, _⟩ := h
    rfl
  · obtain ⟨o, dx, L, ws, row, i, m, rfl, I, k⟩ := h
    refine ⟨_, (pss_one (ps_ret (pe_ifExp (pt_cmpR op_lt (pe_fld (pv 0) rfl) (pe_callB call_len (by rfl) T.nLen PySem.boot_len (pa_cons (pe_fld (pv 0) rfl) pa_nil)) (nomark _)) (pe_ix ix_list (pe_fld (pv 0) rfl) (pe_fld (pv 0) rfl) (fun _ _ => rfl)) pe_non))), ?_⟩
    refine ⟨_, rfl, o, _, dx, _, _, rfl, I.ob, T.cW, T.nAt, rfl, ?_⟩
    refine ⟨_, rfl, o, _, dx, _, _, rfl, I.ob, T.cW, T.nAll, rfl, _, _, rfl, .inl ⟨_, SqL.of I.ls, rfl⟩, _, _, rfl, rfl, _, rfl, ?_⟩
    rw [List.length_map]
    have e : decide (((i : Nat) : Int) < ((ws.length : Nat) : Int)) = decide (i < ws.length) := decide_eq_decide.mpr (by omega)
    rw [e]
    refine bl_cases (fun c => ?_) (fun c => ?_)
    · have lt : i < ws.length := of_decide_eq_true c
      refine ⟨_, rfl, o, _, dx, _, _, rfl, I.ob, T.cW, T.nAll, rfl, _, rfl, o, _, dx, _, _, rfl, I.ob, T.cW, T.nAt, rfl, L, _, ((i : Nat) : Int), V.str ws[i], rfl, rfl, SqL.of I.ls, atI_nat ?_, ?_⟩
      · rw [List.getElem?_map, List.getElem?_eq_getElem lt]
        rfl
      · rw [List.getElem?_eq_getElem lt] at k
        exact k
    · have lt : ¬ i < ws.length := of_decide_eq_false c
      rw [List.getElem?_eq_none (by omega)] at k
      exact k
theorem putF_at (L : Addr) (row : Int) (i m : Nat) (j : Nat) : putF "at" (.int ((j : Nat) : Int)) (wfs L row i m) = wfs L row j m := by
  unfold wfs putF
  rw [if_neg (by decide +kernel)]
  unfold putF
  rw [if_neg (by decide +kernel)]
  unfold putF
  rw [if_pos rfl]
theorem putF_read (L : Addr) (row : Int) (i m : Nat) (j : Nat) : putF "terms_read" (.int ((j : Nat) : Int)) (wfs L row i m) = wfs L row i j := by
  unfold wfs putF
  rw [if_neg (by decide +kernel)]
  unfold putF
  rw [if_neg (by decide +kernel)]
  unfold putF
  rw [if_neg (by decide +kernel)]
  unfold putF
  rw [if_pos rfl]
theorem WO.at_ {C : Addr} {H : Hp} {o dx L : Addr} {ws : List Str} {row : Int} {i m : Nat} (I : WO C H o dx L ws row i m) (j : Nat) : WO C (upd H o (.ins C dx (putF "at" (.int ((j : Nat) : Int)) (wfs L row i m)))) o dx L ws row j m := by
  rw [putF_at]
  exact ⟨upd_same, by rw [upd_ne I.ne]; exact I.ls⟩
theorem WO.read {C : Addr} {H : Hp} {o dx L : Addr} {ws : List Str} {row : Int} {i m : Nat} (I : WO C H o dx L ws row i m) (j : Nat) : WO C (upd H o (.ins C dx (putF "terms_read" (.int ((j : Nat) : Int)) (wfs L row i m)))) o dx L ws row i j := by
  rw [putF_read]
  exact ⟨upd_same, by rw [upd_ne I.ne]; exact I.ls⟩
theorem inV_words (s : Str) : inV (.str s) (W.all.map fun v => V.str v.str) = (W.of s).isSome := by
  cases e : W.of s with
  | some v =>
    rw [W.of_some e]
    cases v <;> decide +kernel
  | none =>
    have h := W.of_none e
    unfold inV
    rw [List.any_map]
    show _ = false
    rw [List.any_eq_false]
    intro v hv
    show ¬ (v.str == s) = true
    rw [beq_iff_eq]
    exact h v
def spWordOf (K : PySem.W.Frag) (a : Ad) : Sp := fun vs H Q E => ∃ (o dx L p : Addr) (ws : List Str) (row : Int) (i m : Nat), vs = [.ref o, .ref p] ∧ WO a.Wd H o dx L ws row i m ∧ SqL K H p (W.all.map fun v => V.str v.str) ∧
  (∀ v, ws[i]?.bind W.of = some v → ∀ H', Oth o H H' → WO a.Wd H' o dx L ws row (i + 1) m → Q (.str v.str) H') ∧ (ws[i]?.bind W.of = none → ErrB a E o row i H)
theorem scW3 : FnScope ["self", "some", "word"] ["self", "some"] (defScope (inClass (top 43) 3)) := ⟨rfl, rfl, rfl, by decide +kernel, rfl, by decide +kernel, by decide +kernel⟩
theorem mtWord (T : Tx K mg w a) : Mt P w K mg base a.Wd 4 "word_of" (spWordOf K a) := by
  obtain ⟨f, fd, F, hM⟩ := T.mWord.ex
  refine ⟨f, fd, ["self", "some"], F.okX scW3 (fun vs H Q E h => ?_) (fun cdv A outer s H vs Q E hr h => ?_), hM, F.binds fun _ _ _ _ _ _ us hl => match us, hl with | [_, _], _ => rfl⟩
  · obtain ⟨o, dx, L, p, ws, row, i, m, rfl, _⟩ := h
    rfl
  · obtain ⟨o, dx, L, p, ws, row, i, m, rfl, I, hp, k, ke⟩ := h
    refine ⟨_, (pss_cons (ps_set (i := 2) scW3.nd rfl (Or.inl rfl) (pe_mtd0 (pl := _) (pv 0) T.cW (mtNext T) (hr.mono (by decide)) passL))
      (pss_cons (ps_if (PW.pt (pw_or (pt_cmpR op_isN (pv 2) pe_non (nomark _)) (pw_or1 (pt_cmpR op_notIn_seq (pv 2) (pv 1) rfl)))) (pss_one (ps_expr (pe_mtd0 (pl := _) (pv 0) T.cW (mtRefuse T) (hr.mono (by decide)) (passes_call (W := fun cls d _ H => E cls d H) (takes_of rfl rfl rfl rfl) fun _ _ _ _ h => h)))) pss_nil)
      (pss_cons (ps_fld (pv 0) (pe_op op_add (pe_fld (pv 0) rfl) pe_int) rfl)
      (pss_one (ps_ret (pv 2)))))), ?_⟩
    refine ⟨_, rfl, o, dx, _, rfl, I.ob, rfl, o, dx, L, ws, row, i, m, rfl, I, ?_⟩
    refine ⟨_, rfl, rfl, _, rfl, ?_⟩
    have last : ∀ v, ws[i]?.bind W.of = some v → tSeq (sFld K (tVar 0) (tOp (rI0 fun i j => .int (i + j)) (tFld K (tVar 0) "at") (tC (.int 1))) "at") (tRet (tVar 2)) { nx := fun _ H' => Q V.non H', rt := Q } [some (.ref o), some (.ref p), some (.str v.str)] H := fun v ev => by
      refine ⟨_, rfl, o, _, dx, _, _, rfl, I.ob, T.cW, T.nAt, rfl, _, _, rfl, rfl, _, rfl, o, _, dx, _, rfl, I.ob, T.cW, T.nAt, (by show 4 < 1000; decide), _, rfl, ?_⟩
      exact k v ev _ Oth.upd (I.at_ (i + 1))
    cases e : ws[i]? with
    | none =>
      rw [e] at ke
      refine iteT (iteT ?_)
      exact ⟨_, rfl, o, dx, _, rfl, I.ob, rfl, o, dx, L, ws, row, i, m, rfl, I, ke rfl⟩
    | some s =>
      rw [e] at ke last
      have nn : decide (V.str s = V.non) = false := decide_eq_false (fun z => nomatch z)
      rw [show vWord (some s) = V.str s from rfl, nn]
      refine iteF ⟨_, rfl, _, rfl, p, _, rfl, .inl hp, rfl, (by decide +kernel), _, rfl, ?_⟩
      show (if (!inV (V.str s) (W.all.map fun v => V.str v.str)) = true then _ else _)
      rw [inV_words]
      have eo : (some s).bind W.of = W.of s := rfl
      rw [eo] at ke last
      cases e2 : W.of s with
      | none => exact iteT ⟨_, rfl, o, dx, _, rfl, I.ob, rfl, o, dx, L, ws, row, i, m, rfl, I, ke e2⟩
      | some v =>
        refine iteF ?_
        have z := last v e2
        rw [← W.of_some e2] at z
        exact z
def spTold (mg : Str → Option Value) (a : Ad) : Sp := fun vs H Q E => ∃ (o dx L fI : Addr) (ws : List Str) (row : Int) (i m : Nat), vs = [.ref o, .ref fI] ∧ mg "integer_in" = some (.ref fI) ∧ WO a.Wd H o dx L ws row i m ∧ (∀ x ∈ ws, x.length ≤ 1000000) ∧
  (∀ z, ws[i]?.bind intOf = some z → ∀ H', Oth o H H' → WO a.Wd H' o dx L ws row (i + 1) m → Q (.int z) H') ∧ (ws[i]?.bind intOf = none → ErrB a E o row i H)
theorem scW4 : FnScope ["self", "reader", "word", "found"] ["self", "reader"] (defScope (inClass (top 43) 4)) := ⟨rfl, rfl, rfl, by decide +kernel, rfl, by decide +kernel, by decide +kernel⟩
theorem mtTold (T : Tx K mg w a) : Mt P w K mg base a.Wd 4 "told" (spTold mg a) := by
  obtain ⟨f, fd, F, hM⟩ := T.mTold.ex
  obtain ⟨fI, fdI, psI, FI, hmI, hkI, hbI⟩ := (cl42 (P := P) (base := base) T).ex
  refine ⟨f, fd, ["self", "reader"], F.okX scW4 (fun vs H Q E h => ?_) (fun cdv A outer s H vs Q E hr h => ?_), hM, F.binds fun _ _ _ _ _ _ us hl => match us, hl with | [_, _], _ => rfl⟩
  · obtain ⟨o, dx, L, fI, ws, row, i, m, rfl, _⟩ := h
    rfl
  · obtain ⟨o, dx, L, fI', ws, row, i, m, rfl, hf, I, hs, k, ke⟩ := h
    obtain rfl : fI' = fI := by
      rw [hmI] at hf
      injection hf with hf
      injection hf with hf
      exact hf.symm
    refine ⟨_, (pss_cons (ps_set (i := 2) scW4.nd rfl (Or.inl rfl) (pe_mtd0 (pl := _) (pv 0) T.cW (mtNext T) (hr.mono (by decide)) passL))
      (pss_cons (ps_set (i := 3) scW4.nd rfl (Or.inl rfl) (pe_ifExp (pt_cmpR op_isN (pv 2) pe_non (nomark _)) pe_non (pe_callL (i := 1) FI (hr.mono (by decide)) rfl (.inl rfl) hkI hbI .nil passL (pa_cons (pv 2) pa_nil))))
      (pss_cons (ps_if (pt_cmpR op_isN (pv 3) pe_non (nomark _)) (pss_one (ps_expr (pe_mtd0 (pl := _) (pv 0) T.cW (mtRefuse T) (hr.mono (by decide)) (passes_call (W := fun cls d _ H => E cls d H) (takes_of rfl rfl rfl rfl) fun _ _ _ _ h => h)))) pss_nil)
      (pss_cons (ps_fld (pv 0) (pe_op op_add (pe_fld (pv 0) rfl) pe_int) rfl)
      (pss_one (ps_ret (pv 3))))))), ?_⟩
    refine ⟨_, rfl, o, dx, _, rfl, I.ob, rfl, o, dx, L, ws, row, i, m, rfl, I, ?_⟩
    have bad : ws[i]?.bind intOf = none → ∀ x2 x3 H1, Same H H1 → x3 = V.non → (tSeq (tIfS (tTest (tOp (fun x y H Q => y = V.non ∧ Q (.bl (decide (x = .non))) H) (tVar 3) (tC .non))) (tDrop (tMeth a.Wd "refuse" (spRefuse a) [] E (tVar 0) tNil)) tNext)
        (tSeq (sFld K (tVar 0) (tOp (rI0 fun i j => .int (i + j)) (tFld K (tVar 0) "at") (tC (.int 1))) "at") (tRet (tVar 3)))) { nx := fun _ H' => Q V.non H', rt := Q } [some (.ref o), some (.ref fI'), x2, some x3] H1 := fun e x2 x3 H1 s1 e3 => by
      subst e3
      refine ⟨_, rfl, rfl, _, rfl, iteT ?_⟩
      exact ⟨_, rfl, o, dx, _, rfl, (I.same s1).ob, rfl, o, dx, L, ws, row, i, m, rfl, I.same s1, fun d H2 s2 hx => ke e d H2 ((Oth.of s1).trans s2) hx⟩
    refine ⟨_, rfl, rfl, _, rfl, ?_⟩
    cases e : ws[i]? with
    | none =>
      refine iteT ?_
      exact bad (by rw [e]; rfl) _ _ H (Same.refl H) rfl
    | some s =>
      rw [show vWord (some s) = V.str s from rfl, show decide (V.str s = V.non) = false from decide_eq_false (fun z => nomatch z)]
      refine iteF ⟨rfl, _, rfl, s, rfl, hs s (List.mem_of_getElem? e), fun H1 s1 => ?_⟩
      cases e2 : intOf s with
      | none => exact bad (by rw [e]; exact e2) _ _ H1 s1 rfl
      | some z =>
        have I1 := I.same s1
        refine ⟨_, rfl, rfl, _, rfl, iteF ?_⟩
        refine ⟨_, rfl, o, _, dx, _, _, rfl, I1.ob, T.cW, T.nAt, rfl, _, _, rfl, rfl, _, rfl, o, _, dx, _, rfl, I1.ob, T.cW, T.nAt, (by show 4 < 1000; decide), _, rfl, ?_⟩
        exact k z (by rw [e]; exact e2) _ ((Oth.of s1).trans Oth.upd) (I1.at_ (i + 1))
def spInteger (a : Ad) : Sp := fun vs H Q E => ∃ (o dx L : Addr) (ws : List Str) (row : Int) (i m : Nat), vs = [.ref o] ∧ WO a.Wd H o dx L ws row i m ∧ (∀ x ∈ ws, x.length ≤ 1000000) ∧
  (∀ z, ws[i]?.bind intOf = some z → ∀ H', Oth o H H' → WO a.Wd H' o dx L ws row (i + 1) m → Q (.int z) H') ∧ (ws[i]?.bind intOf = none → ErrB a E o row i H)
theorem scW5 : FnScope ["self"] ["self"] (defScope (inClass (top 43) 5)) := ⟨rfl, rfl, rfl, by decide +kernel, rfl, by decide +kernel, by decide +kernel⟩
theorem mtInteger (T : Tx K mg w a) : Mt P w K mg base a.Wd 5 "integer" (spInteger a) := by
  obtain ⟨f, fd, F, hM⟩ := T.mInteger.ex
  obtain ⟨fI, fdI, psI, FI, hmI, hkI, hbI⟩ := (cl42 (P := P) (base := base) T).ex
  refine ⟨f, fd, ["self"], F.okX scW5 (fun vs H Q E h => ?_) (fun cdv A outer s H vs Q E hr h => ?_), hM, F.binds fun _ _ _ _ _ _ us hl => match us, hl with | [_], _ => rfl⟩
  · obtain ⟨o, dx, L, ws, row, i, m, rfl, _⟩ := h
    rfl
  · obtain ⟨o, dx, L, ws, row, i, m, rfl, I, hs, k, ke⟩ := h
    refine ⟨_, (pss_one (ps_ret (pe_mtd (pl := _) (pv 0) T.cW (mtTold T) (hr.mono (by decide)) (passes_call (W := fun cls d _ H => E cls d H) (takes_of rfl rfl rfl rfl) fun _ _ _ _ h => h) (pa_cons (pe_glob (v := V.ref fI) rfl hmI rfl) pa_nil)))), ?_⟩
    exact ⟨_, rfl, o, dx, _, rfl, I.ob, rfl, o, dx, L, fI, ws, row, i, m, rfl, hmI, I, hs, k, ke⟩
def spEnd (a : Ad) : Sp := fun vs H Q E => ∃ (o dx L : Addr) (ws : List Str) (row : Int) (i m : Nat), vs = [.ref o] ∧ WO a.Wd H o dx L ws row i m ∧ (ws[i]? = none → Q .non H) ∧ (ws[i]? ≠ none → ErrB a E o row i H)
theorem scW7 : FnScope ["self"] ["self"] (defScope (inClass (top 43) 7)) := ⟨rfl, rfl, rfl, by decide +kernel, rfl, by decide +kernel, by decide +kernel⟩
theorem mtEnd (T : Tx K mg w a) : Mt P w K mg base a.Wd 4 "end" (spEnd a) := by
  obtain ⟨f, fd, F, hM⟩ := T.mEnd.ex
  refine ⟨f, fd, ["self"], F.okX scW7 (fun vs H Q E h => ?_) (fun cdv A outer s H vs Q E hr h => ?_), hM, F.binds fun _ _ _ _ _ _ us hl => match us, hl with | [_], _ => rfl⟩
  · obtain ⟨o, dx, L, ws, row, i, m, rfl, _⟩ := h
    rfl
  · obtain ⟨o, dx, L, ws, row, i, m, rfl, I, k, ke⟩ := h
    refine ⟨_, (pss_one (ps_if (pt_cmpR op_notN (pe_mtd0 (pl := _) (pv 0) T.cW (mtNext T) (hr.mono (by decide)) passL) pe_non (nomark _)) (pss_one (ps_expr (pe_mtd0 (pl := _) (pv 0) T.cW (mtRefuse T) (hr.mono (by decide)) (passes_call (W := fun cls d _ H => E cls d H) (takes_of rfl rfl rfl rfl) fun _ _ _ _ h => h)))) pss_nil)), ?_⟩
    refine ⟨_, rfl, o, dx, _, rfl, I.ob, rfl, o, dx, L, ws, row, i, m, rfl, I, rfl, _, rfl, ?_⟩
    cases e : ws[i]? with
    | none =>
      refine iteF ?_
      exact k e
    | some s =>
      refine iteT ?_
      exact ⟨_, rfl, o, dx, _, rfl, I.ob, rfl, o, dx, L, ws, row, i, m, rfl, I, ke (by rw [e]; intro z; cases z)⟩
def spWInit (a : Ad) : Sp := fun vs H Q _ => ∃ (o dx : Addr) (x : Str) (row : Int), vs = [.ref o, .str x, .int row] ∧ H o = some (.ins a.Wd dx []) ∧ x.length ≤ 1000000 ∧
  ∀ L H', Oth o H H' → WO a.Wd H' o dx L (Txt.split x " ") row 0 0 → Q .non H'
theorem scW0 : FnScope ["self", "line", "row"] ["self", "line", "row"] (defScope (inClass (top 43) 0)) := ⟨rfl, rfl, rfl, by decide +kernel, rfl, by decide +kernel, by decide +kernel⟩
theorem mkWords (T : Tx K mg w a) : ∃ f fd, FnOk P w K mg base (L2.CX P w) 1 f fd ["self", "line", "row"] (spWInit a) ∧ Mk K a.Wd f ∧ Binds K fd ["self", "line", "row"] [] := by
  obtain ⟨f, fd, F, hM⟩ := T.mInit
  refine ⟨f, fd, lift0 (F.ok scW0 (fun vs H Q E h => ?_) (fun cdv A outer s H vs Q E hr h => ?_)), hM, F.binds fun _ _ _ _ _ _ us hl => match us, hl with | [_, _, _], _ => rfl⟩
  · obtain ⟨o, dx, x, row, rfl, _⟩ := h
    rfl
  · obtain ⟨o, dx, x, row, rfl, ho, hx, k⟩ := h
    refine ⟨_, (pss_cons (ps_fld (pv 0) (pe_split (pv 1) (pe_g T.cBLANK)) rfl)
      (pss_cons (ps_fld (pv 0) (pv 2) rfl)
      (pss_cons (ps_fld (pv 0) pe_int rfl)
      (pss_one (ps_fld (pv 0) pe_int rfl))))), ?_⟩
    refine ⟨_, rfl, ⟨_, rfl⟩, x, " ", rfl, rfl, (by decide +kernel), (by have : sizeLine = 16777216 := rfl; omega), fun L hL => ?_⟩
    have hLo : L ≠ o := fun z => by
      rw [z, ho] at hL
      cases hL
    refine ⟨_, rfl, o, _, dx, _, rfl, (same_upd hL _ _ ho), T.cW, T.nAll, (by show 0 < 1000; decide), ?_⟩
    refine ⟨_, rfl, _, rfl, o, _, dx, _, rfl, upd_same, T.cW, T.nRow, (by show 1 < 1000; decide), ?_⟩
    refine ⟨_, rfl, o, _, dx, _, rfl, upd_same, T.cW, T.nAt, (by show 2 < 1000; decide), ?_⟩
    refine ⟨_, rfl, o, _, dx, _, rfl, upd_same, T.cW, T.nRead, (by show 3 < 1000; decide), ?_⟩
    refine k L _ ?_ ⟨?_, ?_⟩
    · exact (Oth.of (same_upd hL)).trans (Oth.upd.trans (Oth.upd.trans (Oth.upd.trans Oth.upd)))
    · rw [upd_same]
      rfl
    · rw [upd_ne hLo, upd_ne hLo, upd_ne hLo, upd_ne hLo, upd_same]
end
end K31
end
/-! part K31I -/
section
set_option Elab.async false
set_option linter.all false
set_option maxRecDepth 100000
set_option maxHeartbeats 4000000
/-! K31I: Words.term. -/
namespace K31
open PySem PySem.Spec PyProof.Rows L2 TL

/-- how many integers stand before the place k + 1 -/
def cI (w : W) (k : Nat) : Nat := if w = .ifw then min k 2 else k - w.nk
theorem cI_in {w : W} {k : Nat} (h : k < w.ni + w.nk) (m : k + 1 ∈ w.pl) : cI w (k + 1) = cI w k := by
  have go : ∀ n, k < n → n ≤ 4 → k = 0 ∨ k = 1 ∨ k = 2 ∨ k = 3 := by omega
  cases w <;> rcases go _ h (by decide) with rfl | rfl | rfl | rfl <;> first | rfl | exact absurd m (by decide) | exact absurd h (by decide)
theorem cI_out {w : W} {k : Nat} (h : k < w.ni + w.nk) (m : k + 1 ∉ w.pl) : cI w (k + 1) = cI w k + 1 := by
  have go : ∀ n, k < n → n ≤ 4 → k = 0 ∨ k = 1 ∨ k = 2 ∨ k = 3 := by omega
  cases w <;> rcases go _ h (by decide) with rfl | rfl | rfl | rfl <;> first | rfl | exact absurd (by decide) m | exact absurd h (by decide)
theorem cI_full (w : W) : cI w (w.ni + w.nk) = w.ni := by cases w <;> rfl
theorem cI_le {w : W} {k : Nat} (h : k < w.ni + w.nk) (m : k + 1 ∉ w.pl) : cI w k < w.ni := by
  have go : ∀ n, k < n → n ≤ 4 → k = 0 ∨ k = 1 ∨ k = 2 ∨ k = 3 := by omega
  cases w <;> rcases go _ h (by decide) with rfl | rfl | rfl | rfl <;> first | decide | exact absurd (by decide) m | exact absurd h (by decide)
theorem cI_up {w : W} {k : Nat} (h : k ≤ w.ni + w.nk) : cI w k ≤ w.ni := by
  have go : ∀ n, k ≤ n → n ≤ 4 → k = 0 ∨ k = 1 ∨ k = 2 ∨ k = 3 ∨ k = 4 := by omega
  cases w <;> rcases go _ h (by decide) with rfl | rfl | rfl | rfl | rfl <;> first | decide | exact absurd h (by decide)
/-- an integer's place in the tuple -/
theorem vlay_int {w : W} {is : List Int} {ks : List V} (hi : is.length = w.ni) (hk : ks.length = w.nk) {k : Nat} (h : k < w.ni + w.nk) (m : k + 1 ∉ w.pl) : (vlay w is ks)[k + 1]? = (is[cI w k]?).map V.int := by
  have go : ∀ n, k < n → n ≤ 4 → k = 0 ∨ k = 1 ∨ k = 2 ∨ k = 3 := by omega
  cases w <;> first
    | (obtain ⟨x, y, rfl⟩ := len2 hi
       first
         | (obtain ⟨u, v, rfl⟩ := len2 hk
            rcases go _ h (by decide) with rfl | rfl | rfl | rfl <;> first | rfl | exact absurd (by decide) m | exact absurd h (by decide))
         | (obtain rfl := len0 hk
            rcases go _ h (by decide) with rfl | rfl | rfl | rfl <;> first | rfl | exact absurd (by decide) m | exact absurd h (by decide)))
    | (obtain ⟨x, rfl⟩ := len1 hi
       first
         | (obtain ⟨u, rfl⟩ := len1 hk
            rcases go _ h (by decide) with rfl | rfl | rfl | rfl <;> first | rfl | exact absurd (by decide) m | exact absurd h (by decide))
         | (obtain rfl := len0 hk
            rcases go _ h (by decide) with rfl | rfl | rfl | rfl <;> first | rfl | exact absurd (by decide) m | exact absurd h (by decide)))
    | (obtain rfl := len0 hi
       rcases go _ h (by decide) with rfl | rfl | rfl | rfl <;> first | exact absurd (by decide) m | exact absurd h (by decide))
theorem pl_ix {w : W} {k : Nat} (m : k ∈ w.pl) : ∃ n : Nat, w.pl[n]? = some k := List.getElem?_of_mem m

theorem pl_inj {w : W} {i j k : Nat} (h : w.pl[i]? = some k) (h' : w.pl[j]? = some k) : i = j := by
  have l1 := (List.getElem?_eq_some_iff.mp h).1
  have l2 := (List.getElem?_eq_some_iff.mp h').1
  have l3 := W.pl_len w
  have l4 := w.nk_le
  have gi : i = 0 ∨ i = 1 := by omega
  have gj : j = 0 ∨ j = 1 := by omega
  cases w <;> rcases gi with rfl | rfl <;> rcases gj with rfl | rfl <;> first | rfl | (simp [W.pl] at h h'; done) | (simp [W.pl] at h h'; omega)
theorem len_get (v : W) : valV (kk lenK) (Sum.inr v.str) = some (.int ((v.ni + v.nk + 1 : Nat) : Int)) := by
  rw [kk_val]
  exact look_len v
theorem takeI_ok_len {ws : List Str} {n i : Nat} {zs : List Int} {j : Nat} (h : takeI ws n i = .ok (zs, j)) : j = i + n ∧ zs.length = n := ⟨(takeI_snoc h).1, (takeI_snoc h).2.1⟩
theorem noLs_data : ∀ l : List Tm, noLs (l.map Tm.data) = true
  | [] => rfl
  | z :: l => by simp [noLs, noL_data, noLs_data l]
theorem vlay_none' {w : W} {k : Nat} (m : k ∈ w.pl) : k ≠ 0 := by
  revert m
  cases w <;> simp [W.pl] <;> omega
/-- a state of the two loops of Words.term -/
structure TL8 (K : PySem.W.Frag) (a : Ad) (ws : List Str) (row : Int) (o dx L r fo : Addr) (u : W) (H H' : Hp) (i m c : Nat) (kvs : List (Key × V)) : Prop where
  oth : Oth o H H'
  wo : WO a.Wd H' o dx L ws row i m
  fd : H' fo = some (.dK kvs)
  len : kvs.length ≤ c
  sr : SqT K H' r ((pz u.pl).map V.int)
theorem TL8.fo_ne {K : PySem.W.Frag} {a : Ad} {ws : List Str} {row : Int} {o dx L r fo : Addr} {u : W} {H H' : Hp} {i m c : Nat} {kvs : List (Key × V)} (J : TL8 K a ws row o dx L r fo u H H' i m c kvs) : fo ≠ o ∧ fo ≠ L := by
  refine ⟨fun z => ?_, fun z => ?_⟩
  · have e := J.fd
    rw [z, J.wo.ob] at e
    cases e
  · have e := J.fd
    rw [z, J.wo.ls] at e
    cases e
/-- the callee changes o; then the dict gets an entry -/
theorem TL8.step {K : PySem.W.Frag} {a : Ad} {ws : List Str} {row : Int} {o dx L r fo : Addr} {u : W} {H H' H2 : Hp} {i m c i' m' : Nat} {kvs : List (Key × V)} (J : TL8 K a ws row o dx L r fo u H H' i m c kvs) (hf : H fo = none)
    (ot : Oth o H' H2) (wo : WO a.Wd H2 o dx L ws row i' m') (k : Key) (v : V) : H2 fo = some (.dK kvs) ∧ Grw H' (upd H2 fo (.dK (putK kvs k v))) ∧ TL8 K a ws row o dx L r fo u H (upd H2 fo (.dK (putK kvs k v))) i' m' (c + 1) (putK kvs k v) := by
  obtain ⟨n1, n2⟩ := J.fo_ne
  have f2 := ot _ _ n1 J.fd
  have g : Grw H' (upd H2 fo (.dK (putK kvs k v))) := (ot.grw J.wo.ob rfl).trans (Grw.lst f2 rfl)
  refine ⟨f2, g, fun b x n e => ?_, ⟨?_, ?_⟩, upd_same, ?_, g.sqT J.sr⟩
  · rw [upd_ne (ne_of_none e hf)]
    exact ot _ _ n (J.oth _ _ n e)
  · rw [upd_ne (Ne.symm n1)]
    exact wo.ob
  · rw [upd_ne (Ne.symm n2)]
    exact wo.ls
  · have z := DSub.putK_len kvs k v
    have z2 := J.len
    omega
section
variable {P : Program} {w : World} {K : PySem.W.Frag} {mg : Str → Option Value} {base : Heap} {a : Ad}
def spTerm (K : PySem.W.Frag) (a : Ad) (f : Nat) : Sp := fun vs H Q E => ∃ (o dx L dl dp : Addr) (ws : List Str) (row : Int) (i m : Nat), vs = [.ref o, .ref dl, .ref dp] ∧ WO a.Wd H o dx L ws row i m ∧ (∀ x ∈ ws, x.length ≤ 1000000) ∧
  H dl = some (.dK (kk lenK)) ∧ H dp = some (.dK (kk (plcK a.pl))) ∧ 20 < m + f ∧ m ≤ 20 ∧
  (∀ t j m', readT ws f i m = .ok (t, j, m') → ∀ v H', Oth o H H' → WO a.Wd H' o dx L ws row j m' → TV K H' v t → Q v H') ∧ (∀ e, readT ws f i m = .error e → ErrB a E o row e H)
theorem scW8 : FnScope ["self", "lengths", "places", "word", "inner", "found", "spot"] ["self", "lengths", "places"] (defScope (inClass (top 43) 8)) := ⟨rfl, rfl, rfl, by decide +kernel, rfl, by decide +kernel, by decide +kernel⟩
theorem mtTerm (T : Tx K mg w a) : ∀ f, Mt P w K mg base a.Wd (f + 6) "term" (spTerm K a f) := by
  intro f
  induction f with
  | zero =>
    obtain ⟨f, fd, F, hM⟩ := T.mTerm.ex
    refine ⟨f, fd, ["self", "lengths", "places"], F.okX (k := 5) scW8 (fun vs H Q E h => ?_) (fun cdv A outer s H vs Q E hr h => ?_), hM, F.binds fun _ _ _ _ _ _ us hl => match us, hl with | [_, _, _], _ => rfl⟩
    · obtain ⟨o, dx, L, dl, dp, ws, row, i, m, rfl, _⟩ := h
      rfl
    · obtain ⟨o, dx, L, dl, dp, ws, row, i, m, rfl, I, hs, h1, h2, h3, h4, _⟩ := h
      omega
  | succ n ih =>
  obtain ⟨f, fd, F, hM⟩ := T.mTerm.ex
  refine ⟨f, fd, ["self", "lengths", "places"], F.okX (k := n + 6) scW8 (fun vs H Q E h => ?_) (fun cdv A outer s H vs Q E hr h => ?_), hM, F.binds fun _ _ _ _ _ _ us hl => match us, hl with | [_, _, _], _ => rfl⟩
  · obtain ⟨o, dx, L, dl, dp, ws, row, i, m, rfl, _⟩ := h
    rfl
  · obtain ⟨o, dx, L, dl, dp, ws, row, i, m, rfl, I, hs, hl, hp, hm, hm2, k, ke⟩ := h
    refine ⟨_, (pss_cons (ps_if (pt_cmpR op_eq (pe_fld (pv 0) rfl) (pe_g T.cWORDS) (nomark _)) (pss_one (ps_expr (pe_mtd0 (pl := _) (pv 0) T.cW (mtRefuse T) (hr.mono (by omega)) (passes_call (W := fun cls d _ H => E cls d H) (takes_of rfl rfl rfl rfl) fun _ _ _ _ h => h)))) pss_nil)
      (pss_cons (ps_set (i := 3) scW8.nd rfl (Or.inl rfl) (pe_mtd (pl := _) (pv 0) T.cW (mtWord T) (hr.mono (by omega)) (passes_call (W := fun cls d _ H => E cls d H) (takes_of rfl rfl rfl rfl) fun _ _ _ _ h => h) (pa_cons (pe_callTy (call_list_dK rfl) (by rfl) T.nList boot_list (pa_cons (pv 1) pa_nil)) pa_nil)))
      (pss_cons (ps_fld (pv 0) (pe_op op_add (pe_fld (pv 0) rfl) pe_int) rfl)
      (pss_cons (ps_asg (pe_tup (pa_cons (pe_dget2 (hu_of hr) (pv 2) (pv 3) (pe_tup pa_nil) ⟨rfl, rfl, rfl, rfl⟩) (pa_cons (pe_disp (pps_cons pe_int (pv 3) pps_nil) (by rfl) (by rfl) (fun z => by cases z) (by decide)) pa_nil))) (pg_tup rfl (pgs_cons (pg_name (i := 4) scW8.nd rfl (Or.inl rfl)) (pgs_cons (pg_name (i := 5) scW8.nd rfl (Or.inr rfl)) pgs_nil))))
      (pss_cons (ps_for (passes_of rfl) rfl (pi_range2 rfl T.nRange (pa_cons pe_int (pa_cons (pe_dget (hu_of hr) (pv 1) (pv 3) (fun _ _ => rfl)) pa_nil))) (pg_name (i := 6) scW8.nd rfl (Or.inl rfl)) (pss_one (ps_if (pt_cmpR op_notIn_seq (pv 6) (pv 4) rfl) (pss_one (ps_dput (hu_of hr) (pv 5) (pv 6) (pe_mtd0 (pl := _) (pv 0) T.cW (mtInteger T) (hr.mono (by omega)) (passes_call (W := fun cls d _ H => E cls d H) (takes_of rfl rfl rfl rfl) fun _ _ _ _ h => h)) rfl)) pss_nil)))
      (pss_cons (ps_for (passes_of rfl) rfl (pi_tup (pv 4)) (pg_name (i := 6) scW8.nd rfl (Or.inl rfl)) (pss_one (ps_dput (hu_of hr) (pv 5) (pv 6) (pe_mtd (pl := _) (pv 0) T.cW (ih) hr (passes_call (W := fun cls d _ H => E cls d H) (takes_of rfl rfl rfl rfl) fun _ _ _ _ h => h) (pa_cons (pv 1) (pa_cons (pv 2) pa_nil))) rfl)))
      (pss_one (ps_ret (pe_callTy call_tuple_of (by rfl) T.nTuple boot_tuple (pa_cons (pe_lc (own := [("spot", 6)]) (g := gName 6) rfl scW8.nd (pi_range1 rfl T.nRange (pa_cons (pe_dget (hu_of hr) (pv 1) (pv 3) (fun _ _ => rfl)) pa_nil)) (blkOk_by (own := [("spot", 6)]) (N := ["self", "lengths", "places", "word", "inner", "found", "spot"]) (sc := defScope (inClass (top 43) 8)) (by decide +kernel)) (fun _ _ _ _ _ => (pg_name (i := 6) scW8.nd rfl (Or.inl rfl))) (fun _ _ _ _ _ => pts_nil) (fun _ _ _ _ _ => (pe_dget (hu_of hr) (pv 5) (pv 6) (fun _ _ => rfl)))) pa_nil)))))))))), ?_⟩
    -- self.terms_read == MOST_WORDS
    refine ⟨_, rfl, o, _, dx, _, _, rfl, I.ob, T.cW, T.nRead, rfl, rfl, _, rfl, ?_⟩
    have em : decide (V.int ((m : Nat) : Int) = V.int 20) = decide (m = 20) := decide_eq_decide.mpr ⟨fun z => by injection z with z; omega, fun z => by rw [z]; rfl⟩
    rw [em]
    refine bl_cases (fun c => ?_) (fun c => ?_)
    · have c' : m = 20 := of_decide_eq_true c
      refine ⟨_, rfl, o, dx, _, rfl, I.ob, rfl, o, dx, L, ws, row, i, m, rfl, I, ke i ?_⟩
      rw [readT_succ, if_pos c']
    have c' : ¬ m = 20 := of_decide_eq_false c
    -- word = self.word_of(list(lengths))
    refine ⟨_, rfl, o, dx, _, rfl, I.ob, rfl, _, rfl, dl, _, rfl, hl, fun q hq => ?_⟩
    have s1 : Same H (upd H q (.lst ((kk lenK).map fun kv => kV kv.1))) := same_upd hq
    refine ⟨o, dx, L, q, ws, row, i, m, rfl, I.same s1, SqL.of upd_same, fun u eu H1 t1 I1 => ?_, fun e0 => ?_⟩
    rotate_left
    · refine fun d H2 t2 hx => ke i ?_ d H2 ((Oth.of s1).trans t2) hx
      rw [readT_succ, if_neg c', e0]
    have RT : readT ws (n + 1) i m = match takeI ws u.ni (i + 1) with
      | .error e => .error e
      | .ok (is, j) => match readKs ws n u.nk j (m + 1) with
        | .error e => .error e
        | .ok (ks, j, m) => .ok (mkTm u is ks, j, m) := by
      rw [readT_succ, if_neg c', eu] <;> rfl
    -- self.terms_read = self.terms_read + 1
    refine ⟨_, rfl, o, _, dx, _, _, rfl, I1.ob, T.cW, T.nRead, rfl, _, _, rfl, rfl, _, rfl, o, _, dx, _, rfl, I1.ob, T.cW, T.nRead, (by show 4 < 1000; decide), ?_⟩
    have I2 := I1.read (m + 1)
    have t2 : Oth o H (upd H1 o (.ins a.Wd dx (putF "terms_read" (.int ((m + 1 : Nat) : Int)) (wfs L row (i + 1) m)))) := ((Oth.of s1).trans t1).trans Oth.upd
    have eH : upd H1 o (.ins a.Wd dx (putF "terms_read" (.int (((m : Nat) : Int) + 1)) (wfs L row (i + 1) m))) = upd H1 o (.ins a.Wd dx (putF "terms_read" (.int ((m + 1 : Nat) : Int)) (wfs L row (i + 1) m))) := rfl
    show tSeq _ _ _ _ (upd H1 o (.ins a.Wd dx (putF "terms_read" (.int (((m : Nat) : Int) + 1)) (wfs L row (i + 1) m))))
    rw [eH]
    generalize upd H1 o (.ins a.Wd dx (putF "terms_read" (.int ((m + 1 : Nat) : Int)) (wfs L row (i + 1) m))) = H2 at *
    have dlo : dl ≠ o := fun z => by
      rw [z, I.ob] at hl
      cases hl
    have dpo : dp ≠ o := fun z => by
      rw [z, I.ob] at hp
      cases hp
    -- inner, found = (places.get(word, ()), {0: word})
    refine ⟨_, rfl, dp, rfl, .inl ⟨_, .inl (t2 _ _ dpo hp)⟩, _, rfl, Nat.zero_le _, fun q1 hq1 => ⟨_, DGet.k (k := Sum.inr u.str) (same_upd hq1 _ _ (t2 _ _ dpo hp)), ?_⟩⟩
    have s3 : Same H2 (upd H2 q1 (.tup [])) := same_upd hq1
    have iv : ∃ r, (valV (kk (plcK a.pl)) (Sum.inr u.str)).getD (.ref q1) = .ref r ∧ ∀ H', Same (upd H2 q1 (.tup [])) H' → SqT K H' r ((pz u.pl).map V.int) := by
      rw [kk_val]
      have lp := look_plc a.pl u
      unfold look at lp
      rw [lp]
      by_cases c : u.nk = 0
      · rw [if_pos c]
        refine ⟨q1, rfl, fun H' s' => ?_⟩
        have e : u.pl = [] := List.length_eq_zero_iff.mp (by rw [W.pl_len, c])
        rw [e]
        exact same_sqT s' (SqT.of upd_same)
      · rw [if_neg c]
        exact ⟨_, rfl, fun H' _ => T.pls u c H'⟩
    obtain ⟨r, er, hr'⟩ := iv
    rw [er]
    generalize upd H2 q1 (.tup []) = H3 at *
    intro fo hfo
    refine ⟨_, rfl, upd_same, [(Sum.inl 0, .str u.str)], rfl, (by show 1 ≤ 15; decide), (by show 2 ≤ sizeLine; decide), fun q2 hq2 => ?_⟩
    have s4 : Same H3 (upd (upd H3 fo (.dK [])) fo (.dK (mergeK [] [(Sum.inl 0, .str u.str)]))) := fun b x e => by
      rw [upd_ne (ne_of_none e hfo), upd_ne (ne_of_none e hfo)]
      exact e
    have hf4 : upd (upd H3 fo (.dK [])) fo (.dK (mergeK [] [(Sum.inl 0, .str u.str)])) fo = some (.dK [(Sum.inl 0, .str u.str)]) := upd_same
    generalize upd (upd H3 fo (.dK [])) fo (.dK (mergeK [] [(Sum.inl 0, .str u.str)])) = H4 at *
    have s5 : Same H4 (upd H4 q2 (.tup [V.ref r, V.ref fo])) := same_upd hq2
    refine ⟨q2, _, rfl, SqT.of upd_same, rfl, _, _, rfl, _, _, rfl, rfl, ?_⟩
    have hfoH : H fo = none := by
      cases e : H fo with
      | none => rfl
      | some x =>
        by_cases z : fo = o
        · rw [z] at hfo
          have := s3 _ _ I2.ob
          rw [hfo] at this
          cases this
        · have := s3 _ _ (t2 _ _ z e)
          rw [hfo] at this
          cases this
    have J0 : TL8 K a ws row o dx L r fo u H (upd H4 q2 (.tup [V.ref r, V.ref fo])) (i + 1) (m + 1) 1 [(Sum.inl 0, .str u.str)] :=
      ⟨t2.trans (Oth.of (s3.trans (s4.trans s5))), I2.same (s3.trans (s4.trans s5)), s5 _ _ hf4, Nat.le_refl _, hr' _ (s4.trans s5)⟩
    generalize upd H4 q2 (.tup [V.ref r, V.ref fo]) = H5 at *
    clear hr' er hq2 s5 hf4 s4 hfo s3 hq1 I2 eH t1 I1 hq s1
    have n1 := u.ni_le
    have n2 := u.nk_le
    -- for spot in range(1, lengths[word])
    refine ⟨_, rfl, _, rfl, dl, _, rfl, len_get u ▸ DGet.k (k := Sum.inr u.str) (J0.oth _ _ dlo hl), 1, _, rfl, ⟨by omega, by omega, by omega, by omega⟩, ?_⟩
    rw [show (((u.ni + u.nk + 1 : Nat) : Int) - 1).toNat = u.ni + u.nk by omega]
    refine for_range (lo := 1) (n := u.ni + u.nk) (fun c σ H' => ∃ zs kvs x6, σ = [some (.ref o), some (.ref dl), some (.ref dp), some (.str u.str), some (.ref r), some (.ref fo), x6] ∧
        TL8 K a ws row o dx L r fo u H H' (i + 1 + cI u c) (m + 1) (1 + c) kvs ∧ takeI ws (cI u c) (i + 1) = .ok (zs, i + 1 + cI u c) ∧ valV kvs (Sum.inl 0) = some (.str u.str) ∧
        ∀ j, j < c → j + 1 ∉ u.pl → valV kvs (Sum.inl ((j + 1 : Nat) : Int)) = (zs[cI u j]?).map V.int) ⟨[], [(Sum.inl 0, .str u.str)], none, rfl, ?_, ?_, rfl, fun j hj => absurd hj (Nat.not_lt_zero _)⟩ (fun c σ H' hc Z => ?_) (fun σ H' Z => ?_)
    · have e : cI u 0 = 0 := by cases u <;> rfl
      rw [e]
      exact J0
    · have e : cI u 0 = 0 := by cases u <;> rfl
      rw [e]
      rfl
    · obtain ⟨zs, kvs, x6, rfl, J, ht, h0, hv⟩ := Z
      rw [show (1 : Int) + ((c : Nat) : Int) = ((c + 1 : Nat) : Int) by omega]
      refine ⟨_, rfl, _, rfl, r, _, rfl, .inr J.sr, rfl, flat_ints _, _, rfl, ?_⟩
      show (if (!inV (V.int ((c + 1 : Nat) : Int)) ((pz u.pl).map V.int)) = true then _ else _)
      rw [inV_nat]
      by_cases mm : c + 1 ∈ u.pl
      · rw [decide_eq_true mm]
        refine iteF ?_
        refine ⟨zs, kvs, _, rfl, ?_, ?_, h0, fun j hj hm' => hv j ?_ hm'⟩
        · rw [cI_in hc mm]
          exact ⟨J.oth, J.wo, J.fd, by have := J.len; omega, J.sr⟩
        · rw [cI_in hc mm]
          exact ht
        · rcases Nat.lt_or_ge j c with z | z
          · exact z
          · have : j = c := by omega
            subst this
            exact absurd mm hm'
      · rw [decide_eq_false mm]
        refine iteT ?_
        have sn := takeI_snoc ht
        refine ⟨_, rfl, o, dx, _, rfl, J.wo.ob, rfl, o, dx, L, ws, row, _, _, rfl, J.wo, hs, fun z ez H2 t2' I2 => ?_, fun ez => ?_⟩
        · obtain ⟨f2, g2, J2⟩ := J.step hfoH t2' I2 (Sum.inl ((c + 1 : Nat) : Int)) (.int z)
          refine ⟨_, rfl, _, rfl, fo, _, rfl, DPut.k (k := Sum.inl ((c + 1 : Nat) : Int)) f2 (by have := J.len; have : sizeLine = 16777216 := rfl; omega), ?_⟩
          refine ⟨zs ++ [z], putK kvs (Sum.inl ((c + 1 : Nat) : Int)) (.int z), _, rfl, ?_, ?_, ?_, fun j hj hm' => ?_⟩
          · rw [cI_out hc mm]
            have e1 : i + 1 + cI u c + 1 = i + 1 + (cI u c + 1) := by omega
            rw [e1] at J2
            have e2 : 1 + c + 1 = 1 + (c + 1) := by omega
            rw [e2] at J2
            exact J2
          · rw [cI_out hc mm, sn.2.2, ez]
            simp only
            rw [show i + 1 + cI u c + 1 = i + 1 + (cI u c + 1) by omega]
          · rw [valV_put, if_neg (fun z => by injection z with z; omega)]
            exact h0
          · rw [valV_put]
            by_cases ej : j = c
            · subst ej
              rw [if_pos rfl, ← sn.2.1, List.getElem?_append_right (Nat.le_refl _), Nat.sub_self]
              rfl
            · rw [if_neg (fun z => by injection z with z; omega), hv j (by omega) hm']
              have lt : cI u j < zs.length := by
                have mono : ∀ a b, a ≤ b → b ≤ u.ni + u.nk → cI u a ≤ cI u b := fun a b h1 h2 => by
                  unfold cI
                  split <;> omega
                have c1 := cI_out (w := u) (k := j) (by omega) hm'
                have c2 := mono (j + 1) c (by omega) (by omega)
                rw [sn.2.1]
                omega
              rw [List.getElem?_append_left lt]
        · refine fun d H2 t2' hx => ke (i + 1 + cI u c) ?_ d H2 (J.oth.trans t2') hx
          have e1 : takeI ws (cI u c + 1) (i + 1) = .error (i + 1 + cI u c) := by
            rw [sn.2.2, ez]
          have lt := cI_le hc mm
          have e2 := takeI_err (k := u.ni - (cI u c + 1)) e1
          rw [show cI u c + 1 + (u.ni - (cI u c + 1)) = u.ni by omega] at e2
          rw [RT, e2]
    obtain ⟨zs, kvs, x6, rfl, J, ht, h0, hv⟩ := Z
    rw [cI_full] at J ht
    rw [ht] at RT
    simp only at RT
    clear J0
    have zl := (takeI_snoc ht).2.1
    -- for spot in inner
    refine ⟨_, rfl, r, rfl, ⟨_, J.sr⟩, ?_⟩
    refine for_tup (xs := (pz u.pl).map V.int) (fun c σ H' => ∃ kids vs kvs x6 j m', σ = [some (.ref o), some (.ref dl), some (.ref dp), some (.str u.str), some (.ref r), some (.ref fo), x6] ∧
        TL8 K a ws row o dx L r fo u H H' j m' (5 + c) kvs ∧ readKs ws n c (i + 1 + u.ni) (m + 1) = .ok (kids, j, m') ∧ m + 1 ≤ m' ∧ m' ≤ 20 ∧ DpAll K H' vs (kids.map Tm.data) ∧ valV kvs (Sum.inl 0) = some (.str u.str) ∧
        (∀ j, j < u.ni + u.nk → j + 1 ∉ u.pl → valV kvs (Sum.inl ((j + 1 : Nat) : Int)) = (zs[cI u j]?).map V.int) ∧ ∀ q p : Nat, q < c → u.pl[q]? = some p → valV kvs (Sum.inl ((p : Nat) : Int)) = vs[q]?)
      ⟨[], [], kvs, x6, _, _, rfl, ⟨J.oth, J.wo, J.fd, by have := J.len; omega, J.sr⟩, rfl, Nat.le_refl _, by omega, .nil, h0, hv, fun q p hq => absurd hq (Nat.not_lt_zero _)⟩ (fun c σ H' _ Z => ?_) (fun c x σ H' hx Z => ?_) (fun σ H' Z => ?_)
    · obtain ⟨_, _, _, _, _, _, _, J, _⟩ := Z
      exact J.sr
    · obtain ⟨kids, vs, kvs, x6, j, m', rfl, J, hk, m1, m2, hd, h0, hv, hp'⟩ := Z
      have hi : c < u.pl.length := by
        have := (List.getElem?_eq_some_iff.mp hx).1
        rw [pz_len] at this
        exact this
      obtain ⟨p1, hp1⟩ : ∃ p1, u.pl[c]? = some p1 := ⟨_, List.getElem?_eq_getElem hi⟩
      have ex : x = .int ((p1 : Nat) : Int) := by
        unfold pz at hx
        rw [List.getElem?_map, List.getElem?_map, hp1] at hx
        cases hx
        rfl
      subst ex
      have sn := readKs_snoc hk
      have lk : kids.length = c := sn.1
      have lv : vs.length = c := by rw [dpAll_len hd, List.length_map, lk]
      have inpl := List.mem_of_getElem? hp1
      have ltk : c < u.nk := by rw [← W.pl_len]; exact hi
      refine ⟨_, rfl, o, dx, _, rfl, J.wo.ob, rfl, _, rfl, _, rfl, o, dx, L, dl, dp, ws, row, j, m', rfl, J.wo, hs, J.oth _ _ dlo hl, J.oth _ _ dpo hp, by omega, m2, fun t j2 m3 et v H2 t2' I2 hv2 => ?_, fun e et => ?_⟩
      · obtain ⟨f2, g2, J2⟩ := J.step hfoH t2' I2 (Sum.inl ((p1 : Nat) : Int)) v
        refine ⟨_, rfl, _, rfl, fo, _, rfl, DPut.k (k := Sum.inl ((p1 : Nat) : Int)) f2 (by have := J.len; have := u.nk_le; have : sizeLine = 16777216 := rfl; omega), ?_⟩
        have rf := readT_facts ws n j m' t j2 m3 et
        refine ⟨kids ++ [t], vs ++ [v], putK kvs (Sum.inl ((p1 : Nat) : Int)) v, _, j2, m3, rfl, J2, ?_, by omega, rf.2.2 m2, ?_, ?_, fun q hq hm' => ?_, fun q p hq hpq => ?_⟩
        · rw [sn.2, et]
        · rw [List.map_append]
          have nn : noLs (kids.map Tm.data) = true := noLs_data kids
          refine dp_append (Grw.dpAll g2 _ _ nn hd) (.cons (Grw.dp ?_ _ _ (noL_data t) hv2) .nil)
          exact Grw.lst f2 rfl
        · rw [valV_put, if_neg (fun z => by injection z with z; exact vlay_none' inpl (by omega))]
          exact h0
        · rw [valV_put, if_neg (fun z => by injection z with z; have : q + 1 = p1 := (by omega); exact hm' (this ▸ inpl))]
          exact hv q hq hm'
        · rw [valV_put]
          by_cases eq : q = c
          · subst eq
            rw [hp1] at hpq
            injection hpq with hpq
            rw [if_pos (by rw [hpq]), ← lv, List.getElem?_append_right (Nat.le_refl _), Nat.sub_self]
            rfl
          · rw [if_neg (fun z => by injection z with z; have : p = p1 := (by omega); exact eq (pl_inj hpq (this ▸ hp1))), List.getElem?_append_left (by omega)]
            exact hp' q p (by omega) hpq
      · refine fun d H2 t2' hx => ke e ?_ d H2 (J.oth.trans t2') hx
        have e1 : readKs ws n (c + 1) (i + 1 + u.ni) (m + 1) = .error e := by rw [sn.2, et]
        have e2 := readKs_err (k := u.nk - (c + 1)) e1
        rw [show c + 1 + (u.nk - (c + 1)) = u.nk by omega] at e2
        rw [RT, e2]
    · obtain ⟨kids, vs, kvs, x6, j, m', rfl, J, hk, m1, m2, hd, h0, hv, hp'⟩ := Z
      rw [pz_len, W.pl_len] at hk hp'
      have sn := readKs_snoc hk
      have lk : kids.length = u.nk := sn.1
      have lv : vs.length = u.nk := by rw [dpAll_len hd, List.length_map, lk]
      rw [hk] at RT
      simp only at RT
      -- return tuple([found[spot] for spot in range(lengths[word])])
      refine ⟨_, rfl, _, rfl, dl, _, rfl, len_get u ▸ DGet.k (k := Sum.inr u.str) (J.oth _ _ dlo hl), _, rfl, by omega, by omega, fun D hD => ?_⟩
      rw [show (((u.ni + u.nk + 1 : Nat) : Int)).toNat = u.ni + u.nk + 1 by omega]
      have sz : (vlay u zs vs).length = u.ni + u.nk + 1 := by rw [vlay_length, zl, lv]
      refine lc_range (fun c H2 => Same H' H2 ∧ H2 D = some (.lst ((vlay u zs vs).take c))) ⟨same_upd hD, upd_same⟩ (fun c H2 hc Z => ?_) (fun H2 Z => ?_)
      · obtain ⟨s2, hD2⟩ := Z
        rw [Int.zero_add]
        have val : valV kvs (Sum.inl ((c : Nat) : Int)) = (vlay u zs vs)[c]? := by
          by_cases inp : c ∈ u.pl
          · obtain ⟨q, hq⟩ := pl_ix inp
            have lq : q < u.nk := by
              rw [← W.pl_len]
              exact (List.getElem?_eq_some_iff.mp hq).1
            rw [hp' q c lq hq, vlay_pl zl lv hq]
          · cases c with
            | zero =>
              rw [show (vlay u zs vs)[0]? = some (.str u.str) from rfl]
              exact h0
            | succ c => rw [hv c (by omega) inp, vlay_int zl lv (by omega) inp]
        have hat : (vlay u zs vs)[c]? = some ((vlay u zs vs)[c]'(by omega)) := List.getElem?_eq_getElem _
        have hdg : DGet H2 fo (.int ((c : Nat) : Int)) (some ((vlay u zs vs)[c]'(by omega))) := by
          rw [← hat, ← val]
          exact DGet.k (k := Sum.inl ((c : Nat) : Int)) (s2 _ _ J.fd)
        refine ⟨rfl, yes_ok (iteT ⟨_, rfl, _, rfl, fo, _, rfl, hdg, _, hD2, ?_, fun b x e => ?_, ?_⟩)⟩
        · rw [List.length_take]
          have : sizeLine = 16777216 := rfl
          omega
        · rw [upd_ne (ne_of_none e hD)]
          exact s2 _ _ e
        · rw [upd_same, List.take_succ, hat]
          rfl
      · obtain ⟨s2, hD2⟩ := Z
        rw [List.take_of_length_le (by omega)] at hD2
        refine ⟨D, _, rfl, .inl ⟨SqL.of hD2, fun l hl' => ?_⟩⟩
        have s3 := s2.trans (same_upd (o := HO.tup (vlay u zs vs)) hl')
        obtain ⟨f1, f2, f3, _, _⟩ := mkTm_facts zl lk
        refine k (mkTm u zs kids) j m' RT (.ref l) _ (J.oth.trans (Oth.of s3)) (J.wo.same s3) (TV.mk (ks := vs) ?_ ?_)
        · rw [f1, f2]
          exact SqT.of upd_same
        · rw [f3]
          exact dp_monoAll s3 _ _ hd
end
end K31
end
/-! part K31J -/
section
set_option Elab.async false
set_option linter.all false
set_option maxRecDepth 100000
set_option maxHeartbeats 4000000
/-! K31J: lines_of, need_one, term_in, read_term. -/
namespace K31
open PySem PySem.Spec PyProof.Rows L2 TL

/-! ### cut texts -/
theorem spl_small {S : List Nat} : ∀ (l acc : List Nat) (k : Nat), spl S k acc l ≠ [] ∧ (∀ p ∈ spl S k acc l, p.length ≤ acc.length + l.length) ∧ (spl S k acc l).length ≤ l.length + 1
  | [], acc, k => by
    rw [spl_nil]
    refine ⟨by simp, fun p hp => ?_, Nat.le_refl _⟩
    rw [List.mem_singleton.mp hp]
    exact Nat.le_add_right _ _
  | c :: r, acc, 0 => by
    by_cases h : pre S (c :: r) = true
    · rw [spl_hit h]
      obtain ⟨h1, h2, h3⟩ := spl_small (S := S) r [] (S.length - 1)
      refine ⟨by simp, fun p hp => ?_, ?_⟩
      · rcases List.mem_cons.mp hp with rfl | hp
        · omega
        · have := h2 p hp
          simp only [List.length_cons, List.length_nil] at this ⊢
          omega
      · simp only [List.length_cons]
        omega
    · rw [spl_miss (by simpa using h)]
      obtain ⟨h1, h2, h3⟩ := spl_small (S := S) r (acc ++ [c]) 0
      refine ⟨h1, fun p hp => ?_, ?_⟩
      · have := h2 p hp
        simp only [List.length_cons, List.length_append, List.length_nil] at this ⊢
        omega
      · simp only [List.length_cons]
        omega
  | c :: r, acc, k + 1 => by
    obtain ⟨h1, h2, h3⟩ := spl_small (S := S) r acc k
    rw [show spl S (k + 1) acc (c :: r) = spl S k acc r from rfl]
    refine ⟨h1, fun p hp => ?_, ?_⟩
    · have := h2 p hp
      simp only [List.length_cons]
      omega
    · simp only [List.length_cons]
      omega
theorem split_small {x y : Str} {s : Nat} (ey : tl y = [s]) (h : y.cps.all (· < 256) = true) : Txt.split x y ≠ [] ∧ (∀ p ∈ Txt.split x y, p.length ≤ x.length) ∧ (Txt.split x y).length ≤ x.length + 1 := by
  have e := split_spl x y (by rw [ey]; simp) (kind_ok h)
  obtain ⟨h1, h2, h3⟩ := spl_small (S := tl y) (tl x) [] 0
  rw [← e] at h1 h2 h3
  refine ⟨fun z => h1 (by rw [z]; rfl), fun p hp => ?_, ?_⟩
  · have z := h2 (tl p) (List.mem_map_of_mem hp)
    rw [tl_len, tl_len] at z
    simpa using z
  · rw [List.length_map, tl_len] at h3
    exact h3
theorem readT_at (ws : List Str) : ∀ (f i m : Nat) (t : Tm) (j m' : Nat), readT ws f i m = .ok (t, j, m') → i < j ∧ j ≤ ws.length := by
  have hI : ∀ (n i : Nat) (zs : List Int) (j : Nat), takeI ws n i = .ok (zs, j) → i ≤ ws.length → j ≤ ws.length := by
    intro n
    induction n with
    | zero =>
      intro i zs j h le
      unfold takeI at h
      cases h
      exact le
    | succ n ih =>
      intro i zs j h le
      unfold takeI at h
      cases e : ws[i]?.bind intOf with
      | none =>
        rw [e] at h
        cases h
      | some z =>
        rw [e] at h
        simp only at h
        have lt : i < ws.length := by
          rcases Nat.lt_or_ge i ws.length with l | l
          · exact l
          · rw [List.getElem?_eq_none l] at e
            cases e
        cases e2 : takeI ws n (i + 1) with
        | error q =>
          rw [e2] at h
          cases h
        | ok q =>
          obtain ⟨zs', j'⟩ := q
          rw [e2] at h
          cases h
          exact ih _ _ _ e2 lt
  intro f
  induction f with
  | zero =>
    intro i m t j m' h
    unfold readT at h
    cases h
  | succ f ih =>
    have ihk : ∀ (n j m : Nat) (as : List Tm) (j' m' : Nat), readKs ws f n j m = .ok (as, j', m') → j ≤ ws.length → j ≤ j' ∧ j' ≤ ws.length := by
      intro n
      induction n with
      | zero =>
        intro j m as j' m' h le
        unfold readKs at h
        cases h
        exact ⟨Nat.le_refl _, le⟩
      | succ n ihn =>
        intro j m as j' m' h le
        unfold readKs at h
        cases e : readT ws f j m with
        | error q =>
          rw [e] at h
          cases h
        | ok q =>
          obtain ⟨a, j1, m1⟩ := q
          rw [e] at h
          simp only at h
          cases e2 : readKs ws f n j1 m1 with
          | error q =>
            rw [e2] at h
            cases h
          | ok q =>
            obtain ⟨as', j2, m2⟩ := q
            rw [e2] at h
            cases h
            have a1 := ih _ _ _ _ _ e
            have a2 := ihn _ _ _ _ _ e2 a1.2
            exact ⟨by omega, a2.2⟩
    intro i m t j m' h
    rw [readT_succ] at h
    by_cases c : m = 20
    · rw [if_pos c] at h
      cases h
    · rw [if_neg c] at h
      cases e0 : ws[i]?.bind W.of with
      | none =>
        rw [e0] at h
        cases h
      | some w =>
        rw [e0] at h
        simp only at h
        have lt : i < ws.length := by
          rcases Nat.lt_or_ge i ws.length with l | l
          · exact l
          · rw [List.getElem?_eq_none l] at e0
            cases e0
        cases e1 : takeI ws w.ni (i + 1) with
        | error q =>
          rw [e1] at h
          cases h
        | ok q =>
          obtain ⟨is, j1⟩ := q
          rw [e1] at h
          simp only at h
          cases e2 : readKs ws f w.nk j1 (m + 1) with
          | error q =>
            rw [e2] at h
            cases h
          | ok q =>
            obtain ⟨ks, j2, m2⟩ := q
            rw [e2] at h
            cases h
            have b1 := hI _ _ _ _ e1 lt
            have b0 := (takeI_snoc e1).1
            have b2 := ihk _ _ _ _ _ _ e2 b1
            exact ⟨by omega, b2.2⟩

section
variable {P : Program} {w : World} {K : PySem.W.Frag} {mg : Str → Option Value} {base : Heap} {a : Ad}
def spLines : Sp := fun vs H Q _ => ∃ x : Str, vs = [.str x] ∧ x.length ≤ 1000000 ∧ ∀ l, H l = none → Q (.ref l) (upd H l (.lst ((Txt.split x "\n").map V.str)))
theorem sc44 : FnScope ["text"] ["text"] (defScope (top 44)) := ⟨rfl, rfl, rfl, by decide +kernel, rfl, by decide +kernel, by decide +kernel⟩
theorem cl44 (T : Tx K mg w a) : Cl P w K mg base 3 "lines_of" spLines := by
  obtain ⟨f, fd, F, hm⟩ := T.d44.ex
  refine ⟨f, fd, ["text"], F.okX sc44 (fun vs H Q E h => ?_) (fun cdv A outer s H vs Q E hr h => ?_), hm, F.kp, F.binds fun _ _ _ _ _ _ us hl => match us, hl with | [_], _ => rfl⟩
  · obtain ⟨x, rfl, _⟩ := h
    rfl
  · obtain ⟨x, rfl, hx, k⟩ := h
    refine ⟨_, (pss_cons (ps_if (pt_not (pt_val (pe_callB call_isi (by rfl) T.nIsi boot_isinstance (pa_cons (pv 0) (pa_cons (pe_bltn (v := .ty "str") (by rfl) T.nStr boot_str rfl) pa_nil))))) (pss_one (ps_raiseB (W := fun cls d _ H => E cls d H) rfl T.errs (hr.mono (by decide)) (takes_of rfl rfl rfl rfl) pe_non pe_non rfl)) pss_nil)
      (pss_one (ps_ret (pe_split (pv 0) (pe_g T.cNEWLINE))))), ?_⟩
    refine ⟨_, rfl, _, _, _, _, true, rfl, .ty "str", .base (.str _), kit_ty (by decide +kernel), true, rfl, iteF ?_⟩
    exact ⟨_, rfl, ⟨_, rfl⟩, x, "\n", rfl, rfl, (by decide +kernel), (by have : sizeLine = 16777216 := rfl; omega), k⟩
def spOne (K : PySem.W.Frag) (a : Ad) : Sp := fun vs H Q E => ∃ (l : Addr) (ls : List Str), vs = [.ref l] ∧ SqL K H l (ls.map V.str) ∧ (ls.length ≤ 1 → Q .non H) ∧
  (1 < ls.length → ∀ (d : Addr) H', Same H H' → H' d = some (.xd [("word", .int 0), ("line", .int 1)]) → E (.ref a.B) (some d) H')
theorem sc45 : FnScope ["lines"] ["lines"] (defScope (top 45)) := ⟨rfl, rfl, rfl, by decide +kernel, rfl, by decide +kernel, by decide +kernel⟩
theorem cl45 (T : Tx K mg w a) : Cl P w K mg base 3 "need_one" (spOne K a) := by
  obtain ⟨f, fd, F, hm⟩ := T.d45.ex
  refine ⟨f, fd, ["lines"], F.okX sc45 (fun vs H Q E h => ?_) (fun cdv A outer s H vs Q E hr h => ?_), hm, F.kp, F.binds fun _ _ _ _ _ _ us hl => match us, hl with | [_], _ => rfl⟩
  · obtain ⟨l, ls, rfl, _⟩ := h
    rfl
  · obtain ⟨l, ls, rfl, hl, k, ke⟩ := h
    refine ⟨_, (pss_one (ps_if (pt_cmpR op_gt (pe_callB call_len (by rfl) T.nLen PySem.boot_len (pa_cons (pv 0) pa_nil)) pe_int (nomark _)) (pss_one (ps_raiseB (W := fun cls d _ H => E cls d H) rfl T.errs (hr.mono (by decide)) (takes_of rfl rfl rfl rfl) pe_int pe_int rfl)) pss_nil)), ?_⟩
    refine ⟨_, rfl, _, _, rfl, .inl ⟨_, hl, rfl⟩, _, _, rfl, rfl, _, rfl, ?_⟩
    rw [List.length_map]
    refine bl_cases (fun c => ?_) (fun c => ?_)
    · have c' : 1 < ls.length := by
        have := of_decide_eq_true c
        omega
      refine ⟨fun u H1 => u = V.int 0 ∧ H1 = H, ⟨rfl, rfl⟩, fun u H1 e d H2 s2 hd hx => ?_⟩
      obtain ⟨rfl, rfl⟩ := e
      exact ke c' d H2 s2 hx
    · refine k ?_
      have := of_decide_eq_false c
      omega
def spTermIn (K : PySem.W.Frag) (a : Ad) : Sp := fun vs H Q E => ∃ (o dx L : Addr) (ws : List Str) (row : Int), vs = [.ref o] ∧ WO a.Wd H o dx L ws row 0 0 ∧ (∀ x ∈ ws, x.length ≤ 1000000) ∧
  (∀ t, readLine ws = .ok t → ∀ v H', Oth o H H' → TV K H' v t → Q v H') ∧ (∀ e, readLine ws = .error e → ErrB a E o row e H)
theorem sc46 : FnScope ["words", "found"] ["words"] (defScope (top 46)) := ⟨rfl, rfl, rfl, by decide +kernel, rfl, by decide +kernel, by decide +kernel⟩
theorem cl46 (T : Tx K mg w a) : Cl P w K mg base 28 "term_in" (spTermIn K a) := by
  obtain ⟨f, fd, F, hm⟩ := T.d46.ex
  refine ⟨f, fd, ["words"], F.okX sc46 (fun vs H Q E h => ?_) (fun cdv A outer s H vs Q E hr h => ?_), hm, F.kp, F.binds fun _ _ _ _ _ _ us hl => match us, hl with | [_], _ => rfl⟩
  · obtain ⟨o, dx, L, ws, row, rfl, _⟩ := h
    rfl
  · obtain ⟨o, dx, L, ws, row, rfl, I, hs, k, ke⟩ := h
    refine ⟨_, (pss_cons (ps_set (i := 1) sc46.nd rfl (Or.inl rfl) (pe_mtd (pl := _) (pv 0) T.cW (mtTerm T 21) (hr.mono (by decide)) (passes_call (W := fun cls d _ H => E cls d H) (takes_of rfl rfl rfl rfl) fun _ _ _ _ h => h) (pa_cons (pe_callTy call_dictKD (by rfl) T.nDict boot_dict (pa_cons (pe_glob (v := V.ref a.len) rfl T.gLEN rfl) pa_nil)) (pa_cons (pe_callTy call_dictKD (by rfl) T.nDict boot_dict (pa_cons (pe_glob (v := V.ref a.plc) rfl T.gPLC rfl) pa_nil)) pa_nil))))
      (pss_cons (ps_expr (pe_mtd0 (pl := _) (pv 0) T.cW (mtEnd T) (hr.mono (by decide)) (passes_call (W := fun cls d _ H => E cls d H) (takes_of rfl rfl rfl rfl) fun _ _ _ _ h => h)))
      (pss_one (ps_ret (pv 1))))), ?_⟩
    refine ⟨_, rfl, o, dx, _, rfl, I.ob, rfl, a.len, _, rfl, T.len, fun d1 h1 => ⟨a.plc, _, rfl, T.plc, fun d2 h2 => ?_⟩⟩
    have s1 := same_upd (o := HO.dK (kk lenK)) h1
    have s2 := same_upd (o := HO.dK (kk (plcK a.pl))) h2
    refine ⟨o, dx, L, d1, d2, ws, row, 0, 0, rfl, I.same (s1.trans s2), hs, s2 _ _ upd_same, upd_same, by decide, by decide, fun t j m' et v H1 t1 I1 hv => ?_, fun e et => ?_⟩
    rotate_left
    · refine fun d H2 t2 hx => ke e ?_ d H2 ((Oth.of (s1.trans s2)).trans t2) hx
      unfold readLine
      rw [et]
    have hj := (readT_at ws _ _ _ _ _ _ et).2
    refine ⟨_, rfl, o, dx, _, rfl, I1.ob, rfl, o, dx, L, ws, row, j, m', rfl, I1, fun en => ?_, fun en => ?_⟩
    · have ej : j = ws.length := by
        rcases Nat.lt_or_ge j ws.length with l | l
        · rw [List.getElem?_eq_getElem l] at en
          cases en
        · omega
      refine ⟨_, rfl, k t ?_ v H1 ((Oth.of (s1.trans s2)).trans t1) hv⟩
      unfold readLine
      rw [et]
      simp only
      rw [if_pos ej]
    · refine fun d H2 t2 hx => ke j ?_ d H2 (((Oth.of (s1.trans s2)).trans t1).trans t2) hx
      have ej : ¬ j = ws.length := fun z => en (by rw [z]; exact List.getElem?_eq_none (Nat.le_refl _))
      unfold readLine
      rw [et]
      simp only
      rw [if_neg ej]
theorem readLine_facts {ws : List Str} {t : Tm} (h : readLine ws = .ok t) : t.Sh ∧ t.nodes ≤ 20 ∧ t.depth ≤ 20 := by
  unfold readLine at h
  cases e : readT ws 21 0 0 with
  | error q =>
    rw [e] at h
    cases h
  | ok q =>
    obtain ⟨t', j, m'⟩ := q
    rw [e] at h
    simp only at h
    split at h
    · cases h
      obtain ⟨h1, h2, h3⟩ := readT_facts _ _ _ _ _ _ _ e
      have h4 := h3 (by omega)
      have h5 := t.depth_le_nodes
      exact ⟨h1, by omega, by omega⟩
    · cases h
def spRead (K : PySem.W.Frag) (a : Ad) : Sp := fun vs H Q E => ∃ x : Str, vs = [.str x] ∧ x.length ≤ 1000000 ∧ (∀ t, readR x = .tm t → ∀ v H', Same H H' → TV K H' v t → Q v H') ∧
  (∀ l w, readR x = .text l w → ∀ (d : Addr) H', Same H H' → H' d = some (.xd [("word", .int ((w : Nat) : Int)), ("line", .int ((l : Nat) : Int))]) → E (.ref a.B) (some d) H') ∧
  (∀ p, readR x = .path p → ∀ (d q : Addr) H', Same H H' → H' d = some (.xd [("path", .ref q)]) → SqT K H' q ((pz p).map V.int) → E (.ref a.T) (some d) H')
theorem sc47 : FnScope ["text", "lines", "found"] ["text"] (defScope (top 47)) := ⟨rfl, rfl, rfl, by decide +kernel, rfl, by decide +kernel, by decide +kernel⟩
theorem cl47 (T : Tx K mg w a) : Cl P w K mg base 29 "read_term" (spRead K a) := by
  obtain ⟨f, fd, F, hm⟩ := T.d47.ex
  obtain ⟨fW, fdW, FW, hMk, hbW⟩ := mkWords (P := P) (base := base) T
  refine ⟨f, fd, ["text"], F.okX sc47 (fun vs H Q E h => ?_) (fun cdv A outer s H vs Q E hr h => ?_), hm, F.kp, F.binds fun _ _ _ _ _ _ us hl => match us, hl with | [_], _ => rfl⟩
  · obtain ⟨x, rfl, _⟩ := h
    rfl
  · obtain ⟨x, rfl, hx, k, kb, kt⟩ := h
    refine ⟨_, (pss_cons (ps_set (i := 1) sc47.nd rfl (Or.inl rfl) (pe_cl (cl44 T) (hr.mono (by decide)) rfl (passes_call (W := fun cls d _ H => E cls d H) (takes_of rfl rfl rfl rfl) fun _ _ _ _ h => h) (pa_cons (pv 0) pa_nil)))
      (pss_cons (ps_set (i := 2) sc47.nd rfl (Or.inl rfl) (pe_cl (cl46 T) hr rfl (passes_call (W := fun cls d _ H => E cls d H) (takes_of rfl rfl rfl rfl) fun _ _ _ _ h => h) (pa_cons (pe_make hMk FW (hr.mono (by decide)) rfl T.gW hbW .nil passL (pa_cons (pe_ix ix_list (pv 1) pe_int (fun _ _ => rfl)) (pa_cons pe_int pa_nil))) pa_nil)))
      (pss_cons (ps_expr (pe_cl (cl45 T) (hr.mono (by decide)) rfl (passes_call (W := fun cls d _ H => E cls d H) (takes_of rfl rfl rfl rfl) fun _ _ _ _ h => h) (pa_cons (pv 1) pa_nil)))
      (pss_one (ps_ret (pe_cl (cl32 T) (hr.mono (by decide)) rfl (passes_call (W := fun cls d _ H => E cls d H) (takes_of rfl rfl rfl rfl) fun _ _ _ _ h => h) (pa_cons (pv 2) pa_nil))))))), ?_⟩
    refine ⟨_, rfl, x, rfl, hx, fun l hl => ?_⟩
    have sp := split_small (x := x) (y := "\n") (s := 10) (by decide +kernel) (by decide +kernel)
    generalize els : Txt.split x "\n" = ls at *
    have s1 : Same H (upd H l (.lst (ls.map V.str))) := same_upd hl
    obtain ⟨l0, r, rfl⟩ : ∃ l0 r, ls = l0 :: r := by
      cases ls with
      | nil => exact absurd rfl sp.1
      | cons l0 r => exact ⟨l0, r, rfl⟩
    have x0 : l0.length ≤ x.length := sp.2.1 l0 List.mem_cons_self
    have sp0 := split_small (x := l0) (y := " ") (s := 32) (by decide +kernel) (by decide +kernel)
    have RR : readR x = match readLine (Txt.split l0 " ") with
      | .error e => .text 0 e
      | .ok t => if 1 < (l0 :: r).length then .text 1 0 else fault t := by
      unfold readR
      rw [els]
      rfl
    refine ⟨_, rfl, l, _, 0, .str l0, rfl, rfl, SqL.of upd_same, atI_nat (j := 0) rfl, fun o dx ho hdx hne => ?_⟩
    have s2 : Same (upd H l (.lst ((l0 :: r).map V.str))) (upd (upd (upd H l (.lst ((l0 :: r).map V.str))) dx (.own o)) o (.ins a.Wd dx [])) := fun b u e => by
      rw [upd_ne (ne_of_none e ho), upd_ne (ne_of_none e hdx)]
      exact e
    have hoH : H o = none := by
      cases e : H o with
      | none => rfl
      | some u =>
        rw [s1 _ _ e] at ho
        cases ho
    refine ⟨o, dx, l0, 0, rfl, upd_same, by omega, fun L H3 t3 I3 => ⟨rfl, ?_⟩⟩
    have back : ∀ H', Oth o H3 H' → Same H H' := fun H' t b u e => by
      have n : b ≠ o := ne_of_none e hoH
      exact t _ _ n (t3 _ _ n (s2 _ _ (s1 _ _ e)))
    have hl3 : H3 l = some (.lst ((l0 :: r).map V.str)) := by
      refine t3 _ _ (fun z => ?_) (s2 _ _ upd_same)
      rw [← z, upd_same] at ho
      cases ho
    refine ⟨o, dx, L, _, 0, rfl, I3, fun y hy => ?_, fun t et v H4 t4 hv => ?_, fun e et => ?_⟩
    · have := sp0.2.1 y hy
      omega
    rotate_left
    · refine fun d H' t' hx' => kb 0 e ?_ d H' (back H' t') hx'
      rw [RR, et]
    rw [et] at RR
    simp only at RR
    have hl4 := t4 _ _ (fun z => by rw [z, I3.ob] at hl3; cases hl3) hl3
    refine ⟨_, rfl, l, l0 :: r, rfl, SqL.of hl4, fun one => ?_, fun two d H' s' hx' => ?_⟩
    rotate_left
    · refine kb 1 0 ?_ d H' ((back H4 t4).trans s') hx'
      rw [RR, if_pos two]
    rw [if_neg (by omega)] at RR
    unfold fault at RR
    obtain ⟨f1, f2, f3⟩ := readLine_facts et
    refine ⟨_, rfl, v, t, rfl, hv, f1, by omega, f2, fun en H' s' => ?_, fun p ep d q H' s' hx' hq => ?_⟩
    · rw [en] at RR
      exact k t RR v H' ((back H4 t4).trans s') (TV.mono s' hv)
    · rw [ep] at RR
      exact kt p RR d q H' ((back H4 t4).trans s') hx' hq
end
end K31
end
/-! part K31L -/
section
set_option Elab.async false
set_option linter.all false
set_option maxRecDepth 100000
set_option maxHeartbeats 4000000
/-! K31L: the law's draws. -/
namespace K31
open PySem PySem.Spec PyProof.Rows L2 TL
section
variable {P : Program} {w : World} {K : PySem.W.Frag} {mg : Str → Option Value} {base : Heap} {a : Ad}
def spMixed : Sp := fun vs H Q _ => ∃ c k : Int, vs = [.int c, .int k] ∧ 0 ≤ k ∧ k < 2 ^ 40 ∧ ∀ r : Int, 0 ≤ r → Q (.int r) H
theorem sc49 : FnScope ["cell", "k"] ["cell", "k"] (defScope (top 49)) := ⟨rfl, rfl, rfl, by decide +kernel, rfl, by decide +kernel, by decide +kernel⟩
theorem cl49 (T : Tx K mg w a) : Cl P w K mg base 1 "_law_mixed" spMixed := by
  obtain ⟨f, fd, F, hm⟩ := T.d49.ex
  refine ⟨f, fd, ["cell", "k"], lift0 (F.ok sc49 (fun vs H Q E h => ?_) (fun cdv A outer s H vs Q E hr h => ?_)), hm, F.kp, F.binds fun _ _ _ _ _ _ us hl => match us, hl with | [_, _], _ => rfl⟩
  · obtain ⟨c, k, rfl, _⟩ := h
    rfl
  · obtain ⟨c, k, rfl, k1, k2, q⟩ := h
    refine ⟨_, (pss_cons (ps_set (i := 0) sc49.nd rfl (Or.inl rfl) (pe_op op_mod (pe_callTy call_int1 (by rfl) T.nInt boot_int (pa_cons (pv 0) pa_nil)) pe_int))
      (pss_one (ps_ret (pe_op op_mod (pe_op op_mul (pe_op op_mod (pe_op op_add (pe_op op_add (pe_op op_mul (pv 0) (pe_op op_add pe_int (pe_op op_mul (pe_op op_mul pe_int (pv 1)) (pv 1)))) (pe_op op_mul pe_int (pv 1))) pe_int) pe_int) pe_int) pe_int)))), ?_⟩
    refine ⟨_, rfl, .inl ⟨_, rfl, _, _, rfl, rfl, (show (0 : Int) < 2147483647 by decide), ?_⟩⟩
    have b1 : 0 ≤ c % 2147483647 := Int.emod_nonneg _ (by decide)
    have b2 : c % 2147483647 < 2147483647 := Int.emod_lt_of_pos _ (by decide)
    generalize c % 2147483647 = d at *
    refine ⟨_, rfl, _, rfl, _, _, rfl, rfl, .inl (by omega), _, rfl, _, _, rfl, rfl, .inl (by omega), _, _, rfl, rfl, _, _, rfl, rfl, .inl (by omega), ?_⟩
    refine ⟨_, rfl, _, _, rfl, rfl, .inl (by decide), _, _, rfl, rfl, _, _, rfl, rfl, _, _, rfl, rfl, (show (0 : Int) < 2147483647 by decide), ?_⟩
    generalize (d * (48271 + 2 * k * k) + 69621 * k + 11) = z
    have c1 : 0 ≤ z % 2147483647 := Int.emod_nonneg _ (by decide)
    have c2 : z % 2147483647 < 2147483647 := Int.emod_lt_of_pos _ (by decide)
    refine ⟨_, _, rfl, rfl, .inl (by omega), _, _, rfl, rfl, (show (0 : Int) < 2147483629 by decide), q _ (Int.emod_nonneg _ (by decide))⟩

/-! ### the state -/
def stKv (lc ll : Addr) (t : Nat) : List (Key × V) := [(Sum.inr "cells", .ref lc), (Sum.inr "lefts", .ref ll), (Sum.inr "at", .int ((t : Nat) : Int)), (Sum.inr "room", .int 0)]
structure SO (H : Hp) (st lc ll : Addr) (n t : Nat) : Prop where
  sd : H st = some (.dK (stKv lc ll t))
  cs : ∃ cs : List Int, H lc = some (.lst (cs.map V.int)) ∧ cs.length = n
  ls : ∃ ls : List Int, H ll = some (.lst (ls.map V.int)) ∧ ls.length = n
  pos : 0 < n
  few : n ≤ 1000
  ne : lc ≠ ll
/-- all but the state and its lefts stays -/
def Stt (st ll : Addr) (H H' : Hp) : Prop := ∀ b u, b ≠ st → b ≠ ll → H b = some u → H' b = some u
theorem Stt.of {st ll : Addr} {H H' : Hp} (s : Same H H') : Stt st ll H H' := fun b u _ _ e => s b u e
theorem Stt.trans {st ll : Addr} {H1 H2 H3 : Hp} (h : Stt st ll H1 H2) (h' : Stt st ll H2 H3) : Stt st ll H1 H3 := fun b u n m e => h' b u n m (h b u n m e)
theorem SO.same {H H' : Hp} {st lc ll : Addr} {n t : Nat} (I : SO H st lc ll n t) (s : Same H H') : SO H' st lc ll n t := by
  obtain ⟨cs, c1, c2⟩ := I.cs
  obtain ⟨ls, l1, l2⟩ := I.ls
  exact ⟨s _ _ I.sd, ⟨cs, s _ _ c1, c2⟩, ⟨ls, s _ _ l1, l2⟩, I.pos, I.few, I.ne⟩
theorem SO.st_ne {H : Hp} {st lc ll : Addr} {n t : Nat} (I : SO H st lc ll n t) : lc ≠ st ∧ ll ≠ st := by
  obtain ⟨cs, c1, c2⟩ := I.cs
  obtain ⟨ls, l1, l2⟩ := I.ls
  refine ⟨fun z => ?_, fun z => ?_⟩
  · rw [z, I.sd] at c1
    cases c1
  · rw [z, I.sd] at l1
    cases l1
theorem Stt.grw {st lc ll : Addr} {H H' : Hp} {n t : Nat} (h : Stt st ll H H') (I : SO H st lc ll n t) : Grw H H' := by
  obtain ⟨ls, l1, l2⟩ := I.ls
  intro b u e i
  refine h b u (fun z => ?_) (fun z => ?_) e
  · rw [z, I.sd] at e
    injection e with e
    rw [← e] at i
    cases i
  · rw [z, l1] at e
    injection e with e
    rw [← e] at i
    cases i
theorem st_cells (lc ll : Addr) (t : Nat) : valV (stKv lc ll t) (Sum.inr "cells") = some (.ref lc) := by
  unfold stKv
  rw [valV_pos rfl]
theorem kCL : ¬ (Sum.inr "cells" : Key) = (Sum.inr "lefts" : Key) := by decide +kernel
theorem kCA : ¬ (Sum.inr "cells" : Key) = (Sum.inr "at" : Key) := by decide +kernel
theorem kLA : ¬ (Sum.inr "lefts" : Key) = (Sum.inr "at" : Key) := by decide +kernel
theorem kRA : ¬ (Sum.inr "room" : Key) = (Sum.inr "at" : Key) := by decide +kernel
theorem ixN_k {n j : Nat} (hj : j < n) : ixN n (j : Int) = some j := by
  unfold ixN
  rw [if_pos (by omega), if_pos (by omega)]
  simp
theorem st_lefts (lc ll : Addr) (t : Nat) : valV (stKv lc ll t) (Sum.inr "lefts") = some (.ref ll) := by
  unfold stKv
  rw [valV_neg kCL, valV_pos rfl]
theorem st_at (lc ll : Addr) (t : Nat) : valV (stKv lc ll t) (Sum.inr "at") = some (.int ((t : Nat) : Int)) := by
  unfold stKv
  rw [valV_neg kCA, valV_neg kLA, valV_pos rfl]
theorem st_put (lc ll : Addr) (t u : Nat) : putK (stKv lc ll t) (Sum.inr "at") (.int ((u : Nat) : Int)) = stKv lc ll u := by
  unfold putK
  rw [if_pos (by rw [valV_any, st_at]; rfl)]
  unfold stKv
  rw [List.map_cons, List.map_cons, List.map_cons, List.map_cons, List.map_nil, if_neg kCA, if_neg kLA, if_pos rfl, if_neg kRA]
theorem SO.get {H : Hp} {st lc ll : Addr} {n t : Nat} (I : SO H st lc ll n t) : DGet H st (.str "cells") (some (.ref lc)) ∧ DGet H st (.str "lefts") (some (.ref ll)) ∧ DGet H st (.str "at") (some (.int ((t : Nat) : Int))) :=
  ⟨st_cells lc ll t ▸ DGet.k (k := Sum.inr "cells") I.sd, st_lefts lc ll t ▸ DGet.k (k := Sum.inr "lefts") I.sd, st_at lc ll t ▸ DGet.k (k := Sum.inr "at") I.sd⟩
def spDraw : Sp := fun vs H Q _ => ∃ (st lc ll : Addr) (n t : Nat) (m : Int), vs = [.ref st, .int m] ∧ SO H st lc ll n t ∧ t ≤ 1000000 ∧ 0 < m ∧ m < 1073741824 ∧
  ∀ (r : Int) H', 0 ≤ r → r < m → Stt st ll H H' → SO H' st lc ll n (t + 1) → Q (.int r) H'
theorem sc51 : FnScope ["state", "many", "at", "place", "left", "number"] ["state", "many"] (defScope (top 51)) := ⟨rfl, rfl, rfl, by decide +kernel, rfl, by decide +kernel, by decide +kernel⟩
theorem cl51 (T : Tx K mg w a) : Cl P w K mg base 2 "_law_draw" spDraw := by
  obtain ⟨f, fd, F, hm⟩ := T.d51.ex
  refine ⟨f, fd, ["state", "many"], lift0 (F.ok sc51 (fun vs H Q E h => ?_) (fun cdv A outer s H vs Q E hr h => ?_)), hm, F.kp, F.binds fun _ _ _ _ _ _ us hl => match us, hl with | [_, _], _ => rfl⟩
  · obtain ⟨st, lc, ll, n, t, m, rfl, _⟩ := h
    rfl
  · obtain ⟨st, lc, ll, n, t, m, rfl, I, ht, m1, m2, q⟩ := h
    refine ⟨_, (pss_cons (ps_set (i := 2) sc51.nd rfl (Or.inl rfl) (pe_dget (hu_of hr) (pv 0) pe_str (fun _ _ => rfl)))
      (pss_cons (ps_dput (hu_of hr) (pv 0) pe_str (pe_op op_add (pv 2) pe_int) rfl)
      (pss_cons (ps_set (i := 3) sc51.nd rfl (Or.inl rfl) (pe_op op_mod (pe_callTy call_int1 (by rfl) T.nInt boot_int (pa_cons (pv 2) pa_nil)) (pe_callB call_len (by rfl) T.nLen PySem.boot_len (pa_cons (pe_dget (hu_of hr) (pv 0) pe_str (fun _ _ => rfl)) pa_nil))))
      (pss_cons (ps_set (i := 4) sc51.nd rfl (Or.inl rfl) (pe_ix ix_list (pe_dget (hu_of hr) (pv 0) pe_str (fun _ _ => rfl)) (pv 3) (fun _ _ => rfl)))
      (pss_cons (ps_if (pt_cmpR op_gt (pv 4) pe_int (nomark _)) (pss_cons (ps_asg (pe_op op_fdiv (pv 4) (pv 1)) (pg_sub (pe_dget (hu_of hr) (pv 0) pe_str (fun _ _ => rfl)) (pv 3) set_list))
      (pss_one (ps_ret (pe_op op_mod (pe_callTy call_int1 (by rfl) T.nInt boot_int (pa_cons (pv 4) pa_nil)) (pv 1))))) pss_nil)
      (pss_cons (ps_set (i := 5) sc51.nd rfl (Or.inl rfl) (pe_cl (cl49 T) (hr.mono (by decide)) rfl passL (pa_cons (pe_cl (cl49 T) (hr.mono (by decide)) rfl passL (pa_cons (pe_ix ix_list (pe_dget (hu_of hr) (pv 0) pe_str (fun _ _ => rfl)) (pv 3) (fun _ _ => rfl)) (pa_cons (pv 2) pa_nil))) (pa_cons (pe_op op_add pe_int (pv 2)) pa_nil))))
      (pss_one (ps_ret (pe_op op_mod (pe_op op_fdiv (pe_callTy call_int1 (by rfl) T.nInt boot_int (pa_cons (pe_op op_add (pe_op op_mul (pv 5) pe_int) (pe_cl (cl49 T) (hr.mono (by decide)) rfl passL (pa_cons (pv 5) (pa_cons (pe_op op_add pe_int (pv 2)) pa_nil)))) pa_nil)) pe_int) (pv 1)))))))))), ?_⟩
    refine ⟨_, rfl, st, _, rfl, I.get.2.2, ?_⟩
    refine ⟨_, rfl, _, _, rfl, rfl, _, rfl, st, _, rfl, DPut.k (k := Sum.inr "at") I.sd (by show 4 < sizeLine; decide), ?_⟩
    have ep : putK (stKv lc ll t) (Sum.inr "at") (.int (((t : Nat) : Int) + 1)) = stKv lc ll (t + 1) := st_put lc ll t (t + 1)
    rw [ep]
    obtain ⟨n1, n2⟩ := I.st_ne
    obtain ⟨cs, c1, c2⟩ := I.cs
    obtain ⟨ls, l1, l2⟩ := I.ls
    have I1 : SO (upd H st (.dK (stKv lc ll (t + 1)))) st lc ll n (t + 1) := ⟨upd_same, ⟨cs, by rw [upd_ne n1]; exact c1, c2⟩, ⟨ls, by rw [upd_ne n2]; exact l1, l2⟩, I.pos, I.few, I.ne⟩
    have c1' : upd H st (.dK (stKv lc ll (t + 1))) lc = some (.lst (cs.map V.int)) := by rw [upd_ne n1]; exact c1
    have l1' : upd H st (.dK (stKv lc ll (t + 1))) ll = some (.lst (ls.map V.int)) := by rw [upd_ne n2]; exact l1
    have s1 : Stt st ll H (upd H st (.dK (stKv lc ll (t + 1)))) := fun b u nb _ e => by
      rw [upd_ne nb]
      exact e
    generalize upd H st (.dK (stKv lc ll (t + 1))) = H1 at *
    have np : (0 : Int) < ((cs.map V.int).length : Nat) := by
      rw [List.length_map, c2]
      have := I.pos
      omega
    refine ⟨_, rfl, .inl ⟨_, rfl, _, rfl, st, _, rfl, I1.get.1, _, _, rfl, .inl ⟨_, SqL.of c1', rfl⟩, _, _, rfl, rfl, np, ?_⟩⟩
    rw [List.length_map, c2] at np ⊢
    obtain ⟨pl, hpl⟩ : ∃ pl : Nat, ((t : Nat) : Int) % ((n : Nat) : Int) = ((pl : Nat) : Int) ∧ pl < n := by
      refine ⟨t % n, by omega, Nat.mod_lt _ I.pos⟩
    have em : (fun (i j : Int) => V.int (i % j)) ((t : Nat) : Int) ((n : Nat) : Int) = V.int ((pl : Nat) : Int) := by
      show V.int _ = _
      rw [hpl.1]
    rw [em]
    have hl0 : ∃ l0, ls[pl]? = some l0 := ⟨_, List.getElem?_eq_getElem (by omega)⟩
    have hc0 : ∃ c0, cs[pl]? = some c0 := ⟨_, List.getElem?_eq_getElem (by omega)⟩
    obtain ⟨l0, hl0⟩ := hl0
    obtain ⟨c0, hc0⟩ := hc0
    refine ⟨_, rfl, st, _, rfl, I1.get.2.1, _, rfl, ll, _, ((pl : Nat) : Int), .int l0, rfl, rfl, SqL.of l1', atI_nat (by rw [List.getElem?_map, hl0]; rfl), ?_⟩
    refine ⟨_, rfl, _, _, rfl, rfl, _, rfl, ?_⟩
    refine bl_cases (fun c => ?_) (fun c => ?_)
    · refine ⟨_, rfl, _, rfl, _, _, rfl, rfl, ⟨m1, m2⟩, ?_⟩
      refine ⟨_, rfl, st, _, rfl, I1.get.2.1, _, rfl, ll, _, ((pl : Nat) : Int), pl, rfl, rfl, l1', ixN_k (by rw [List.length_map]; omega), ?_⟩
      refine ⟨_, rfl, .inl ⟨_, rfl, _, rfl, _, _, rfl, rfl, m1, ?_⟩⟩
      refine q _ _ (Int.emod_nonneg _ (by omega)) (Int.emod_lt_of_pos _ m1) (s1.trans fun b u _ nb e => by rw [upd_ne nb]; exact e) ?_
      refine ⟨by rw [upd_ne (Ne.symm n2)]; exact I1.sd, ⟨cs, by rw [upd_ne I.ne]; exact c1', c2⟩, ⟨ls.set pl (l0 / m), ?_, by rw [List.length_set]; exact l2⟩, I.pos, I.few, I.ne⟩
      rw [upd_same, List.map_set]
    · refine ⟨_, rfl, st, _, rfl, I1.get.1, _, rfl, lc, _, ((pl : Nat) : Int), .int c0, rfl, rfl, SqL.of c1', atI_nat (by rw [List.getElem?_map, hc0]; rfl), _, rfl, c0, _, rfl, by omega, by omega, fun r1 p1 => ?_⟩
      refine ⟨_, rfl, _, _, rfl, rfl, r1, _, rfl, by omega, by omega, fun r2 p2 => ?_⟩
      refine ⟨_, rfl, _, _, rfl, rfl, .inr (by decide), _, rfl, _, rfl, _, _, rfl, rfl, r2, _, rfl, by omega, by omega, fun r3 p3 => ?_⟩
      refine ⟨_, _, rfl, rfl, .inl ⟨_, rfl, _, _, rfl, rfl, ⟨(show (0 : Int) < 64 by decide), (show (64 : Int) < 1073741824 by decide)⟩, _, rfl, _, _, rfl, rfl, m1, ?_⟩⟩
      exact q _ _ (Int.emod_nonneg _ (by omega)) (Int.emod_lt_of_pos _ m1) s1 I1
def spOf (K : PySem.W.Frag) : Sp := fun vs H Q _ => ∃ (st lc ll p : Addr) (n t : Nat) (xs : List V), vs = [.ref st, .ref p] ∧ SO H st lc ll n t ∧ t ≤ 1000000 ∧ SqL K H p xs ∧ p ≠ ll ∧ 0 < xs.length ∧ xs.length < 1000000 ∧
  ∀ (x : V) H', x ∈ xs → Stt st ll H H' → SO H' st lc ll n (t + 1) → Q x H'
theorem sqL_stt {st lc ll p : Addr} {H H' : Hp} {n t : Nat} {xs : List V} (I : SO H st lc ll n t) (h : SqL K H p xs) (n2 : p ≠ ll) (s : Stt st ll H H') : SqL K H' p xs := by
  have n1 : (∀ u, H p = some u → u ≠ .dK (stKv lc ll t)) → p ≠ st := fun h z => by
    rw [z] at h
    exact h _ I.sd rfl
  rcases h with (h | ⟨o, h⟩) | h
  · exact .inl (.inl (s _ _ (n1 fun u e z => by rw [h] at e; injection e with e; rw [z] at e; cases e) n2 h))
  · exact .inl (.inr ⟨o, s _ _ (n1 fun u e z => by rw [h] at e; injection e with e; rw [z] at e; cases e) n2 h⟩)
  · exact .inr h
theorem sc52 : FnScope ["state", "some"] ["state", "some"] (defScope (top 52)) := ⟨rfl, rfl, rfl, by decide +kernel, rfl, by decide +kernel, by decide +kernel⟩
theorem cl52 (T : Tx K mg w a) : Cl P w K mg base 3 "_law_of" (spOf K) := by
  obtain ⟨f, fd, F, hm⟩ := T.d52.ex
  refine ⟨f, fd, ["state", "some"], lift0 (F.ok sc52 (fun vs H Q E h => ?_) (fun cdv A outer s H vs Q E hr h => ?_)), hm, F.kp, F.binds fun _ _ _ _ _ _ us hl => match us, hl with | [_, _], _ => rfl⟩
  · obtain ⟨st, lc, ll, p, n, t, xs, rfl, _⟩ := h
    rfl
  · obtain ⟨st, lc, ll, p, n, t, xs, rfl, I, ht, hp, np, x1, x2, q⟩ := h
    refine ⟨_, (pss_one (ps_ret (pe_ix ix_list (pv 1) (pe_cl (cl51 T) (hr.mono (by decide)) rfl passL (pa_cons (pv 0) (pa_cons (pe_callB call_len (by rfl) T.nLen PySem.boot_len (pa_cons (pv 1) pa_nil)) pa_nil))) (fun _ _ => rfl)))), ?_⟩
    refine ⟨_, rfl, _, rfl, _, rfl, _, _, rfl, .inl ⟨_, hp, rfl⟩, st, lc, ll, n, t, _, rfl, I, ht, by omega, by omega, fun r H' r1 r2 s1 I1 => ?_⟩
    obtain ⟨k, rfl⟩ : ∃ k : Nat, r = ((k : Nat) : Int) := ⟨r.toNat, by omega⟩
    have lk : k < xs.length := by omega
    refine ⟨p, xs, ((k : Nat) : Int), xs[k], rfl, rfl, sqL_stt I hp np s1, atI_nat (List.getElem?_eq_getElem lk), q _ _ (List.getElem_mem lk) s1 I1⟩
theorem mergeK_new : ∀ (more kvs : List (Key × V)), ((kvs ++ more).map (·.1)).Nodup → mergeK kvs more = kvs ++ more
  | [], kvs, _ => (List.append_nil _).symm
  | p :: more, kvs, h => by
    have e : valV kvs p.1 = none := by
      cases e : valV kvs p.1 with
      | none => rfl
      | some v =>
        have m := valV_in e
        rw [List.map_append, List.map_cons] at h
        exact absurd rfl (List.nodup_append.mp h |>.2.2 _ m _ List.mem_cons_self)
    show mergeK (putK kvs p.1 p.2) more = _
    rw [putK_new _ e, mergeK_new more _ (by rw [List.append_assoc]; exact h), List.append_assoc]
    rfl
theorem st_merge (lc ll : Addr) : mergeK [] (stKv lc ll 0) = stKv lc ll 0 := mergeK_new _ [] (show ([Sum.inr "cells", Sum.inr "lefts", Sum.inr "at", Sum.inr "room"] : List Key).Nodup by decide +kernel)
def spBegin (K : PySem.W.Frag) : Sp := fun vs H Q _ => ∃ (p : Addr) (ns : List Int), vs = [.ref p] ∧ SqL K H p (ns.map V.int) ∧ ns.length ≤ 100 ∧
  ∀ (st lc ll : Addr) (n : Nat) H', Same H H' → H st = none → H ll = none → SO H' st lc ll n 0 → Q (.ref st) H'
theorem sc50 : FnScope ["script", "cells", "cell"] ["script"] (defScope (top 50)) := ⟨rfl, rfl, rfl, by decide +kernel, rfl, by decide +kernel, by decide +kernel⟩
theorem shaped_ints (ns : List Int) : SeqAt.shaped (.list (ns.map PyData.int)) = true := by
  unfold SeqAt.shaped
  have c : (PyData.list (ns.map PyData.int)).canLay0 = true := canLayAll_ints ns
  have d : (PyData.list (ns.map PyData.int)).depth ≤ 64 := by
    show PyData.depthAll (ns.map PyData.int) + 1 ≤ 64
    rw [depthAll_ints]
    omega
  rw [c, decide_eq_true d]
  rfl
theorem cl50 (T : Tx K mg w a) : Cl P w K mg base 1 "_law_begin" (spBegin K) := by
  obtain ⟨f, fd, F, hm⟩ := T.d50.ex
  refine ⟨f, fd, ["script"], lift0 (F.ok sc50 (fun vs H Q E h => ?_) (fun cdv A outer s H vs Q E hr h => ?_)), hm, F.kp, F.binds fun _ _ _ _ _ _ us hl => match us, hl with | [_], _ => rfl⟩
  · obtain ⟨p, ns, rfl, _⟩ := h
    rfl
  · obtain ⟨p, ns, rfl, hp, hn, q⟩ := h
    refine ⟨_, (pss_cons (ps_set (i := 1) sc50.nd rfl (Or.inl rfl) (pe_ifExp (pt_cmpR (op_neD (hu64 hr)) (pv 0) (pe_lst pa_nil) (nomark _)) (pe_callTy call_list_of (by rfl) T.nList boot_list (pa_cons (pv 0) pa_nil)) (pe_lst (pa_cons pe_int pa_nil))))
      (pss_one (ps_ret (pe_disp (pps_cons pe_str (pv 1) (pps_cons pe_str (pe_lc (own := [("cell", 2)]) (g := gName 2) rfl sc50.nd (pi_list (pv 1)) (blkOk_by (own := [("cell", 2)]) (N := ["script", "cells", "cell"]) (sc := defScope (top 50)) (by decide +kernel)) (fun _ _ _ _ _ => (pg_name (i := 2) sc50.nd rfl (Or.inl rfl))) (fun _ _ _ _ _ => pts_nil) (fun _ _ _ _ _ => (pe_ifExp (pt_cmpR op_ge (pv 2) (pe_op op_pow pe_int pe_int) (nomark _)) (pv 2) pe_int))) (pps_cons pe_str pe_int (pps_cons pe_str pe_int pps_nil)))) (by rfl) (by rfl) (fun z => by cases z) (by decide))))), ?_⟩
    have go : ∀ (lc : Addr) (cs : List Int) (H1 : Hp), Same H H1 → H1 lc = some (.lst (cs.map V.int)) → 0 < cs.length → cs.length ≤ 100 →
        tRet (tDisp [(tC (.str "cells"), tVar 1), (tC (.str "lefts"), tLc (iList K (tVar 1)) (gName 2) tYes (tIf (tTest (tOp (rI0 fun i j => .bl (decide (j ≤ i))) (tVar 2) (tOp (rI CPow fun i j => .int (i ^ j.toNat)) (tC (.int 10)) (tC (.int 18))))) (tVar 2) (tC (.int 0))) [2]), (tC (.str "at"), tC (.int 0)), (tC (.str "room"), tC (.int 0))])
          { nx := fun _ H' => Q V.non H', rt := Q } [some (.ref p), some (.ref lc), none] H1 := by
      intro lc cs H1 s1 hc c1 c2 st hst
      have s2 : Same H1 (upd H1 st (.dK [])) := same_upd hst
      refine ⟨_, rfl, _, rfl, lc, rfl, ⟨_, SqL.of (s2 _ _ hc)⟩, fun ll hll => ?_⟩
      have s3 : Same (upd H1 st (.dK [])) (upd (upd H1 st (.dK [])) ll (.lst [])) := same_upd hll
      refine lc_list (xs := cs.map V.int) (fun i H' => Same (upd H1 st (.dK [])) H' ∧ H' ll = some (.lst (((cs.take i).map fun c => if (10 : Int) ^ (18 : Int).toNat ≤ c then c else 0).map V.int))) ⟨s3, upd_same⟩ (fun i H' _ Z => SqL.of (Z.1 _ _ (s2 _ _ hc))) (fun i x H' hx Z => ?_) (fun H' Z => ?_)
      · obtain ⟨s4, h4⟩ := Z
        rw [List.getElem?_map, Option.map_eq_some_iff] at hx
        obtain ⟨c, hcx, rfl⟩ := hx
        have li : i < cs.length := (List.getElem?_eq_some_iff.mp hcx).1
        have fin : ∀ y : Int, y = (if (10 : Int) ^ (18 : Int).toNat ≤ c then c else 0) → ∃ acc, H' ll = some (.lst acc) ∧ acc.length < sizeLine ∧ Same (upd H1 st (.dK [])) (upd H' ll (.lst (acc ++ [V.int y]))) ∧
            upd H' ll (.lst (acc ++ [V.int y])) ll = some (.lst (((cs.take (i + 1)).map fun c => if (10 : Int) ^ (18 : Int).toNat ≤ c then c else 0).map V.int)) := fun y ey => by
          refine ⟨_, h4, ?_, fun b u e => ?_, ?_⟩
          · rw [List.length_map, List.length_map, List.length_take]
            have : sizeLine = 16777216 := rfl
            omega
          · rw [upd_ne (ne_of_none e hll)]
            exact s4 _ _ e
          · rw [upd_same, List.take_succ, hcx, ey]
            simp
        refine ⟨rfl, yes_ok (iteT ⟨_, rfl, 10, 18, rfl, rfl, ⟨by decide, by decide, by decide⟩, _, _, rfl, rfl, _, rfl, ?_⟩)⟩
        by_cases cc : (10 : Int) ^ (18 : Int).toNat ≤ c
        · rw [decide_eq_true cc]
          exact iteT ⟨_, rfl, fin c (if_pos cc).symm⟩
        · rw [decide_eq_false cc]
          exact iteF (fin 0 (if_neg cc).symm)
      · obtain ⟨s4, h4⟩ := Z
        rw [List.length_map, List.take_length] at h4
        refine ⟨s4 _ _ upd_same, stKv lc ll 0, rfl, by show 4 ≤ 15; decide, ?_⟩
        rw [st_merge]
        have hst' : H st = none := by
          cases e : H st with
          | none => rfl
          | some u =>
            rw [s1 _ _ e] at hst
            cases hst
        have hll' : H ll = none := by
          cases e : H ll with
          | none => rfl
          | some u =>
            rw [(s1.trans s2) _ _ e] at hll
            cases hll
        have ls : ll ≠ st := fun z => by
          rw [z, upd_same] at hll
          cases hll
        have lcs : lc ≠ st := fun z => by
          rw [z, hst] at hc
          cases hc
        have lcl : lc ≠ ll := fun z => by
          have := s2 _ _ hc
          rw [z, hll] at this
          cases this
        refine q st lc ll cs.length _ (fun b u e => ?_) hst' hll' ⟨upd_same, ⟨cs, ?_, rfl⟩, ⟨cs.map fun c => if (10 : Int) ^ (18 : Int).toNat ≤ c then c else 0, ?_, ?_⟩, c1, by omega, lcl⟩
        · rw [upd_ne (ne_of_none e hst')]
          exact s4 _ _ (s2 _ _ (s1 _ _ e))
        · rw [upd_ne lcs]
          exact s4 _ _ (s2 _ _ hc)
        · rw [upd_ne ls]
          exact h4
        · rw [List.length_map]
    refine ⟨_, rfl, Nat.zero_le _, fun q0 hq0 => ?_⟩
    have s1 : Same H (upd H q0 (.lst [])) := same_upd hq0
    refine ⟨.list (ns.map PyData.int), .list [], .lst (s1.seq hp) (dp_ints ns), .lst (SqL.of upd_same) .nil, shaped_ints ns, rfl, _, rfl, ?_⟩
    rw [eqv_nil]
    cases ns with
    | nil =>
      refine iteF ⟨by show 1 ≤ sizeLine; decide, fun lc hlc => ?_⟩
      exact go lc [0] _ (s1.trans (same_upd hlc)) upd_same (by decide) (by decide)
    | cons n r =>
      refine iteT ⟨_, rfl, p, _, rfl, .inl (s1.seq hp), fun lc hlc => ?_⟩
      exact go lc (n :: r) _ (s1.trans (same_upd hlc)) upd_same (Nat.succ_pos _) hn
/-! ### the words and how many stand behind them -/
def trW (l : List W) : List (TE × TE) := l.map fun v => (tC (.str v.str), tTup (tCons (tC (.int ((v.ni : Nat) : Int))) (tCons (tC (.int ((v.nk : Nat) : Int))) tNil)))
theorem pairs_W {σ : L2.St} : ∀ {l : List W} {H : Hp} {Q : List (V × V) → Hp → Prop}, l.Nodup →
    (∀ (g : W → Addr) H', Same H H' → (∀ v ∈ l, H' (g v) = some (.tup [.int ((v.ni : Nat) : Int), .int ((v.nk : Nat) : Int)])) → Q (l.map fun v => (V.str v.str, V.ref (g v))) H') → tPairs (trW l) σ H Q
  | [], H, Q, _, q => q (fun _ => 0) H (Same.refl H) fun v hv => absurd hv (by simp)
  | v :: l, H, Q, nd, q => by
    refine ⟨(by show 2 ≤ sizeLine; decide), fun p hp => ?_⟩
    have nd' := List.nodup_cons.mp nd
    have s1 : Same H (upd H p (.tup [.int ((v.ni : Nat) : Int), .int ((v.nk : Nat) : Int)])) := same_upd hp
    refine pairs_W nd'.2 fun g H' s2 hg => ?_
    have ee : ∀ u ∈ l, (if u = v then p else g u) = g u := fun u hu => if_neg (fun (c : u = v) => nd'.1 (c ▸ hu))
    have z := q (fun u => if u = v then p else g u) H' (s1.trans s2) fun u hu => ?_
    · have e : ((v :: l).map fun u => (V.str u.str, V.ref (if u = v then p else g u))) = (V.str v.str, V.ref p) :: l.map fun u => (V.str u.str, V.ref (g u)) := by
        rw [List.map_cons, if_pos rfl]
        congr 1
        exact List.map_congr_left fun u hu => by rw [ee u hu]
      have z : Q ((v :: l).map fun u => (V.str u.str, V.ref (if u = v then p else g u))) H' := z
      rw [e] at z
      exact z
    · show H' (if u = v then p else g u) = _
      rcases List.mem_cons.mp hu with rfl | hu
      · rw [if_pos rfl]
        exact s2 _ _ upd_same
      · rw [ee u hu]
        exact hg u hu
def kwL (g : W → Addr) (l : List W) : List (Key × V) := l.map fun v => (Sum.inr v.str, V.ref (g v))
theorem kwL_keys (g : W → Addr) (l : List W) : (kwL g l).map (·.1) = l.map fun v => (Sum.inr v.str : Key) := by
  unfold kwL
  rw [List.map_map]
  rfl
theorem kwL_pairs (g : W → Addr) (l : List W) : (l.map fun v => (V.str v.str, V.ref (g v))) = (kwL g l).map fun kv => (kV kv.1, kv.2) := by
  unfold kwL
  rw [List.map_map]
  rfl
theorem kwL_merge {f g : W → Addr} {l m : List W} (nd : (l ++ m).Nodup) : mergeK (kwL f l) (kwL g m) = kwL (fun v => if v ∈ l then f v else g v) (l ++ m) := by
  have inj : Function.Injective fun v : W => (Sum.inr v.str : Key) := fun u v e => W.str_inj (Sum.inr.inj e)
  rw [mergeK_new]
  · unfold kwL
    rw [List.map_append]
    congr 1
    · exact List.map_congr_left fun v hv => by
        show _ = (Sum.inr v.str, V.ref (if v ∈ l then f v else g v))
        rw [if_pos hv]
    · exact List.map_congr_left fun v hv => by
        show _ = (Sum.inr v.str, V.ref (if v ∈ l then f v else g v))
        rw [if_neg (fun c => (List.nodup_append.mp nd).2.2 _ c _ hv rfl)]
  · rw [List.map_append, kwL_keys, kwL_keys, ← List.map_append]
    exact List.Pairwise.map _ (fun a b hab c => hab (inj c)) nd
theorem kwL_val (g : W → Addr) (x : Str) : valV (kwL g W.all) (Sum.inr x) = (W.of x).map fun v => V.ref (g v) := by
  have e : kwL g W.all = kk (W.all.map fun v => (v.str, V.ref (g v))) := by
    unfold kwL kk
    rw [List.map_map]
    rfl
  rw [e, kk_val]
  unfold W.of
  rw [List.find?_map]
  have ec : ((fun p : Str × V => decide (p.1 = x)) ∘ fun v : W => (v.str, V.ref (g v))) = fun w => decide (w.str = x) := rfl
  rw [ec]
  cases W.all.find? fun w => decide (w.str = x) <;> rfl
def spPW (K : PySem.W.Frag) : Sp := fun vs H Q _ => vs = [] ∧ ∀ (g : W → Addr) (d : Addr) H', Same H H' → H' d = some (.dK (kwL g W.all)) → (∀ v : W, SqT K H' (g v) [.int ((v.ni : Nat) : Int), .int ((v.nk : Nat) : Int)]) → Q (.ref d) H'
theorem sc53 : FnScope ["kinds"] [] (defScope (top 53)) := ⟨rfl, rfl, rfl, by decide +kernel, rfl, by decide +kernel, by decide +kernel⟩
theorem cl53 (T : Tx K mg w a) : Cl P w K mg base 1 "_law_paper_words" (spPW K) := by
  obtain ⟨f, fd, F, hm⟩ := T.d53.ex
  refine ⟨f, fd, [], lift0 (F.ok sc53 (fun vs H Q E h => ?_) (fun cdv A outer s H vs Q E hr h => ?_)), hm, F.kp, F.binds fun _ _ _ _ _ _ us hl => match us, hl with | [], _ => rfl⟩
  · obtain ⟨rfl, _⟩ := h
    rfl
  · obtain ⟨rfl, q⟩ := h
    refine ⟨_, (pss_cons (ps_set (i := 0) sc53.nd rfl (Or.inl rfl) (pe_disp (pps_cons pe_str (pe_tup (pa_cons pe_int (pa_cons pe_int pa_nil))) (pps_cons pe_str (pe_tup (pa_cons pe_int (pa_cons pe_int pa_nil))) (pps_cons pe_str (pe_tup (pa_cons pe_int (pa_cons pe_int pa_nil))) (pps_cons pe_str (pe_tup (pa_cons pe_int (pa_cons pe_int pa_nil))) (pps_cons pe_str (pe_tup (pa_cons pe_int (pa_cons pe_int pa_nil))) pps_nil))))) (by rfl) (by rfl) (fun z => by cases z) (by decide)))
      (pss_cons (ps_expr (pe_bm PySem.F.plainAttrs_dict PySem.F.slot_dict_update PySem.F.type_dict_update mt_update (pv 0) (pa_cons (pe_disp (pps_cons pe_str (pe_tup (pa_cons pe_int (pa_cons pe_int pa_nil))) (pps_cons pe_str (pe_tup (pa_cons pe_int (pa_cons pe_int pa_nil))) (pps_cons pe_str (pe_tup (pa_cons pe_int (pa_cons pe_int pa_nil))) (pps_cons pe_str (pe_tup (pa_cons pe_int (pa_cons pe_int pa_nil))) pps_nil)))) (by rfl) (by rfl) (fun z => by cases z) (by decide)) pa_nil)))
      (pss_cons (ps_expr (pe_bm PySem.F.plainAttrs_dict PySem.F.slot_dict_update PySem.F.type_dict_update mt_update (pv 0) (pa_cons (pe_disp (pps_cons pe_str (pe_tup (pa_cons pe_int (pa_cons pe_int pa_nil))) (pps_cons pe_str (pe_tup (pa_cons pe_int (pa_cons pe_int pa_nil))) (pps_cons pe_str (pe_tup (pa_cons pe_int (pa_cons pe_int pa_nil))) pps_nil))) (by rfl) (by rfl) (fun z => by cases z) (by decide)) pa_nil)))
      (pss_one (ps_ret (pv 0)))))), ?_⟩
    intro d hd
    have s1 : Same H (upd H d (.dK [])) := same_upd hd
    refine pairs_W (l := [.cash, .at_, .above, .below, .lowest]) (by decide) fun g1 H1 t1 e1 => ?_
    refine ⟨t1 _ _ upd_same, kwL g1 [.cash, .at_, .above, .below, .lowest], kwL_pairs _ _, (by show 5 ≤ 15; decide), ?_⟩
    have m1 : mergeK [] (kwL g1 [.cash, .at_, .above, .below, .lowest]) = kwL g1 [.cash, .at_, .above, .below, .lowest] := mergeK_new _ [] (show ([Sum.inr "cash", Sum.inr "at", Sum.inr "above", Sum.inr "below", Sum.inr "lowest"] : List Key).Nodup by decide +kernel)
    rw [m1]
    have dH : H d = none := hd
    have t2 : Same H (upd H1 d (.dK (kwL g1 [.cash, .at_, .above, .below, .lowest]))) := fun b u e => by
      rw [upd_ne (ne_of_none e dH)]
      exact t1 _ _ (s1 _ _ e)
    have e1' : ∀ v ∈ ([.cash, .at_, .above, .below, .lowest] : List W), SqT K (upd H1 d (.dK (kwL g1 [.cash, .at_, .above, .below, .lowest]))) (g1 v) [.int ((v.ni : Nat) : Int), .int ((v.nk : Nat) : Int)] := fun v hv =>
      (Grw.lst (o := .dK []) (t1 _ _ upd_same) rfl).sqT (SqT.of (e1 v hv))
    have hd1 : upd H1 d (.dK (kwL g1 [.cash, .at_, .above, .below, .lowest])) d = some (.dK (kwL g1 [.cash, .at_, .above, .below, .lowest])) := upd_same
    generalize upd H1 d (.dK (kwL g1 [.cash, .at_, .above, .below, .lowest])) = H2 at *
    refine ⟨_, rfl, .inr (.inr (.inl ⟨rfl, .inl ⟨_, hd1⟩⟩)), fun d2 hd2 => ?_⟩
    have s3 : Same H2 (upd H2 d2 (.dK [])) := same_upd hd2
    refine pairs_W (l := [.highest, .both, .short, .times]) (by decide) fun g2 H3 t3 e3 => ?_
    refine ⟨t3 _ _ upd_same, kwL g2 [.highest, .both, .short, .times], kwL_pairs _ _, (by show 4 ≤ 15; decide), ?_⟩
    have m2 : mergeK [] (kwL g2 [.highest, .both, .short, .times]) = kwL g2 [.highest, .both, .short, .times] := mergeK_new _ [] (show ([Sum.inr "highest", Sum.inr "both", Sum.inr "short", Sum.inr "times"] : List Key).Nodup by decide +kernel)
    rw [m2]
    have dd2 : d ≠ d2 := ne_of_none hd1 hd2
    have s4 : Same H2 (upd H3 d2 (.dK (kwL g2 [.highest, .both, .short, .times]))) := fun b u e => by
      rw [upd_ne (ne_of_none e hd2)]
      exact t3 _ _ (s3 _ _ e)
    have e3' : ∀ v ∈ ([.highest, .both, .short, .times] : List W), SqT K (upd H3 d2 (.dK (kwL g2 [.highest, .both, .short, .times]))) (g2 v) [.int ((v.ni : Nat) : Int), .int ((v.nk : Nat) : Int)] := fun v hv =>
      (Grw.lst (o := .dK []) (t3 _ _ upd_same) rfl).sqT (SqT.of (e3 v hv))
    have hd3 : upd H3 d2 (.dK (kwL g2 [.highest, .both, .short, .times])) d2 = some (.dK (kwL g2 [.highest, .both, .short, .times])) := upd_same
    generalize upd H3 d2 (.dK (kwL g2 [.highest, .both, .short, .times])) = H4 at *
    refine ⟨d, d2, _, _, rfl, rfl, dd2, s4 _ _ hd1, hd3, (by show 9 ≤ 1000; decide), ?_⟩
    rw [kwL_merge (by decide)]
    have t5 : Same H (upd H4 d (.dK (kwL (fun v => if v ∈ ([.cash, .at_, .above, .below, .lowest] : List W) then g1 v else g2 v) ([.cash, .at_, .above, .below, .lowest] ++ [.highest, .both, .short, .times])))) := fun b u e => by
      rw [upd_ne (ne_of_none e dH)]
      exact s4 _ _ (t2 _ _ e)
    have g5 : Grw H4 (upd H4 d (.dK (kwL (fun v => if v ∈ ([.cash, .at_, .above, .below, .lowest] : List W) then g1 v else g2 v) ([.cash, .at_, .above, .below, .lowest] ++ [.highest, .both, .short, .times])))) := Grw.lst (s4 _ _ hd1) rfl
    have e5 : ∀ v ∈ ([.cash, .at_, .above, .below, .lowest] ++ [.highest, .both, .short, .times] : List W), SqT K (upd H4 d (.dK (kwL (fun v => if v ∈ ([.cash, .at_, .above, .below, .lowest] : List W) then g1 v else g2 v) ([.cash, .at_, .above, .below, .lowest] ++ [.highest, .both, .short, .times])))) ((fun v => if v ∈ ([.cash, .at_, .above, .below, .lowest] : List W) then g1 v else g2 v) v) [.int ((v.ni : Nat) : Int), .int ((v.nk : Nat) : Int)] := fun v hv => by
      show SqT K _ (if v ∈ ([.cash, .at_, .above, .below, .lowest] : List W) then g1 v else g2 v) _
      by_cases c : v ∈ ([.cash, .at_, .above, .below, .lowest] : List W)
      · rw [if_pos c]
        exact g5.sqT (same_sqT s4 (e1' v c))
      · rw [if_neg c]
        rcases List.mem_append.mp hv with c' | c'
        · exact absurd c' c
        · exact g5.sqT (e3' v c')
    have hd5 : upd H4 d (.dK (kwL (fun v => if v ∈ ([.cash, .at_, .above, .below, .lowest] : List W) then g1 v else g2 v) ([.cash, .at_, .above, .below, .lowest] ++ [.highest, .both, .short, .times]))) d = some _ := upd_same
    generalize upd H4 d (.dK (kwL (fun v => if v ∈ ([.cash, .at_, .above, .below, .lowest] : List W) then g1 v else g2 v) ([.cash, .at_, .above, .below, .lowest] ++ [.highest, .both, .short, .times]))) = H5 at *
    generalize (fun v => if v ∈ ([.cash, .at_, .above, .below, .lowest] : List W) then g1 v else g2 v) = g4 at *
    refine ⟨_, rfl, .inr (.inr (.inl ⟨rfl, .inl ⟨_, hd5⟩⟩)), fun d3 hd6 => ?_⟩
    have s6 : Same H5 (upd H5 d3 (.dK [])) := same_upd hd6
    refine pairs_W (l := [.lesser, .greater, .ifw]) (by decide) fun g3 H6 t6 e6 => ?_
    refine ⟨t6 _ _ upd_same, kwL g3 [.lesser, .greater, .ifw], kwL_pairs _ _, (by show 3 ≤ 15; decide), ?_⟩
    have m3 : mergeK [] (kwL g3 [.lesser, .greater, .ifw]) = kwL g3 [.lesser, .greater, .ifw] := mergeK_new _ [] (show ([Sum.inr "lesser", Sum.inr "greater", Sum.inr "if"] : List Key).Nodup by decide +kernel)
    rw [m3]
    have dd3 : d ≠ d3 := ne_of_none hd5 hd6
    have s7 : Same H5 (upd H6 d3 (.dK (kwL g3 [.lesser, .greater, .ifw]))) := fun b u e => by
      rw [upd_ne (ne_of_none e hd6)]
      exact t6 _ _ (s6 _ _ e)
    have e6' : ∀ v ∈ ([.lesser, .greater, .ifw] : List W), SqT K (upd H6 d3 (.dK (kwL g3 [.lesser, .greater, .ifw]))) (g3 v) [.int ((v.ni : Nat) : Int), .int ((v.nk : Nat) : Int)] := fun v hv =>
      (Grw.lst (o := .dK []) (t6 _ _ upd_same) rfl).sqT (SqT.of (e6 v hv))
    have hd7 : upd H6 d3 (.dK (kwL g3 [.lesser, .greater, .ifw])) d3 = some (.dK (kwL g3 [.lesser, .greater, .ifw])) := upd_same
    generalize upd H6 d3 (.dK (kwL g3 [.lesser, .greater, .ifw])) = H7 at *
    refine ⟨d, d3, _, _, rfl, rfl, dd3, s7 _ _ hd5, hd7, (by show 12 ≤ 1000; decide), ?_⟩
    rw [kwL_merge (by decide)]
    have g8 := Grw.lst (o' := .dK (kwL (fun v => if v ∈ ([.cash, .at_, .above, .below, .lowest] ++ [.highest, .both, .short, .times] : List W) then g4 v else g3 v) (([.cash, .at_, .above, .below, .lowest] ++ [.highest, .both, .short, .times]) ++ [.lesser, .greater, .ifw]))) (s7 _ _ hd5) rfl
    refine ⟨_, rfl, q (fun v => if v ∈ ([.cash, .at_, .above, .below, .lowest] ++ [.highest, .both, .short, .times] : List W) then g4 v else g3 v) d _ (fun b u e => ?_) upd_same fun v => ?_⟩
    · rw [upd_ne (ne_of_none e dH)]
      exact s7 _ _ (t5 _ _ e)
    · show SqT K _ (if v ∈ ([.cash, .at_, .above, .below, .lowest] ++ [.highest, .both, .short, .times] : List W) then g4 v else g3 v) _
      by_cases c : v ∈ ([.cash, .at_, .above, .below, .lowest] ++ [.highest, .both, .short, .times] : List W)
      · rw [if_pos c]
        exact g8.sqT (same_sqT s7 (e5 v c))
      · rw [if_neg c]
        have c' : v ∈ ([.lesser, .greater, .ifw] : List W) := by
          revert c
          cases v <;> decide
        exact g8.sqT (e6' v c')
/-! ### the law's tuple -/
theorem cat_any {H : Hp} {x y : Addr} {xs ys : List V} {Q : VK} (hx : SqT K H x xs) (hy : SqT K H y ys) (nx : xs ≠ []) (hl : xs.length + ys.length ≤ 1000) (q : ∀ p H', Same H H' → SqT K H' p (xs ++ ys) → Q (.ref p) H') : rCatA K (.ref x) (.ref y) H Q :=
  ⟨x, y, xs, ys, rfl, rfl, hx, hy, by have : sizeLine = 16777216 := rfl; omega, fun e => absurd e nx, fun _ e => q x H (Same.refl H) (by rw [e, List.append_nil]; exact hx), fun _ _ p hp => q p _ (same_upd hp) (SqT.of upd_same)⟩
def spJoined (K : PySem.W.Frag) : Sp := fun vs H Q _ => ∃ (v : W) (p q : Addr) (is : List Int) (ks : List V), vs = [.str v.str, .ref p, .ref q] ∧ SqL K H p (is.map V.int) ∧ SqL K H q ks ∧ is.length ≤ 2 ∧ ks.length ≤ 2 ∧
  ∀ r H', Same H H' → SqT K H' r (vlay v is ks) → Q (.ref r) H'
theorem sc54 : FnScope ["word", "some", "kids"] ["word", "some", "kids"] (defScope (top 54)) := ⟨rfl, rfl, rfl, by decide +kernel, rfl, by decide +kernel, by decide +kernel⟩
theorem cl54 (T : Tx K mg w a) : Cl P w K mg base 1 "_law_joined" (spJoined K) := by
  obtain ⟨f, fd, F, hm⟩ := T.d54.ex
  refine ⟨f, fd, ["word", "some", "kids"], lift0 (F.ok sc54 (fun vs H Q E h => ?_) (fun cdv A outer s H vs Q E hr h => ?_)), hm, F.kp, F.binds fun _ _ _ _ _ _ us hl => match us, hl with | [_, _, _], _ => rfl⟩
  · obtain ⟨v, p, q, is, ks, rfl, _⟩ := h
    rfl
  · obtain ⟨v, p, q, is, ks, rfl, hp, hq, li, lk, k⟩ := h
    refine ⟨_, (pss_cons (ps_if (pt_cmpR op_eq (pv 0) pe_str (nomark _)) (pss_one (ps_ret (pe_op op_catA (pe_op op_catA (pe_tup (pa_cons (pv 0) pa_nil)) (pe_callTy call_tuple_of (by rfl) T.nTuple boot_tuple (pa_cons (pv 1) pa_nil))) (pe_callTy call_tuple_of (by rfl) T.nTuple boot_tuple (pa_cons (pv 2) pa_nil))))) pss_nil)
      (pss_one (ps_ret (pe_op op_catA (pe_op op_catA (pe_tup (pa_cons (pv 0) pa_nil)) (pe_callTy call_tuple_of (by rfl) T.nTuple boot_tuple (pa_cons (pv 2) pa_nil))) (pe_callTy call_tuple_of (by rfl) T.nTuple boot_tuple (pa_cons (pv 1) pa_nil)))))), ?_⟩
    refine ⟨_, rfl, rfl, _, rfl, ?_⟩
    rw [show decide (V.str v.str = V.str "if") = decide (v = .ifw) from wEq v .ifw]
    have go : ∀ (x y : Addr) (xs ys : List V), SqL K H x xs → SqL K H y ys → xs.length ≤ 2 → ys.length ≤ 2 → (∀ r H', Same H H' → SqT K H' r (.str v.str :: (xs ++ ys)) → Q (.ref r) H') → ∀ i j : Nat, ([some (.str v.str), some (.ref p), some (.ref q)] : L2.St)[i]? = some (some (.ref x)) → ([some (.str v.str), some (.ref p), some (.ref q)] : L2.St)[j]? = some (some (.ref y)) →
        tRet (tOp (rCatA K) (tOp (rCatA K) (tTup (tCons (tVar 0) tNil)) (tCB (fun xs H Q => ∃ p ys, xs = [.ref p] ∧ ((SqL K H p ys ∧ ∀ l, H l = none → Q (.ref l) (upd H l (.tup ys))) ∨ (SqT K H p ys ∧ Q (.ref p) H))) (tCons (tVar i) tNil))) (tCB (fun xs H Q => ∃ p ys, xs = [.ref p] ∧ ((SqL K H p ys ∧ ∀ l, H l = none → Q (.ref l) (upd H l (.tup ys))) ∨ (SqT K H p ys ∧ Q (.ref p) H))) (tCons (tVar j) tNil)))
          { nx := fun _ H' => Q V.non H', rt := Q } [some (.str v.str), some (.ref p), some (.ref q)] H := fun x y xs ys hx hy lx ly k i j ei ej => by
      refine ⟨_, rfl, (by show 1 ≤ sizeLine; decide), fun t ht => ⟨_, ei, x, xs, rfl, .inl ⟨(same_upd ht).seq hx, fun l hl => ?_⟩⟩⟩
      have s1 := same_upd (o := HO.tup [V.str v.str]) ht
      have s2 := same_upd (o := HO.tup xs) hl
      refine cat_any (same_sqT s2 (SqT.of upd_same)) (SqT.of upd_same) (by simp) (by simp only [List.length_cons, List.length_nil]; omega) fun c H3 s3 hc => ?_
      refine ⟨_, ej, y, ys, rfl, .inl ⟨(s1.trans (s2.trans s3)).seq hy, fun m hm => ?_⟩⟩
      have s4 := same_upd (o := HO.tup ys) hm
      refine cat_any (same_sqT s4 hc) (SqT.of upd_same) (by simp) (by simp only [List.length_append, List.length_cons, List.length_nil]; omega) fun r H5 s5 hr' => ?_
      exact k r H5 (s1.trans (s2.trans (s3.trans (s4.trans s5)))) hr'
    refine bl_cases (fun c => ?_) (fun c => ?_)
    · have e : v = .ifw := of_decide_eq_true c
      refine go p q _ _ hp hq (by rw [List.length_map]; exact li) lk (fun r H' s' hr' => k r H' s' ?_) 1 2 rfl rfl
      unfold vlay lay
      rw [if_pos e]
      exact hr'
    · have e : ¬ v = .ifw := of_decide_eq_false c
      refine go q p _ _ hq hp lk (by rw [List.length_map]; exact li) (fun r H' s' hr' => k r H' s' ?_) 2 1 rfl rfl
      unfold vlay lay
      rw [if_neg e]
      exact hr'
end
end K31
end
/-! part K31M -/
section
set_option Elab.async false
set_option linter.all false
set_option maxRecDepth 100000
set_option maxHeartbeats 4000000
/-! K31M: the law's papers: parts, text, drawn papers. -/
namespace K31
open PySem PySem.Spec PyProof.Rows L2 TL
def isI : V → Bool
  | .int _ => true
  | _ => false
def isR : V → Bool
  | .ref _ => true
  | _ => false
theorem filt_ints (is : List Int) : (is.map V.int).filter isI = is.map V.int ∧ (is.map V.int).filter isR = [] := by
  induction is with
  | nil => exact ⟨rfl, rfl⟩
  | cons i is ih =>
    obtain ⟨h1, h2⟩ := ih
    refine ⟨?_, ?_⟩
    · rw [List.map_cons, List.filter_cons_of_pos rfl, h1]
    · rw [List.map_cons, List.filter_cons_of_neg (by intro h; cases h), h2]
theorem filt_refs {ks : List V} (h : ∀ k ∈ ks, isR k = true) : ks.filter isR = ks ∧ ks.filter isI = [] := by
  refine ⟨List.filter_eq_self.mpr h, ?_⟩
  rw [List.filter_eq_nil_iff]
  intro k hk
  have := h k hk
  cases k <;> first | (intro z; cases z; done) | cases this
theorem lay_filt (v : W) (is : List Int) {ks : List V} (h : ∀ k ∈ ks, isR k = true) : (lay v (is.map V.int) ks).filter isI = is.map V.int ∧ (lay v (is.map V.int) ks).filter isR = ks := by
  obtain ⟨a1, a2⟩ := filt_ints is
  obtain ⟨b1, b2⟩ := filt_refs h
  unfold lay
  split <;> simp [List.filter_append, a1, a2, b1, b2]
theorem cut1_vlay (v : W) (is : List Int) (ks : List V) : cutV (vlay v is ks) (some 1) none = lay v (is.map V.int) ks := by
  unfold cutV
  have e1 : HT.sIx (vlay v is ks).length 0 (some 1) = 1 := by
    have z := HT.sIx_nat (vlay v is ks).length 0 1
    rw [show ((1 : Nat) : Int) = 1 from rfl] at z
    rw [z, vlay_length]
    omega
  rw [e1, HT.sIx_none]
  show ((lay v (is.map V.int) ks)).take _ = _
  rw [List.take_of_length_le]
  show _ ≤ (lay v (is.map V.int) ks).length + 1 - 1
  omega
theorem take_filt {α : Type} (p : α → Bool) (xs : List α) {i : Nat} {x : α} (h : xs[i]? = some x) : (xs.take (i + 1)).filter p = (xs.take i).filter p ++ (if p x = true then [x] else []) := by
  rw [List.take_succ, h, List.filter_append]
  congr 1
  cases e : p x with
  | true => simp [e]
  | false => simp [e]
section
variable {P : Program} {w : World} {K : PySem.W.Frag} {mg : Str → Option Value} {base : Heap} {a : Ad}
/-- integers, and tuples by their addresses -/
def Parts (K : PySem.W.Frag) (H : Hp) (ks : List V) : Prop := ∀ k ∈ ks, ∃ q ys, k = .ref q ∧ SqT K H q ys
theorem Parts.isR {H : Hp} {ks : List V} (h : Parts K H ks) : ∀ k ∈ ks, isR k = true := fun k hk => by
  obtain ⟨q, ys, rfl, _⟩ := h k hk
  rfl
theorem Parts.same {H H' : Hp} {ks : List V} (h : Parts K H ks) (s : Same H H') : Parts K H' ks := fun k hk => by
  obtain ⟨q, ys, e, hq⟩ := h k hk
  exact ⟨q, ys, e, same_sqT s hq⟩
theorem Parts.of {H : Hp} {ks : List V} {l : List Tm} (h : DpAll K H ks (l.map Tm.data)) : Parts K H ks := by
  induction l generalizing ks with
  | nil =>
    cases h
    intro k hk
    cases hk
  | cons t l ih =>
    cases h with
    | cons h1 h2 =>
      intro k hk
      rcases List.mem_cons.mp hk with rfl | hk
      · obtain ⟨q, ys, e, hq, _⟩ := TV.inv h1
        exact ⟨q, _, e, hq⟩
      · exact ih h2 k hk
theorem lay_mem {v : W} {is : List Int} {ks : List V} {x : V} (h : x ∈ lay v (is.map V.int) ks) : (∃ i, x = .int i) ∨ x ∈ ks := by
  unfold lay at h
  split at h
  · rcases List.mem_append.mp h with h | h
    · obtain ⟨i, _, e⟩ := List.mem_map.mp h
      exact .inl ⟨i, e.symm⟩
    · exact .inr h
  · rcases List.mem_append.mp h with h | h
    · exact .inr h
    · obtain ⟨i, _, e⟩ := List.mem_map.mp h
      exact .inl ⟨i, e.symm⟩
def spIntegers (K : PySem.W.Frag) : Sp := fun vs H Q _ => ∃ (p : Addr) (v : W) (is : List Int) (ks : List V), vs = [.ref p] ∧ SqT K H p (vlay v is ks) ∧ is.length ≤ 2 ∧ ks.length ≤ 2 ∧ Parts K H ks ∧ ∀ l H', Same H H' → H' l = some (.lst (is.map V.int)) → Q (.ref l) H'
theorem sc55 : FnScope ["thing", "one"] ["thing"] (defScope (top 55)) := ⟨rfl, rfl, rfl, by decide +kernel, rfl, by decide +kernel, by decide +kernel⟩
theorem cl55 (T : Tx K mg w a) : Cl P w K mg base 1 "_law_integers" (spIntegers K) := by
  obtain ⟨f, fd, F, hm⟩ := T.d55.ex
  refine ⟨f, fd, ["thing"], lift0 (F.ok sc55 (fun vs H Q E h => ?_) (fun cdv A outer s H vs Q E hr h => ?_)), hm, F.kp, F.binds fun _ _ _ _ _ _ us hl => match us, hl with | [_], _ => rfl⟩
  · obtain ⟨p, v, is, ks, rfl, _⟩ := h
    rfl
  · obtain ⟨p, v, is, ks, rfl, hp, li, lk, hk, q⟩ := h
    refine ⟨_, (pss_one (ps_ret (pe_lc (own := [("one", 1)]) (g := gName 1) rfl sc55.nd (pi_tup (pe_slice sl_tup (pv 0) (po_some pe_int) po_none)) (blkOk_by (own := [("one", 1)]) (N := ["thing", "one"]) (sc := defScope (top 55)) (by decide +kernel)) (fun _ _ _ _ _ => (pg_name (i := 1) sc55.nd rfl (Or.inl rfl))) (fun _ _ _ _ _ => (pts_one (pt_val (pe_callB (call_isi : CallR _ (.builtin "isinstance") (rIsi K)) (by rfl) T.nIsi boot_isinstance (pa_cons (pv 1) (pa_cons (pe_bltn (v := .ty "int") (by rfl) T.nInt boot_int rfl) pa_nil)))))) (fun _ _ _ _ _ => (pv 1))))), ?_⟩
    refine ⟨_, rfl, 1, rfl, p, _, rfl, hp, ?_, fun c hc => ?_⟩
    · rintro ⟨h1, _⟩
      have z := HT.sIx_nat (vlay v is ks).length 0 1
      rw [show ((1 : Nat) : Int) = 1 from rfl] at z
      rw [z, vlay_length] at h1
      omega
    rw [cut1_vlay]
    have s1 : Same H (upd H c (.tup (lay v (is.map V.int) ks))) := same_upd hc
    refine ⟨c, rfl, ⟨_, SqT.of upd_same⟩, fun D hD => ?_⟩
    have hc1 : upd H c (.tup (lay v (is.map V.int) ks)) c = some (.tup (lay v (is.map V.int) ks)) := upd_same
    generalize upd H c (.tup (lay v (is.map V.int) ks)) = H1 at *
    refine lc_tup (xs := lay v (is.map V.int) ks) (fun i H' => Same H1 H' ∧ H' D = some (.lst (((lay v (is.map V.int) ks).take i).filter isI))) ⟨same_upd hD, upd_same⟩ (fun i H' _ Z => SqT.of (Z.1 _ _ hc1)) (fun i x H' hx Z => ?_) (fun H' Z => ?_)
    · obtain ⟨s2, hD2⟩ := Z
      have ll : (lay v (is.map V.int) ks).length ≤ 4 := by rw [lay_length, List.length_map]; omega
      have li : i < (lay v (is.map V.int) ks).length := (List.getElem?_eq_some_iff.mp hx).1
      rcases lay_mem (List.mem_of_getElem? hx) with ⟨z, rfl⟩ | hxk
      · refine ⟨rfl, _, rfl, _, _, _, _, true, rfl, .ty "int", .base (.int z), kit_ty (by decide +kernel), true, rfl, iteT ⟨_, rfl, _, hD2, ?_, fun b u e => ?_, ?_⟩⟩
        · have z := List.length_filter_le isI ((lay v (is.map V.int) ks).take i)
          rw [List.length_take] at z
          have : sizeLine = 16777216 := rfl
          omega
        · rw [upd_ne (ne_of_none e hD)]
          exact s2 _ _ e
        · rw [upd_same, take_filt isI _ hx]
          rfl
      · obtain ⟨q2, ys, rfl, hq2⟩ := (hk.same (s1.trans s2)) x hxk
        refine ⟨rfl, _, rfl, _, _, _, _, false, rfl, .ty "int", tyx_T hq2, kit_ty (by decide +kernel), false, rfl, iteF ⟨s2, ?_⟩⟩
        rw [take_filt isI _ hx]
        show H' D = some (.lst (_ ++ []))
        rw [List.append_nil]
        exact hD2
    · obtain ⟨s2, hD2⟩ := Z
      rw [List.take_length, (lay_filt v is hk.isR).1] at hD2
      exact q D H' (s1.trans s2) hD2
def spKids (K : PySem.W.Frag) : Sp := fun vs H Q _ => ∃ (p : Addr) (v : W) (is : List Int) (ks : List V), vs = [.ref p] ∧ SqT K H p (vlay v is ks) ∧ is.length ≤ 2 ∧ ks.length ≤ 2 ∧ Parts K H ks ∧ ∀ l H', Same H H' → H' l = some (.lst ks) → Q (.ref l) H'
theorem sc56 : FnScope ["thing", "one"] ["thing"] (defScope (top 56)) := ⟨rfl, rfl, rfl, by decide +kernel, rfl, by decide +kernel, by decide +kernel⟩
theorem cl56 (T : Tx K mg w a) : Cl P w K mg base 1 "_law_kids" (spKids K) := by
  obtain ⟨f, fd, F, hm⟩ := T.d56.ex
  refine ⟨f, fd, ["thing"], lift0 (F.ok sc56 (fun vs H Q E h => ?_) (fun cdv A outer s H vs Q E hr h => ?_)), hm, F.kp, F.binds fun _ _ _ _ _ _ us hl => match us, hl with | [_], _ => rfl⟩
  · obtain ⟨p, v, is, ks, rfl, _⟩ := h
    rfl
  · obtain ⟨p, v, is, ks, rfl, hp, li, lk, hk, q⟩ := h
    refine ⟨_, (pss_one (ps_ret (pe_lc (own := [("one", 1)]) (g := gName 1) rfl sc56.nd (pi_tup (pe_slice sl_tup (pv 0) (po_some pe_int) po_none)) (blkOk_by (own := [("one", 1)]) (N := ["thing", "one"]) (sc := defScope (top 56)) (by decide +kernel)) (fun _ _ _ _ _ => (pg_name (i := 1) sc56.nd rfl (Or.inl rfl))) (fun _ _ _ _ _ => (pts_one (pt_val (pe_callB (call_isi : CallR _ (.builtin "isinstance") (rIsi K)) (by rfl) T.nIsi boot_isinstance (pa_cons (pv 1) (pa_cons (pe_bltn (v := .ty "tuple") (by rfl) T.nTuple boot_tuple rfl) pa_nil)))))) (fun _ _ _ _ _ => (pv 1))))), ?_⟩
    refine ⟨_, rfl, 1, rfl, p, _, rfl, hp, ?_, fun c hc => ?_⟩
    · rintro ⟨h1, _⟩
      have z := HT.sIx_nat (vlay v is ks).length 0 1
      rw [show ((1 : Nat) : Int) = 1 from rfl] at z
      rw [z, vlay_length] at h1
      omega
    rw [cut1_vlay]
    have s1 : Same H (upd H c (.tup (lay v (is.map V.int) ks))) := same_upd hc
    refine ⟨c, rfl, ⟨_, SqT.of upd_same⟩, fun D hD => ?_⟩
    have hc1 : upd H c (.tup (lay v (is.map V.int) ks)) c = some (.tup (lay v (is.map V.int) ks)) := upd_same
    generalize upd H c (.tup (lay v (is.map V.int) ks)) = H1 at *
    refine lc_tup (xs := lay v (is.map V.int) ks) (fun i H' => Same H1 H' ∧ H' D = some (.lst (((lay v (is.map V.int) ks).take i).filter isR))) ⟨same_upd hD, upd_same⟩ (fun i H' _ Z => SqT.of (Z.1 _ _ hc1)) (fun i x H' hx Z => ?_) (fun H' Z => ?_)
    · obtain ⟨s2, hD2⟩ := Z
      have ll : (lay v (is.map V.int) ks).length ≤ 4 := by rw [lay_length, List.length_map]; omega
      have li : i < (lay v (is.map V.int) ks).length := (List.getElem?_eq_some_iff.mp hx).1
      rcases lay_mem (List.mem_of_getElem? hx) with ⟨z, rfl⟩ | hxk
      · refine ⟨rfl, _, rfl, _, _, _, _, false, rfl, .ty "tuple", .base (.int z), kit_ty (by decide +kernel), false, rfl, iteF ⟨s2, ?_⟩⟩
        rw [take_filt isR _ hx]
        show H' D = some (.lst (_ ++ []))
        rw [List.append_nil]
        exact hD2
      · obtain ⟨q2, ys, rfl, hq2⟩ := (hk.same (s1.trans s2)) x hxk
        refine ⟨rfl, _, rfl, _, _, _, _, true, rfl, .ty "tuple", tyx_T hq2, kit_ty (by decide +kernel), true, rfl, iteT ⟨_, rfl, _, hD2, ?_, fun b u e => ?_, ?_⟩⟩
        · have z := List.length_filter_le isR ((lay v (is.map V.int) ks).take i)
          rw [List.length_take] at z
          have : sizeLine = 16777216 := rfl
          omega
        · rw [upd_ne (ne_of_none e hD)]
          exact s2 _ _ e
        · rw [upd_same, take_filt isR _ hx]
          rfl
    · obtain ⟨s2, hD2⟩ := Z
      rw [List.take_length, (lay_filt v is hk.isR).2] at hD2
      exact q D H' (s1.trans s2) hD2
end
/-! ### the text of a paper -/
theorem joinL_app {S : List Nat} : ∀ {xs ys : List (List Nat)}, xs ≠ [] → ys ≠ [] → joinL S (xs ++ ys) = joinL S xs ++ S ++ joinL S ys
  | [], _, h, _ => absurd rfl h
  | [x], [], _, h => absurd rfl h
  | [x], y :: ys, _, _ => by
    show x ++ (S ++ joinL S (y :: ys)) = x ++ S ++ joinL S (y :: ys)
    rw [List.append_assoc]
  | x :: z :: xs, ys, _, h => by
    show x ++ (S ++ joinL S ((z :: xs) ++ ys)) = x ++ (S ++ joinL S (z :: xs)) ++ S ++ joinL S ys
    rw [joinL_app (by simp) h]
    simp [List.append_assoc]
theorem joinL_flat {S : List Nat} : ∀ (own : List (List Nat)) (kids : List (List (List Nat))), own ≠ [] → (∀ k ∈ kids, k ≠ []) → joinL S (own ++ kids.map (joinL S)) = joinL S (own ++ kids.flatten)
  | own, [], _, _ => by simp
  | own, k :: kids, ho, hk => by
    have h1 := joinL_flat (S := S) (own ++ k) kids (by simp [ho]) fun q hq => hk q (List.mem_cons_of_mem _ hq)
    have hk0 := hk k List.mem_cons_self
    rw [List.map_cons, List.flatten_cons, ← List.append_assoc, ← h1]
    rw [show own ++ joinL S k :: kids.map (joinL S) = (own ++ [joinL S k]) ++ kids.map (joinL S) by simp]
    by_cases e : kids = []
    · subst e
      simp only [List.map_nil, List.append_nil]
      rw [joinL_app ho (by simp), joinL_app ho hk0]
      rfl
    · have e' : kids.map (joinL S) ≠ [] := by simpa using e
      rw [joinL_app (by simp) e', joinL_app (by simp [ho]) e', joinL_app ho (by simp), joinL_app ho hk0]
      rfl
theorem text_eq (t : Tm) : t.text = Txt.join " " ((t.w.str :: t.is.map istr) ++ t.kids.map Tm.text) := by
  refine tl_ext ?_
  unfold Tm.text
  rw [join_eq, tl_join, join_eq, tl_join, List.map_append, Tm.words_eq, List.map_append]
  have e : (t.kids.map fun k => Txt.join " " k.words).map tl = (t.kids.map fun k => k.words.map tl).map (joinL (tl " ")) := by
    rw [List.map_map, List.map_map]
    refine List.map_congr_left fun k _ => ?_
    show tl (Txt.join " " k.words) = joinL (tl " ") (k.words.map tl)
    rw [join_eq, tl_join]
  show _ = joinL (tl " ") (_ ++ (t.kids.map fun k => Txt.join " " k.words).map tl)
  rw [e, joinL_flat _ _ (by simp) (fun k hk => by
    obtain ⟨u, _, rfl⟩ := List.mem_map.mp hk
    simpa using u.words_ne)]
  congr 2
  induction t.kids with
  | nil => rfl
  | cons u l ih => simp [ih]
theorem joinL_len (S : List Nat) : ∀ xs : List (List Nat), (joinL S xs).length ≤ (xs.map List.length).sum + xs.length * S.length
  | [] => Nat.zero_le _
  | [x] => by
    show x.length ≤ _
    simp
  | x :: y :: r => by
    have := joinL_len S (y :: r)
    show (x ++ (S ++ joinL S (y :: r))).length ≤ _
    simp only [List.length_append, List.map_cons, List.sum_cons, List.length_cons, Nat.succ_mul] at this ⊢
    omega
theorem join_len (y : Str) (l : List Str) : (Txt.join y l).length ≤ (l.map (·.length)).sum + l.length * y.length := by
  have h := joinL_len (tl y) (l.map tl)
  rw [← tl_len, join_eq, tl_join]
  rw [List.length_map, tl_len, List.map_map] at h
  have e : (l.map (List.length ∘ tl)) = l.map (·.length) := List.map_congr_left fun x _ => tl_len x
  rw [e] at h
  exact h
theorem text_len {t : Tm} (h : t.Sh) (s : t.Small) : t.text.length ≤ 24 * t.nodes := by
  have h1 := join_len " " t.words
  have h2 := sum_short (Tm.words_short s)
  have h3 := Tm.words_len h
  have h4 : (Str.length " ") = 1 := blank_len
  rw [h4] at h1
  unfold Tm.text
  omega
theorem istr_small {i : Int} (h : i.natAbs ≤ 1000) : i.natAbs.log2 < 1920 := by
  have z : i.natAbs.log2 ≤ 1000 := Nat.le_trans (Nat.log2_le_self _) h
  omega
section
variable {P : Program} {w : World} {K : PySem.W.Frag} {mg : Str → Option Value} {base : Heap} {a : Ad}
def spLine (K : PySem.W.Frag) (n : Nat) : Sp := fun vs H Q _ => ∃ (v : V) (t : Tm), vs = [v] ∧ TV K H v t ∧ t.Sh ∧ t.Small ∧ t.depth ≤ n ∧ t.nodes ≤ 30 ∧ ∀ H', Same H H' → Q (.str t.text) H'
theorem sc57 : FnScope ["thing", "words", "one", "kid"] ["thing"] (defScope (top 57)) := ⟨rfl, rfl, rfl, by decide +kernel, rfl, by decide +kernel, by decide +kernel⟩
theorem cl57 (T : Tx K mg w a) : ∀ n, Cl P w K mg base (n + 2) "_law_line_of" (spLine K n) := by
  intro n
  induction n with
  | zero =>
    obtain ⟨f, fd, F, hm⟩ := T.d57.ex
    refine ⟨f, fd, ["thing"], lift0 (F.ok (k := 1) sc57 (fun vs H Q E h => ?_) (fun cdv A outer s H vs Q E hr h => ?_)), hm, F.kp, F.binds fun _ _ _ _ _ _ us hl => match us, hl with | [_], _ => rfl⟩
    · obtain ⟨v, t, rfl, _⟩ := h
      rfl
    · obtain ⟨v, t, _, _, _, _, h, _⟩ := h
      have := t.depth_pos
      omega
  | succ n ih =>
  obtain ⟨f, fd, F, hm⟩ := T.d57.ex
  refine ⟨f, fd, ["thing"], lift0 (F.ok (k := n + 2) sc57 (fun vs H Q E h => ?_) (fun cdv A outer s H vs Q E hr h => ?_)), hm, F.kp, F.binds fun _ _ _ _ _ _ us hl => match us, hl with | [_], _ => rfl⟩
  · obtain ⟨v, t, rfl, _⟩ := h
    rfl
  · obtain ⟨v, t, rfl, hT, hS, hM, hD, hN, q⟩ := h
    obtain ⟨p, ks, rfl, hp, hk⟩ := TV.inv hT
    obtain ⟨l1, l2⟩ := hS.lens
    have l3 : ks.length = t.w.nk := by rw [dpAll_len hk, List.length_map, l2]
    have n1 := t.w.ni_le
    have n2 := t.w.nk_le
    have hP := Parts.of hk
    refine ⟨_, (pss_cons (ps_set (i := 1) sc57.nd rfl (Or.inl rfl) (pe_op op_cat (pe_lst (pa_cons (pe_ix ix_tup (pv 0) pe_int (fun _ _ => rfl)) pa_nil)) (pe_lc (own := [("one", 2)]) (g := gName 2) rfl sc57.nd (pi_list (pe_cl (cl55 T) (hr.mono (by omega)) rfl passL (pa_cons (pv 0) pa_nil))) (blkOk_by (own := [("one", 2)]) (N := ["thing", "words", "one", "kid"]) (sc := defScope (top 57)) (by decide +kernel)) (fun _ _ _ _ _ => (pg_name (i := 2) sc57.nd rfl (Or.inl rfl))) (fun _ _ _ _ _ => pts_nil) (fun _ _ _ _ _ => (pe_callTy (CallR.or call_str_int SkE.call_str_str) (by rfl) T.nStr boot_str (pa_cons (pv 2) pa_nil))))))
      (pss_one (ps_ret (pe_join pe_str (pe_op op_cat (pv 1) (pe_lc (own := [("kid", 3)]) (g := gName 3) rfl sc57.nd (pi_list (pe_cl (cl56 T) (hr.mono (by omega)) rfl passL (pa_cons (pv 0) pa_nil))) (blkOk_by (own := [("kid", 3)]) (N := ["thing", "words", "one", "kid"]) (sc := defScope (top 57)) (by decide +kernel)) (fun _ _ _ _ _ => (pg_name (i := 3) sc57.nd rfl (Or.inl rfl))) (fun _ _ _ _ _ => pts_nil) (fun _ _ _ _ _ => (pe_cl (ih) hr rfl passL (pa_cons (pv 3) pa_nil))))))))), ?_⟩
    refine ⟨_, rfl, p, _, _, _, rfl, rfl, hp, vlay_at (j := 0) rfl, (by show 1 ≤ sizeLine; decide), fun l0 hl0 => ?_⟩
    have s1 : Same H (upd H l0 (.lst [V.str t.w.str])) := same_upd hl0
    have h0 : upd H l0 (.lst [V.str t.w.str]) l0 = some (.lst [V.str t.w.str]) := upd_same
    generalize upd H l0 (.lst [V.str t.w.str]) = H1 at *
    refine ⟨_, rfl, p, t.w, t.is, ks, rfl, same_sqT s1 hp, by omega, by omega, hP.same s1, fun li H2 s2 hli => ⟨li, rfl, ⟨_, SqL.of hli⟩, fun D hD => ?_⟩⟩
    refine lc_list (xs := t.is.map V.int) (fun i H' => Same H2 H' ∧ H' D = some (.lst ((t.is.take i).map fun z => V.str (istr z)))) ⟨same_upd hD, upd_same⟩ (fun i H' _ Z => SqL.of (Z.1 _ _ hli)) (fun i x H' hx Z => ?_) (fun H3 Z => ?_)
    · obtain ⟨s3, hD3⟩ := Z
      rw [List.getElem?_map, Option.map_eq_some_iff] at hx
      obtain ⟨z, hz, rfl⟩ := hx
      refine ⟨rfl, yes_ok (iteT ⟨_, rfl, .inl ⟨z, rfl, istr_small (hM.is _ (List.mem_of_getElem? hz)), _, hD3, ?_, fun b u e => ?_, ?_⟩⟩)⟩
      · rw [List.length_map, List.length_take]
        have : sizeLine = 16777216 := rfl
        omega
      · rw [upd_ne (ne_of_none e hD)]
        exact s3 _ _ e
      · rw [upd_same, List.take_succ, hz]
        simp
        rfl
    obtain ⟨s3, hD3⟩ := Z
    rw [List.length_map, List.take_length] at hD3
    refine ⟨l0, D, _, _, rfl, rfl, s3 _ _ (s2 _ _ h0), hD3, ?_, fun lw hlw => ?_⟩
    · rw [List.length_map]
      have : sizeLine = 16777216 := rfl
      simp only [List.length_cons, List.length_nil]
      omega
    have s4 := same_upd (o := HO.lst ([V.str t.w.str] ++ t.is.map fun z => V.str (istr z))) hlw
    have h4 : upd H3 lw (.lst ([V.str t.w.str] ++ t.is.map fun z => V.str (istr z))) lw = some (.lst ((t.w.str :: t.is.map istr).map V.str)) := by
      rw [upd_same, List.map_cons, List.map_map]
      rfl
    have s14 : Same H (upd H3 lw (.lst ([V.str t.w.str] ++ t.is.map fun z => V.str (istr z)))) := s1.trans (s2.trans (s3.trans s4))
    generalize upd H3 lw (.lst ([V.str t.w.str] ++ t.is.map fun z => V.str (istr z))) = H4 at *
    refine ⟨⟨_, rfl⟩, _, rfl, _, rfl, p, t.w, t.is, ks, rfl, same_sqT s14 hp, by omega, by omega, hP.same s14, fun lk H5 s5 hlk => ⟨lk, rfl, ⟨_, SqL.of hlk⟩, fun D2 hD2 => ?_⟩⟩
    refine lc_list (xs := ks) (fun i H' => Same H5 H' ∧ H' D2 = some (.lst (((t.kids.take i).map Tm.text).map V.str))) ⟨same_upd hD2, upd_same⟩ (fun i H' _ Z => SqL.of (Z.1 _ _ hlk)) (fun i x H' hx Z => ?_) (fun H6 Z => ?_)
    · obtain ⟨s6, hD6⟩ := Z
      have li : i < ks.length := (List.getElem?_eq_some_iff.mp hx).1
      obtain ⟨u, hu⟩ : ∃ u, t.kids[i]? = some u := ⟨_, List.getElem?_eq_getElem (by omega)⟩
      obtain ⟨kv, hkv, hkd⟩ := dpAll_get hk (d := u.data) (by rw [List.getElem?_map, hu]; rfl)
      rw [hx] at hkv
      injection hkv with hkv
      subst hkv
      have mu := List.mem_of_getElem? hu
      have ku := kids_sh hS mu
      have nu := kids_nodes mu
      refine ⟨rfl, yes_ok (iteT ⟨_, rfl, x, u, rfl, TV.mono (s14.trans (s5.trans s6)) hkd, ku.1, hM.kids mu, by omega, by omega, fun H7 s7 => ⟨_, s7 _ _ hD6, ?_, fun b z e => ?_, ?_⟩⟩)⟩
      · rw [List.length_map, List.length_map, List.length_take]
        have : sizeLine = 16777216 := rfl
        omega
      · rw [upd_ne (ne_of_none e hD2)]
        exact s7 _ _ (s6 _ _ e)
      · rw [upd_same, List.take_succ, hu]
        simp
    obtain ⟨s6, hD6⟩ := Z
    have ek : t.kids.take ks.length = t.kids := List.take_of_length_le (by omega)
    rw [ek] at hD6
    refine ⟨lw, D2, _, _, rfl, rfl, s6 _ _ (s5 _ _ h4), hD6, ?_, fun lz hlz => ?_⟩
    · rw [List.length_map, List.length_map, List.length_map, List.length_cons, List.length_map]
      have : sizeLine = 16777216 := rfl
      omega
    refine ⟨" ", lz, (t.w.str :: t.is.map istr) ++ t.kids.map Tm.text, rfl, rfl, .inl (SqL.of (by rw [upd_same, List.map_append])), ?_, ?_⟩
    · have z3 : (Str.length " ") = 1 := blank_len
      have all : ∀ x ∈ (t.w.str :: t.is.map istr) ++ t.kids.map Tm.text, x.length ≤ 1000 := fun x hx => by
        rcases List.mem_append.mp hx with hx | hx
        · have := Tm.words_short hM x (by rw [Tm.words_eq]; exact List.mem_append_left _ hx)
          omega
        · obtain ⟨u, mu, rfl⟩ := List.mem_map.mp hx
          have := text_len (kids_sh hS mu).1 (hM.kids mu)
          have := kids_nodes mu
          omega
      have z4 := sum_short all
      have z5 : ((t.w.str :: t.is.map istr) ++ t.kids.map Tm.text).length ≤ 5 := by
        rw [List.length_append, List.length_cons, List.length_map, List.length_map]
        omega
      rw [z3]
      omega
    · rw [← text_eq]
      exact q _ (s14.trans (s5.trans (s6.trans (same_upd hlz))))
end
end K31
end
/-! part K31N -/
section
set_option Elab.async false
set_option linter.all false
set_option maxRecDepth 100000
set_option maxHeartbeats 4000000
/-! K31N: the law's drawn papers. -/
namespace K31
open PySem PySem.Spec PyProof.Rows L2 TL
def Tm.Own : Tm → Prop
  | .leaf w is => own w is = true
  | .one w is a => own w is = true ∧ a.Own
  | .two w is a b => own w is = true ∧ a.Own ∧ b.Own
theorem own_walk : ∀ {t : Tm} {p : List Nat}, t.Own → t.depth + p.length ≤ 8 → walk p t = none
  | .leaf v is, p, h, d => by
    have d' : 1 + p.length ≤ 8 := d
    have h' : own v is = true := h
    unfold walk
    rw [if_neg (by omega), if_pos h']
  | .one v is a, p, h, d => by
    have d' : a.depth + 1 + p.length ≤ 8 := d
    unfold walk
    rw [if_neg (by omega), if_pos h.1]
    exact own_walk h.2 (by rw [List.length_append, List.length_singleton]; omega)
  | .two v is a b, p, h, d => by
    have d' : max a.depth b.depth + 1 + p.length ≤ 8 := d
    unfold walk
    rw [if_neg (by omega), if_pos h.1, own_walk (t := a) h.2.1 (by rw [List.length_append, List.length_singleton]; omega)]
    exact own_walk h.2.2 (by rw [List.length_append, List.length_singleton]; omega)
theorem own_c {z : Int} (h : -1000 ≤ z ∧ z ≤ 1000) : own .cash [z] = true := by
  rw [own1 (b := (-1000, 1000)) rfl, decide_eq_true h.1, decide_eq_true h.2]
  rfl
theorem own_t {z : Int} (h : -1000 ≤ z ∧ z ≤ 1000) : own .times [z] = true := by
  rw [own1 (b := (-1000, 1000)) rfl, decide_eq_true h.1, decide_eq_true h.2]
  rfl
theorem own_d {v : W} {z : Int} (hv : bounds v = [(0, 3)]) (h : 0 ≤ z ∧ z ≤ 3) : own v [z] = true := by
  rw [own1 hv, decide_eq_true h.1, decide_eq_true h.2]
  rfl
theorem own_dm {v : W} {z y : Int} (hv : bounds v = [(0, 3), (-1000, 1000)]) (h : 0 ≤ z ∧ z ≤ 3) (h' : -1000 ≤ y ∧ y ≤ 1000) : own v [z, y] = true := by
  rw [own2 hv, decide_eq_true h.1, decide_eq_true h.2, decide_eq_true h'.1, decide_eq_true h'.2]
  rfl
def leafW : List V := [.str "cash", .str "at", .str "above", .str "below", .str "lowest", .str "highest"]
def treeW : List V := [.str "both", .str "short", .str "times", .str "lesser", .str "greater", .str "if"]
theorem mem_leafW {x : V} (h : x ∈ leafW) : ∃ v : W, x = .str v.str ∧ v.nk = 0 := by
  simp only [leafW, List.mem_cons, List.not_mem_nil, or_false] at h
  rcases h with h | h | h | h | h | h
  · exact ⟨.cash, h, rfl⟩
  · exact ⟨.at_, h, rfl⟩
  · exact ⟨.above, h, rfl⟩
  · exact ⟨.below, h, rfl⟩
  · exact ⟨.lowest, h, rfl⟩
  · exact ⟨.highest, h, rfl⟩
theorem mem_treeW {x : V} (h : x ∈ treeW) : ∃ v : W, x = .str v.str ∧ v.nk ≠ 0 := by
  simp only [treeW, List.mem_cons, List.not_mem_nil, or_false] at h
  rcases h with h | h | h | h | h | h
  · exact ⟨.both, h, by decide⟩
  · exact ⟨.short, h, by decide⟩
  · exact ⟨.times, h, by decide⟩
  · exact ⟨.lesser, h, by decide⟩
  · exact ⟨.greater, h, by decide⟩
  · exact ⟨.ifw, h, by decide⟩
theorem in2 (v : W) : inV (.str v.str) [V.str "above", V.str "below"] = (decide (v = .above) || decide (v = .below)) := by cases v <;> decide +kernel
theorem vlay_ne {v : W} (h : v ≠ .ifw) {is : List Int} {ks : List V} : vlay v is ks = .str v.str :: (ks ++ is.map V.int) := by
  unfold vlay lay
  rw [if_neg h]
/-- a drawn paper -/
structure Nice (t : Tm) (d : Nat) : Prop where
  sh : t.Sh
  own : t.Own
  dep : t.depth ≤ max d 1
  nod : t.nodes + 1 ≤ 2 ^ (max d 1)
section
variable {P : Program} {w : World} {K : PySem.W.Frag} {mg : Str → Option Value} {base : Heap} {a : Ad}
def spPaper (K : PySem.W.Frag) (n : Nat) : Sp := fun vs H Q _ => ∃ (st lc ll : Addr) (k t d : Nat), vs = [.ref st, .int ((d : Nat) : Int)] ∧ d < n ∧ d ≤ 10 ∧ SO H st lc ll k t ∧ t + 8 * 2 ^ d ≤ 600000 ∧
  ∀ (tm : Tm) (v : V) H' (t' : Nat), Stt st ll H H' → SO H' st lc ll k t' → t ≤ t' → t' + 4 ≤ t + 8 * 2 ^ d → TV K H' v tm → Nice tm d → Q v H'
theorem sc58 : FnScope ["state", "deep", "word", "far", "near"] ["state", "deep"] (defScope (top 58)) := ⟨rfl, rfl, rfl, by decide +kernel, rfl, by decide +kernel, by decide +kernel⟩
theorem cl58 (T : Tx K mg w a) : ∀ n, Cl P w K mg base (n + 4) "_law_paper" (spPaper K n) := by
  intro n
  induction n with
  | zero =>
    obtain ⟨f, fd, F, hm⟩ := T.d58.ex
    refine ⟨f, fd, ["state", "deep"], lift0 (F.ok (k := 3) sc58 (fun vs H Q E h => ?_) (fun cdv A outer s H vs Q E hr h => ?_)), hm, F.kp, F.binds fun _ _ _ _ _ _ us hl => match us, hl with | [_, _], _ => rfl⟩
    · obtain ⟨st, lc, ll, k, t, d, rfl, _⟩ := h
      rfl
    · obtain ⟨st, lc, ll, k, t, d, _, h, _⟩ := h
      omega
  | succ n ih =>
  obtain ⟨f, fd, F, hm⟩ := T.d58.ex
  refine ⟨f, fd, ["state", "deep"], lift0 (F.ok (k := n + 4) sc58 (fun vs H Q E h => ?_) (fun cdv A outer s H vs Q E hr h => ?_)), hm, F.kp, F.binds fun _ _ _ _ _ _ us hl => match us, hl with | [_, _], _ => rfl⟩
  · obtain ⟨st, lc, ll, k, t, d, rfl, _⟩ := h
    rfl
  · obtain ⟨st, lc, ll, k, t, d, rfl, hd, hd10, I, ht, q⟩ := h
    refine ⟨_, (pss_cons (ps_if (PW.pt (pw_or (pt_cmpR op_lt (pv 1) pe_int (nomark _)) (pw_or1 (pt_cmpR op_eq (pe_cl (cl51 T) (hr.mono (by omega)) rfl passL (pa_cons (pv 0) (pa_cons pe_int pa_nil))) pe_int (nomark _))))) (pss_cons (ps_set (i := 2) sc58.nd rfl (Or.inl rfl) (pe_cl (cl52 T) (hr.mono (by omega)) rfl passL (pa_cons (pv 0) (pa_cons (pe_lst (pa_cons pe_str (pa_cons pe_str (pa_cons pe_str (pa_cons pe_str (pa_cons pe_str (pa_cons pe_str pa_nil))))))) pa_nil))))
      (pss_cons (ps_set (i := 3) sc58.nd rfl (Or.inl rfl) (pe_op op_sub (pe_cl (cl51 T) (hr.mono (by omega)) rfl passL (pa_cons (pv 0) (pa_cons pe_int pa_nil))) pe_int))
      (pss_cons (ps_if (pt_cmpR op_eq (pv 2) pe_str (nomark _)) (pss_one (ps_ret (pe_tup (pa_cons pe_str (pa_cons (pe_cl (cl52 T) (hr.mono (by omega)) rfl passL (pa_cons (pv 0) (pa_cons (pe_lst (pa_cons (pv 3) (pa_cons pe_int (pa_cons (pe_un un_neg pe_int) pa_nil)))) pa_nil))) pa_nil))))) pss_nil)
      (pss_one (ps_ret (pe_ifExp (pt_cmpR op_in_seq (pv 2) (pe_tup (pa_cons pe_str (pa_cons pe_str pa_nil))) rfl) (pe_tup (pa_cons (pv 2) (pa_cons (pe_cl (cl51 T) (hr.mono (by omega)) rfl passL (pa_cons (pv 0) (pa_cons pe_int pa_nil))) (pa_cons (pv 3) pa_nil)))) (pe_tup (pa_cons (pv 2) (pa_cons (pe_cl (cl51 T) (hr.mono (by omega)) rfl passL (pa_cons (pv 0) (pa_cons pe_int pa_nil))) pa_nil))))))))) pss_nil)
      (pss_cons (ps_set (i := 2) sc58.nd rfl (Or.inl rfl) (pe_cl (cl52 T) (hr.mono (by omega)) rfl passL (pa_cons (pv 0) (pa_cons (pe_lst (pa_cons pe_str (pa_cons pe_str (pa_cons pe_str (pa_cons pe_str (pa_cons pe_str (pa_cons pe_str pa_nil))))))) pa_nil))))
      (pss_cons (ps_set (i := 4) sc58.nd rfl (Or.inl rfl) (pe_cl (ih) hr rfl passL (pa_cons (pv 0) (pa_cons (pe_op op_sub (pv 1) pe_int) pa_nil))))
      (pss_cons (ps_if (pt_cmpR op_eq (pv 2) pe_str (nomark _)) (pss_one (ps_ret (pe_tup (pa_cons (pv 2) (pa_cons (pv 4) pa_nil))))) pss_nil)
      (pss_cons (ps_if (pt_cmpR op_eq (pv 2) pe_str (nomark _)) (pss_one (ps_ret (pe_tup (pa_cons (pv 2) (pa_cons (pv 4) (pa_cons (pe_op op_sub (pe_cl (cl51 T) (hr.mono (by omega)) rfl passL (pa_cons (pv 0) (pa_cons pe_int pa_nil))) pe_int) pa_nil)))))) pss_nil)
      (pss_cons (ps_if (pt_cmpR op_eq (pv 2) pe_str (nomark _)) (pss_one (ps_ret (pe_tup (pa_cons (pv 2) (pa_cons (pe_cl (cl51 T) (hr.mono (by omega)) rfl passL (pa_cons (pv 0) (pa_cons pe_int pa_nil))) (pa_cons (pe_op op_sub (pe_cl (cl51 T) (hr.mono (by omega)) rfl passL (pa_cons (pv 0) (pa_cons pe_int pa_nil))) pe_int) (pa_cons (pv 4) (pa_cons (pe_cl (ih) hr rfl passL (pa_cons (pv 0) (pa_cons (pe_op op_sub (pv 1) pe_int) pa_nil))) pa_nil)))))))) pss_nil)
      (pss_one (ps_ret (pe_tup (pa_cons (pv 2) (pa_cons (pv 4) (pa_cons (pe_cl (ih) hr rfl passL (pa_cons (pv 0) (pa_cons (pe_op op_sub (pv 1) pe_int) pa_nil))) pa_nil)))))))))))), ?_⟩
    have p2 : 1 ≤ 2 ^ d := Nat.one_le_two_pow
    have p3 : 2 ^ d ≤ 2 ^ 10 := Nat.pow_le_pow_right (by decide) hd10
    -- the leaf
    have leaf : ∀ H1 t1, Stt st ll H H1 → SO H1 st lc ll k t1 → t ≤ t1 → t1 ≤ t + 1 → ∀ nx : L2.St → Hp → Prop,
        tSeq (tAsg (tCall (spOf K) [] E0 (tCons (tVar 0) (tCons (tLst (tCons (tC (.str "cash")) (tCons (tC (.str "at")) (tCons (tC (.str "above")) (tCons (tC (.str "below")) (tCons (tC (.str "lowest")) (tCons (tC (.str "highest")) tNil))))))) tNil))) (gName 2))
        (tSeq (tAsg (tOp (rI0 fun i j => .int (i - j)) (tCall spDraw [] E0 (tCons (tVar 0) (tCons (tC (.int 41)) tNil))) (tC (.int 20))) (gName 3))
        (tSeq (tIfS (tTest (tOp rEq (tVar 2) (tC (.str "cash")))) (tRet (tTup (tCons (tC (.str "cash")) (tCons (tCall (spOf K) [] E0 (tCons (tVar 0) (tCons (tLst (tCons (tVar 3) (tCons (tC (.int 1000)) (tCons (tUn (rU fun i => .int (-i)) (tC (.int 1000))) tNil)))) tNil))) tNil)))) tNext)
          (tRet (tIf (tTest (tOp (rIn K false) (tVar 2) (tTup (tCons (tC (.str "above")) (tCons (tC (.str "below")) tNil))))) (tTup (tCons (tVar 2) (tCons (tCall spDraw [] E0 (tCons (tVar 0) (tCons (tC (.int 3)) tNil))) (tCons (tVar 3) tNil)))) (tTup (tCons (tVar 2) (tCons (tCall spDraw [] E0 (tCons (tVar 0) (tCons (tC (.int 3)) tNil))) tNil)))))))
          { nx := nx, rt := Q } [some (.ref st), some (.int ((d : Nat) : Int)), none, none, none] H1 := by
      intro H1 t1 s1 I1 b1 b2 nx
      refine ⟨_, rfl, (by show 6 ≤ sizeLine; decide), fun p hp => ?_⟩
      have s2 : Same H1 (upd H1 p (.lst leafW)) := same_upd hp
      have I2 := I1.same s2
      refine ⟨st, lc, ll, p, k, t1, leafW, rfl, I2, by omega, SqL.of upd_same, fun z => ?_, by decide, by decide, fun x H3 hx s3 I3 => ?_⟩
      · obtain ⟨ls, l1, _⟩ := I1.ls
        rw [z, l1] at hp
        cases hp
      obtain ⟨v, rfl, hv⟩ := mem_leafW hx
      refine ⟨_, rfl, st, lc, ll, k, t1 + 1, 41, rfl, I3, by omega, by decide, by decide, fun r H4 r1 r2 s4 I4 => ⟨_, _, rfl, rfl, ?_⟩⟩
      have s14 : Stt st ll H H4 := s1.trans ((Stt.of s2).trans (s3.trans s4))
      refine ⟨_, rfl, rfl, _, rfl, ?_⟩
      rw [show decide (V.str v.str = V.str "cash") = decide (v = .cash) from wEq v .cash]
      refine bl_cases (fun c => ?_) (fun c => ?_)
      · obtain rfl := of_decide_eq_true c
        refine ⟨_, rfl, _, rfl, _, rfl, (by show 3 ≤ sizeLine; decide), fun p5 hp5 => ?_⟩
        have s5 := same_upd (o := HO.lst [V.int (r - 20), V.int 1000, V.int (-1000)]) hp5
        refine ⟨st, lc, ll, p5, k, t1 + 1 + 1, [V.int (r - 20), V.int 1000, V.int (-1000)], rfl, I4.same s5, by omega, SqL.of upd_same, fun z => ?_, (by decide : 0 < 3), (by decide : 3 < 1000000), fun x H6 hx s6 I6 => ?_⟩
        · obtain ⟨ls, l1, _⟩ := I4.ls
          rw [z, l1] at hp5
          cases hp5
        have hz : ∃ z : Int, x = .int z ∧ -1000 ≤ z ∧ z ≤ 1000 := by
          simp only [List.mem_cons, List.not_mem_nil, or_false] at hx
          rcases hx with e | e | e
          · exact ⟨_, e, by omega, by omega⟩
          · exact ⟨_, e, by omega, by omega⟩
          · exact ⟨_, e, by omega, by omega⟩
        obtain ⟨z, rfl, z1⟩ := hz
        refine ⟨(by show 2 ≤ sizeLine; decide), fun r7 hr7 => ?_⟩
        have s7 := same_upd (o := HO.tup [V.str "cash", V.int z]) hr7
        refine q (.leaf .cash [z]) (.ref r7) _ (t1 + 1 + 1 + 1) (s14.trans ((Stt.of s5).trans (s6.trans (Stt.of s7)))) (I6.same s7) (by omega) (by omega) (TV.mk (ks := []) (SqT.of upd_same) .nil) ⟨⟨rfl, rfl⟩, own_c z1, ?_, ?_⟩
        · show 1 ≤ max d 1
          omega
        · show 1 + 1 ≤ 2 ^ (max d 1)
          exact Nat.pow_le_pow_right (n := 2) (i := 1) (by decide) (by omega)
      · have nc : v ≠ .cash := of_decide_eq_false c
        refine ⟨_, rfl, (by show 2 ≤ sizeLine; decide), fun p5 hp5 => ?_⟩
        have s5 := same_upd (o := HO.tup [V.str "above", V.str "below"]) hp5
        refine ⟨p5, _, rfl, .inr (SqT.of upd_same), rfl, (by decide +kernel), _, rfl, ?_⟩
        show (if inV (V.str v.str) [V.str "above", V.str "below"] = true then _ else _)
        rw [in2]
        refine bl_cases (fun c2 => ?_) (fun c2 => ?_)
        · refine ⟨_, rfl, _, rfl, st, lc, ll, k, t1 + 1 + 1, 3, rfl, I4.same s5, by omega, by decide, by decide, fun z H6 z1 z2 s6 I6 => ⟨_, rfl, (by show 3 ≤ sizeLine; decide), fun r7 hr7 => ?_⟩⟩
          have s7 := same_upd (o := HO.tup [V.str v.str, V.int z, V.int (r - 20)]) hr7
          have bv : bounds v = [(0, 3), (-1000, 1000)] ∧ v.ni = 2 ∧ v ≠ .ifw := by
            revert c2
            cases v <;> first | (intro c; exact absurd c (by decide)) | (intro _; exact ⟨rfl, rfl, by decide⟩)
          refine q (.leaf v [z, r - 20]) (.ref r7) _ (t1 + 1 + 1 + 1) (s14.trans ((Stt.of s5).trans (s6.trans (Stt.of s7)))) (I6.same s7) (by omega) (by omega) (TV.mk (ks := []) ?_ .nil) ⟨⟨hv, bv.2.1.symm⟩, own_dm bv.1 ⟨z1, by omega⟩ ⟨by omega, by omega⟩, ?_, ?_⟩
          · show SqT K _ r7 (vlay v [z, r - 20] [])
            rw [vlay_ne bv.2.2]
            exact SqT.of upd_same
          · show 1 ≤ max d 1
            omega
          · show 1 + 1 ≤ 2 ^ (max d 1)
            exact Nat.pow_le_pow_right (n := 2) (i := 1) (by decide) (by omega)
        · refine ⟨_, rfl, _, rfl, st, lc, ll, k, t1 + 1 + 1, 3, rfl, I4.same s5, by omega, by decide, by decide, fun z H6 z1 z2 s6 I6 => ⟨(by show 2 ≤ sizeLine; decide), fun r7 hr7 => ?_⟩⟩
          have s7 := same_upd (o := HO.tup [V.str v.str, V.int z]) hr7
          have bv : bounds v = [(0, 3)] ∧ v.ni = 1 ∧ v ≠ .ifw := by
            revert c2 nc hv
            cases v <;> first | (intro a b c; exact absurd rfl b) | (intro a b c; exact absurd c (by decide)) | (intro a b c; exact absurd a (by decide)) | (intro _ _ _; exact ⟨rfl, rfl, by decide⟩)
          refine q (.leaf v [z]) (.ref r7) _ (t1 + 1 + 1 + 1) (s14.trans ((Stt.of s5).trans (s6.trans (Stt.of s7)))) (I6.same s7) (by omega) (by omega) (TV.mk (ks := []) ?_ .nil) ⟨⟨hv, bv.2.1.symm⟩, own_d bv.1 ⟨z1, by omega⟩, ?_, ?_⟩
          · show SqT K _ r7 (vlay v [z] [])
            rw [vlay_ne bv.2.2]
            exact SqT.of upd_same
          · show 1 ≤ max d 1
            omega
          · show 1 + 1 ≤ 2 ^ (max d 1)
            exact Nat.pow_le_pow_right (n := 2) (i := 1) (by decide) (by omega)
    refine ⟨_, rfl, _, _, rfl, rfl, _, rfl, ?_⟩
    refine bl_cases (fun c => ?_) (fun c => ?_)
    · refine iteT ?_
      exact leaf H t (Stt.of (Same.refl H)) I (Nat.le_refl _) (by omega) _
    have d2 : 2 ≤ d := by
      have := of_decide_eq_false c
      omega
    refine ⟨_, rfl, st, lc, ll, k, t, 5, rfl, I, by omega, by decide, by decide, fun r H1 r1 r2 s1 I1 => ⟨rfl, _, rfl, ?_⟩⟩
    refine bl_cases (fun c2 => ?_) (fun c2 => ?_)
    · exact leaf H1 (t + 1) s1 I1 (by omega) (by omega) _
    have pd : 2 ^ d = 2 * 2 ^ (d - 1) := by
      rw [← Nat.pow_succ', show (d - 1).succ = d by omega]
    have p4 : 2 ≤ 2 ^ (d - 1) := Nat.pow_le_pow_right (n := 2) (i := 1) (by decide) (by omega)
    have mx : max (d - 1) 1 = d - 1 := by omega
    have mx2 : max d 1 = d := by omega
    have ed : ((d : Nat) : Int) - 1 = ((d - 1 : Nat) : Int) := by omega
    -- word = _law_of(..)
    refine ⟨_, rfl, (by show 6 ≤ sizeLine; decide), fun p hp => ?_⟩
    have s2 : Same H1 (upd H1 p (.lst treeW)) := same_upd hp
    have I2 := I1.same s2
    refine ⟨st, lc, ll, p, k, t + 1, treeW, rfl, I2, by omega, SqL.of upd_same, fun z => ?_, by decide, by decide, fun x H3 hx s3 I3 => ?_⟩
    · obtain ⟨ls, l1, _⟩ := I1.ls
      rw [z, l1] at hp
      cases hp
    obtain ⟨v, rfl, hv⟩ := mem_treeW hx
    have s13 : Stt st ll H H3 := s1.trans ((Stt.of s2).trans s3)
    -- near = _law_paper(state, deep - 1)
    refine ⟨_, rfl, _, rfl, _, _, rfl, rfl, st, lc, ll, k, t + 1 + 1, d - 1, (by show [V.ref st, V.int (((d : Nat) : Int) - 1)] = _; rw [ed]), by omega, by omega, I3, by omega, fun m1 v1 H4 t4 s4 I4 b1 b2 hv1 N1 => ?_⟩
    have N1d := N1.dep
    have N1n := N1.nod
    rw [mx] at N1d N1n
    have s14 := s13.trans s4
    refine ⟨_, rfl, rfl, _, rfl, ?_⟩
    rw [show decide (V.str v.str = V.str "short") = decide (v = .short) from wEq v .short]
    refine bl_cases (fun c3 => ?_) (fun c3 => ?_)
    · obtain rfl := of_decide_eq_true c3
      refine ⟨_, rfl, _, rfl, (by show 2 ≤ sizeLine; decide), fun r7 hr7 => ?_⟩
      have s7 := same_upd (o := HO.tup [V.str W.short.str, v1]) hr7
      refine q (.one .short [] m1) (.ref r7) _ t4 (s14.trans (Stt.of s7)) (I4.same s7) (by omega) (by omega) (TV.mk (ks := [v1]) (SqT.of upd_same) (.cons (TV.mono s7 hv1) .nil)) ⟨⟨rfl, rfl, N1.sh⟩, ⟨rfl, N1.own⟩, ?_, ?_⟩
      · show m1.depth + 1 ≤ max d 1
        omega
      · show m1.nodes + 1 + 1 ≤ 2 ^ (max d 1)
        rw [mx2]
        omega
    have n3 : v ≠ .short := of_decide_eq_false c3
    refine ⟨_, rfl, rfl, _, rfl, ?_⟩
    rw [show decide (V.str v.str = V.str "times") = decide (v = .times) from wEq v .times]
    refine bl_cases (fun c4 => ?_) (fun c4 => ?_)
    · obtain rfl := of_decide_eq_true c4
      refine ⟨_, rfl, _, rfl, _, rfl, st, lc, ll, k, t4, 13, rfl, I4, by omega, by decide, by decide, fun z H5 z1 z2 s5 I5 => ⟨_, _, rfl, rfl, (by show 3 ≤ sizeLine; decide), fun r7 hr7 => ?_⟩⟩
      have s7 := same_upd (o := HO.tup [V.str W.times.str, v1, V.int (z - 6)]) hr7
      refine q (.one .times [z - 6] m1) (.ref r7) _ (t4 + 1) (s14.trans (s5.trans (Stt.of s7))) (I5.same s7) (by omega) (by omega) (TV.mk (ks := [v1]) (SqT.of upd_same) (.cons (TV.mono s7 (Grw.dp (s5.grw I4) _ _ (noL_data m1) hv1)) .nil)) ⟨⟨rfl, rfl, N1.sh⟩, ⟨own_t (by omega), N1.own⟩, ?_, ?_⟩
      · show m1.depth + 1 ≤ max d 1
        omega
      · show m1.nodes + 1 + 1 ≤ 2 ^ (max d 1)
        rw [mx2]
        omega
    have n4 : v ≠ .times := of_decide_eq_false c4
    refine ⟨_, rfl, rfl, _, rfl, ?_⟩
    rw [show decide (V.str v.str = V.str "if") = decide (v = .ifw) from wEq v .ifw]
    refine bl_cases (fun c5 => ?_) (fun c5 => ?_)
    · obtain rfl := of_decide_eq_true c5
      refine ⟨_, rfl, _, rfl, st, lc, ll, k, t4, 3, rfl, I4, by omega, by decide, by decide, fun y H5 y1 y2 s5 I5 => ?_⟩
      refine ⟨_, rfl, st, lc, ll, k, t4 + 1, 21, rfl, I5, by omega, by decide, by decide, fun z H6 z1 z2 s6 I6 => ⟨_, _, rfl, rfl, ?_⟩⟩
      refine ⟨_, rfl, _, rfl, _, rfl, _, _, rfl, rfl, st, lc, ll, k, t4 + 1 + 1, d - 1, (by show [V.ref st, V.int (((d : Nat) : Int) - 1)] = _; rw [ed]), by omega, by omega, I6, by omega, fun m2 v2 H7 t7 s7 I7 b3 b4 hv2 N2 => ⟨(by show 5 ≤ sizeLine; decide), fun r8 hr8 => ?_⟩⟩
      have N2d := N2.dep
      have N2n := N2.nod
      rw [mx] at N2d N2n
      have s8 := same_upd (o := HO.tup [V.str W.ifw.str, V.int y, V.int (z - 10), v1, v2]) hr8
      have g := ((s5.grw I4).trans ((s6.grw I5).trans (s7.grw I6))).trans (Grw.of s8)
      refine q (.two .ifw [y, z - 10] m1 m2) (.ref r8) _ t7 (s14.trans (s5.trans (s6.trans (s7.trans (Stt.of s8))))) (I7.same s8) (by omega) (by omega) (TV.mk (ks := [v1, v2]) (SqT.of upd_same) (.cons (Grw.dp g _ _ (noL_data m1) hv1) (.cons (TV.mono s8 hv2) .nil)))
        ⟨⟨rfl, rfl, N1.sh, N2.sh⟩, ⟨own_dm rfl (by omega) (by omega), N1.own, N2.own⟩, ?_, ?_⟩
      · show max m1.depth m2.depth + 1 ≤ max d 1
        omega
      · show m1.nodes + m2.nodes + 1 + 1 ≤ 2 ^ (max d 1)
        rw [mx2]
        omega
    have n5 : v ≠ .ifw := of_decide_eq_false c5
    have bv : v.nk = 2 ∧ v.ni = 0 ∧ bounds v = [] := by
      revert hv n3 n4 n5
      cases v <;> first | (intro a _ _ _; exact absurd rfl a) | (intro _ a _ _; exact absurd rfl a) | (intro _ _ a _; exact absurd rfl a) | (intro _ _ _ a; exact absurd rfl a) | (intro _ _ _ _; exact ⟨rfl, rfl, rfl⟩)
    refine ⟨_, rfl, _, rfl, _, rfl, _, rfl, _, _, rfl, rfl, st, lc, ll, k, t4, d - 1, (by show [V.ref st, V.int (((d : Nat) : Int) - 1)] = _; rw [ed]), by omega, by omega, I4, by omega, fun m2 v2 H7 t7 s7 I7 b3 b4 hv2 N2 => ⟨(by show 3 ≤ sizeLine; decide), fun r8 hr8 => ?_⟩⟩
    have N2d := N2.dep
    have N2n := N2.nod
    rw [mx] at N2d N2n
    have s8 := same_upd (o := HO.tup [V.str v.str, v1, v2]) hr8
    have g := (s7.grw I4).trans (Grw.of s8)
    refine q (.two v [] m1 m2) (.ref r8) _ t7 (s14.trans (s7.trans (Stt.of s8))) (I7.same s8) (by omega) (by omega) (TV.mk (ks := [v1, v2]) ?_ (.cons (Grw.dp g _ _ (noL_data m1) hv1) (.cons (TV.mono s8 hv2) .nil)))
      ⟨⟨bv.1, bv.2.1.symm, N1.sh, N2.sh⟩, ⟨own0 bv.2.2, N1.own, N2.own⟩, ?_, ?_⟩
    · show SqT K _ r8 (vlay v [] [v1, v2])
      rw [vlay_ne n5]
      exact SqT.of upd_same
    · show max m1.depth m2.depth + 1 ≤ max d 1
      omega
    · show m1.nodes + m2.nodes + 1 + 1 ≤ 2 ^ (max d 1)
      rw [mx2]
      omega
end
end K31
end
/-! part K31X -/
section
set_option Elab.async false
set_option linter.all false
set_option maxRecDepth 100000
set_option maxHeartbeats 4000000
/-! K31X: enumerate(tuple). -/
namespace K31
open PySem PySem.Spec PyProof.Rows L2 AutoSeq1
abbrev emObj (it : Addr) : Obj := { cls := .type "enumerate", data := .fields #[.none, .bool false, .ref it, rawInt 0, .none, .none] }
abbrev tiObj (t : Addr) : Obj := { cls := .type "tuple_iterator", data := .fields #[.ref t, .int 0 0] }
theorem newEnumT (t : Addr) (xs : Array Value) (k : Nat) (dd : Option Addr) (sv : Array (Option Value)) :
    Meets (Builtin.«enumerate.__new__» ⟨[.type "enumerate", .ref t], []⟩) (fun _ R s => s.heap.get? t = some { cls := .type "tuple", dict := dd, data := .seq xs k, slots := sv } ∧
      R (.ok (.ret (.ref (s.heap.push (tiObj t)).objs.size))) { s with heap := (s.heap.push (tiObj t)).push (emObj s.heap.objs.size) }) :=
  .of_wp fun prog w A R s q => by
    obtain ⟨hh, gg, dr, tt, oo⟩ := s
    obtain ⟨ht, q⟩ := q
    have sb := sub_enumerate
    have isT : Heap.IsTuple (Shared.heap ⟨hh, gg, dr, tt, oo⟩) t xs := ⟨_, ht, rfl, k, rfl⟩
    wp_walk using wpAny_loadPart' ht
    refine wpAny_stack_any fun stk => wpAny_pure ?_
    split
    · rename_i cc _ _ _ _ _
      cases (cc == Value.type "enumerate") <;> (wp_walk using wpAny_loadPart' ht, wpAny_pyIter_tuple isT; exact ⟨_, rfl, q⟩)
    · wp_walk using wpAny_loadPart' ht, wpAny_pyIter_tuple isT
      exact ⟨_, rfl, q⟩
section
variable {prog : Program} {w : World} {A : Around} {E : Value → Shared → Prop} {s : Shared}
theorem callEnumT {t : Addr} {xs : Array Value} {Q : Value → Shared → Prop} (ht : s.heap.IsTuple t xs)
    (q : ∀ g, IsEnum g (s.heap.objs.size + 1) s.heap.objs.size 0 .none → g.IsTupleIter s.heap.objs.size t 0 → (∀ b o, s.heap.get? b = some o → g.get? b = some o) → Q (.ref (s.heap.objs.size + 1)) { s with heap := g }) :
    wpAny (model prog w) A (call (.type "enumerate") [.ref t]) Q E s := by
  obtain ⟨⟨c1, d1, t1, s1⟩, h1, hc, n, hd⟩ := ht
  simp only at hc hd
  subst hc hd
  refine callType_new F.called_enumerate (by decide) (F.typeCall_enumerate_1 _) (F.newCall_enumerate_1 _) (fun o => F.args_object_init_2 o _) F.entry_enumerate_new (newEnumT t xs n d1 s1) ⟨h1, ?_⟩
  have z1 : (s.heap.push (tiObj t)).objs.size = s.heap.objs.size + 1 := Heap.size_push ..
  show _ ∧ _
  rw [z1]
  have e1 : IsEnum ((s.heap.push (tiObj t)).push (emObj s.heap.objs.size)) (s.heap.objs.size + 1) s.heap.objs.size 0 .none := by
    have y := Heap.get?_push_size (s.heap.push (tiObj t)) (o := emObj s.heap.objs.size) rfl
    rw [z1] at y
    exact y
  exact ⟨⟨_, e1, rfl⟩, q _ e1 ⟨_, Heap.get?_push_of_some _ (Heap.get?_push_size _ rfl), rfl, rfl⟩ fun b o y => Heap.get?_push_of_some _ (Heap.get?_push_of_some _ y)⟩
end
/-- the tuple at a, each item in a new pair with its number -/
def ItE (K : PySem.W.Frag) (a : Addr) : It :=
  ⟨fun i H => ∃ (ys : List V) (y : V), SqT K H a ys ∧ ys[i]? = some y, fun i H v H' => ∃ U y, v = .ref U ∧ H U = none ∧ H' = upd H U (.tup [.int (i : Nat), y]) ∧ ∀ ys, SqT K H a ys → ys[i]? = some y, fun i H => ∃ ys : List V, SqT K H a ys ∧ ys.length ≤ i⟩
theorem turnEnumT {P : Program} {w : World} {K : PySem.W.Frag} {elts : List Expr} {kk : Nat} {tpos : Pos} (a e it : Addr) :
    Turn P w K (.Tuple elts kk tpos) (ItE K a) [e, it] e (fun i g => (∃ old, IsEnum g e it ((i : Nat) : Int) old) ∧ g.IsTupleIter it a i ∧ e ≠ it) where
  mem := List.mem_cons_self
  obj := fun i g t b hb => by
    obtain ⟨⟨old, h1⟩, ⟨o, h2, _, h3⟩, _⟩ := t
    have c : b = e ∨ b = it := by simpa using hb
    rcases c with rfl | rfl
    · exact ⟨_, h1, fun v q => nomatch q⟩
    · exact ⟨o, h2, fun v q => by rw [h3] at q; cases q⟩
  keep := fun i g g' t k => by
    obtain ⟨⟨old, h1⟩, h2, ne⟩ := t
    exact ⟨⟨old, k e List.mem_cons_self _ h1⟩, h2.at fun o q => k it (List.mem_cons_of_mem _ List.mem_cons_self) o q, ne⟩
  item := by
    intro X eP ew eK hc i pins s σ H E I hf t hg
    subst eP ew eK
    obtain ⟨⟨old, h1⟩, h2, ne⟩ := t
    obtain ⟨ys, y, hq, hy⟩ := hg
    obtain ⟨its, rv, p, hz⟩ := I.tuple hq
    obtain ⟨u, hu, ru⟩ := rv.get hy
    have le : e < s.heap.objs.size := Heap.lt_size h1
    have li : it < s.heap.objs.size := by
      obtain ⟨_, q, _⟩ := h2
      exact Heap.lt_size q
    have p' : s.heap.IsTuple a its.toArray := p
    have nai : a ≠ it := fun z => by
      obtain ⟨o1, e1, c1, _⟩ := id h2
      obtain ⟨o2, e2, c2, _⟩ := id p'
      rw [z, e1] at e2
      injection e2 with e2
      rw [← e2, c1] at c2
      exact absurd c2 (by decide)
    have D := Draws.tuple (prog := X.prog) (w := X.w) (A := X.A.in1) (show X.A.in1.handled = none from I.ok.hd hc) it a nai its.toArray
    have lt : i < its.toArray.size := by
      rw [List.size_toArray]
      exact (List.getElem?_eq_some_iff.mp hu).1
    have nea : e ≠ a := fun z => by
      obtain ⟨o2, e2, c2, _⟩ := id p'
      rw [← z, h1] at e2
      injection e2 with e2
      rw [← e2] at c2
      exact absurd c2 (show ¬ (Value.type "enumerate" = Value.type "tuple") by decide)
    have nfp : e ∉ [it, a] := fun m => by
      rcases List.mem_cons.mp m with z | m
      · exact ne z
      · exact nea (List.mem_singleton.mp m)
    refine wpAny_pyNext_enum_itemD D h1 ⟨h2, p'⟩ lt ne nfp fun x g tk hx ho hst hT hsz hk => ?_
    obtain rfl : x = u := by
      have hx' : its[i]? = some x := by simpa using hx
      rw [hu] at hx'
      exact (Option.some.inj hx').symm
    refine ⟨_, rfl, wpAny_letOwnedTupleGo_enum (s := { s with heap := g, toks := tk + 1 }) ho fun g2 he2 sb => ?_⟩
    have hT2 : g2.get? s.heap.objs.size = some { cls := .type "tuple", data := .seq #[.int i tk, x] } := (sb.2 _ (Nat.ne_of_gt le)).trans hT
    have new : ObjOk X.prog X.w (upd H s.heap.objs.size (.tup [.int (i : Nat), y])) g2 s.heap.objs.size (.tup [.int (i : Nat), y]) :=
      ⟨(by show 2 ≤ sizeLine; decide), [.int i tk, x], .cons ⟨_, rfl⟩ (.cons ru .nil), ⟨_, hT2, rfl, _, rfl⟩⟩
    have I1 : Inv X pins σ (upd H s.heap.objs.size (.tup [.int (i : Nat), y])) { s with heap := g2, toks := tk + 1 } :=
      I.turnedNew (ch := [e, it]) (fun b ob hb q => (sb.2 b (fun z => hb (by rw [z]; exact List.mem_cons_self))).trans (hk b ob (fun z => hb (by rw [z]; exact List.mem_cons_self)) (fun z => hb (by rw [z]; exact List.mem_cons_of_mem _ List.mem_cons_self)) q)) hf (Nat.le_refl _) new
    refine ⟨.ref s.heap.objs.size, _, I1, rfl, ⟨_, y, rfl, I.hok.fresh (Nat.le_refl _), rfl, fun zs hzs => by rw [I.tuple_inj hzs hq]; exact hy⟩, ⟨⟨x, ?_⟩, hst.1.at fun o q => (sb.2 it (Ne.symm ne)).trans q, ne⟩, fun b hb => ?_⟩
    · rw [show ((i + 1 : Nat) : Int) = (i : Int) + 1 by omega]
      exact he2
    · have c : b = e ∨ b = it := by simpa using hb
      have hb' : b < s.heap.objs.size := by
        rcases c with z | z
        · rw [z]
          exact le
        · rw [z]
          exact li
      rw [upd_ne (Nat.ne_of_lt hb')]
      exact (hf b hb).1
  done := by
    intro X eP ew eK hc i pins s σ H E I hf t hg
    subst eP ew eK
    obtain ⟨⟨old, h1⟩, h2, ne⟩ := t
    obtain ⟨ys, hq, hy⟩ := hg
    obtain ⟨its, rv, p, hz⟩ := I.tuple hq
    have p' : s.heap.IsTuple a its.toArray := p
    obtain ⟨f0, f1, f2, f3, f4, f5⟩ := hf it (List.mem_cons_of_mem _ List.mem_cons_self)
    have hl := rv.length
    have hT : s.TypeIs (.ref e) "enumerate" := ⟨_, h1, rfl⟩
    unfold pyNext
    refine wpAny_bind (wpAny_attempt (wpAny_callSpecial?_slot (name := Str.ofString "__next__") hT F.slot_enumerate_next (wpAny_call_entry F.slot_enumerate_next hT F.entry_enumerate_next ?_ (F.args_enumerate_next_1 _))))
    show wpAny _ _ (field (.ref e) 2 >>= _) _ _ _
    refine wpAny_bind (wpAny_field h1 rfl (x := .ref it) rfl (wpAny_bind (wpAny_nextOf_tuple_end (I.ok.hd hc) h2 p' (by simp; omega) fun g x eb hx => ?_)))
    obtain ⟨o, ho, hcx⟩ := hx
    refine wpAny_bind (wpAny_isInstance (T := "StopIteration") (b := true) ⟨o, ho, hcx⟩ isSubtype_stop ?_)
    exact wpAny_pure ⟨rfl, I.turned (t' := s.toks) (fun b o hb q => eb b o hb q) f0 f1 f3 f4 f5⟩
  self := fun A i s Q E t q => by
    obtain ⟨⟨_, h1⟩, _⟩ := t
    exact wpAny_pyIter_enum h1 q
def iEnT (K : PySem.W.Frag) (ta : TA) : TI := fun σ H R => ta σ H fun vs H1 => ∃ a xs, vs = [.ref a] ∧ SqT K H1 a xs ∧ R (ItE K a) H1
theorem pi_enumT {X : Cx} {e : Expr} {ta : TA} {p pos tpos : Pos} {elts : List Expr} {kk : Nat} (hg : Gl X "enumerate") (hm : X.mg "enumerate" = none) (ha : PA X [e] ta) (hs : starEach [e] X.env = [(false, eval e X.env)] := by rfl) :
    PI X (.Tuple elts kk tpos) (.Call (.Name "enumerate" p) [e] [] pos) (iEnT X.K ta) := by
  refine ⟨fun pins s σ H R I z => Call_ (ld_blt I hg hm boot_enumerate (PyProof.Rows.callWith_type1 (thn (ha.run pos pins s σ H _ I z) fun us s1 ⟨vs, H1, I1, r1, q1⟩ => ?_) hs rfl))⟩
  obtain ⟨a, xs, rfl, hq, q⟩ := q1
  obtain ⟨u, rfl, ru⟩ := vals1 r1
  obtain rfl : u = Value.ref a := ru
  obtain ⟨its, rv, pp, hz⟩ := I1.tuple hq
  refine callEnumT (show s1.heap.IsTuple a its.toArray from pp) fun g he hit hk => wpAny_pyIter_enum he ?_
  have I2 : Inv X pins σ H1 { s1 with heap := g } := I1.kept (t' := s1.toks) hk
  refine ⟨s1.heap.objs.size + 1, [s1.heap.objs.size + 1, s1.heap.objs.size], _, _, H1, rfl, I2, turnEnumT a (s1.heap.objs.size + 1) s1.heap.objs.size, ⟨⟨.none, he⟩, hit, Nat.succ_ne_self _⟩, fun b hb => ?_, q⟩
  have c : b = s1.heap.objs.size + 1 ∨ b = s1.heap.objs.size := by simpa using hb
  have lb : s1.heap.objs.size ≤ b := by
    rcases c with c | c
    · rw [c]
      exact Nat.le_succ _
    · rw [c]
      exact Nat.le_refl _
  exact I1.fpOk lb (I1.hok.fresh lb)
theorem walk_enT {K : PySem.W.Frag} {a : Addr} {xs : List V} : Walk (ItE K a) xs.length (fun H => SqT K H a xs) (YPair (fun i => some (.int (i : Nat))) (fun i => xs[i]?)) := by
  refine ⟨fun i _ hi q => ⟨xs, xs[i], q, List.getElem?_eq_getElem hi⟩, fun _ q => ⟨xs, q, Nat.le_refl _⟩, fun i H v H' _ q y => ?_⟩
  obtain ⟨U, x, h1, h2, h3, h4⟩ := y
  exact ⟨U, .int (i : Nat), x, h1, h2, h3, rfl, h4 xs q⟩
end K31
end
/-! part K31O -/
section
set_option Elab.async false
set_option linter.all false
set_option maxRecDepth 100000
set_option maxHeartbeats 4000000
/-! K31O: the law's walk for a fault. -/
namespace K31
open PySem PySem.Spec PyProof.Rows L2 TL
theorem in2c (v : W) : inV (.str v.str) [V.str "cash", V.str "times"] = (decide (v = .cash) || decide (v = .times)) := by cases v <;> decide +kernel
theorem in2n (v : W) : inV (.str v.str) [V.str "point", V.str "scaled"] = false := by cases v <;> decide +kernel
theorem ne_moved (v : W) : decide (V.str v.str = V.str "moved") = false := by cases v <;> decide +kernel
theorem ne_spread (v : W) : decide (V.str v.str = V.str "spread") = false := by cases v <;> decide +kernel
theorem ne_drawn (v : W) : decide (V.str v.str = V.str "drawn") = false := by cases v <;> decide +kernel
theorem no_sd (v : W) : valV ([(Sum.inr "spread", V.int 3), (Sum.inr "drawn", V.int 2)] : List (Key × V)) (Sum.inr v.str) = none := by
  have h1 : ¬ (Sum.inr "spread" : Key) = (Sum.inr v.str : Key) := by cases v <;> decide +kernel
  have h2 : ¬ (Sum.inr "drawn" : Key) = (Sum.inr v.str : Key) := by cases v <;> decide +kernel
  rw [valV_neg h1, valV_neg h2]
  rfl
section
variable {P : Program} {w : World} {K : PySem.W.Frag} {mg : Str → Option Value} {base : Heap} {a : Ad}
def spBounds (K : PySem.W.Frag) : Sp := fun vs H Q _ => ∃ v : W, vs = [.str v.str] ∧ ∀ (l : Addr) (ps : List Addr) H', Same H H' → H' l = some (.lst (ps.map V.ref)) → ps.length = (bounds v).length →
  (∀ (j : Nat) (p : Addr) (b : Int × Int), ps[j]? = some p → (bounds v)[j]? = some b → SqT K H' p [.int b.1, .int b.2]) → Q (.ref l) H'
theorem sc59 : FnScope ["word"] ["word"] (defScope (top 59)) := ⟨rfl, rfl, rfl, by decide +kernel, rfl, by decide +kernel, by decide +kernel⟩
theorem cl59 (T : Tx K mg w a) : Cl P w K mg base 1 "_law_bounds_of" (spBounds K) := by
  obtain ⟨f, fd, F, hm⟩ := T.d59.ex
  refine ⟨f, fd, ["word"], lift0 (F.ok sc59 (fun vs H Q E h => ?_) (fun cdv A outer s H vs Q E hr h => ?_)), hm, F.kp, F.binds fun _ _ _ _ _ _ us hl => match us, hl with | [_], _ => rfl⟩
  · obtain ⟨v, rfl, _⟩ := h
    rfl
  · obtain ⟨v, rfl, q⟩ := h
    refine ⟨_, (pss_cons (ps_if (pt_cmpR op_in_seq (pv 0) (pe_tup (pa_cons pe_str (pa_cons pe_str (pa_cons pe_str pa_nil)))) rfl) (pss_one (ps_ret (pe_lst (pa_cons (pe_tup (pa_cons pe_int (pa_cons pe_int pa_nil))) pa_nil)))) pss_nil)
      (pss_cons (ps_if (pt_cmpR op_in_seq (pv 0) (pe_tup (pa_cons pe_str (pa_cons pe_str (pa_cons pe_str pa_nil)))) rfl) (pss_one (ps_ret (pe_lst (pa_cons (pe_tup (pa_cons pe_int (pa_cons pe_int pa_nil))) (pa_cons (pe_tup (pa_cons (pe_un un_neg pe_int) (pa_cons pe_int pa_nil))) pa_nil))))) pss_nil)
      (pss_cons (ps_if (pt_cmpR op_in_seq (pv 0) (pe_tup (pa_cons pe_str (pa_cons pe_str pa_nil))) rfl) (pss_one (ps_ret (pe_lst (pa_cons (pe_tup (pa_cons (pe_un un_neg pe_int) (pa_cons pe_int pa_nil))) pa_nil)))) pss_nil)
      (pss_cons (ps_if (pt_cmpR op_in_seq (pv 0) (pe_tup (pa_cons pe_str (pa_cons pe_str pa_nil))) rfl) (pss_one (ps_ret (pe_op op_cat (pe_op op_rep (pe_lst (pa_cons (pe_tup (pa_cons (pe_un un_neg pe_int) (pa_cons pe_int pa_nil))) pa_nil)) (pe_callTy call_int1 (by rfl) T.nInt boot_int (pa_cons (pe_cmpR op_eq (pv 0) pe_str (nomark _)) pa_nil))) (pe_lst (pa_cons (pe_tup (pa_cons pe_int (pa_cons pe_int pa_nil))) (pa_cons (pe_tup (pa_cons pe_int (pa_cons pe_int pa_nil))) pa_nil)))))) pss_nil)
      (pss_one (ps_ret (pe_ifExp (pt_cmpR op_eq (pv 0) pe_str (nomark _)) (pe_lst (pa_cons (pe_tup (pa_cons (pe_un un_neg pe_int) (pa_cons pe_int pa_nil))) pa_nil)) (pe_op op_rep (pe_lst (pa_cons (pe_tup (pa_cons (pe_un un_neg pe_int) (pa_cons pe_int pa_nil))) pa_nil)) (pe_callTy call_int1 (by rfl) T.nInt boot_int (pa_cons (pe_dget2 (hu_of hr) (pe_disp (pps_cons pe_str pe_int (pps_cons pe_str pe_int pps_nil)) (by rfl) (by rfl) (fun z => by cases z) (by decide)) (pv 0) pe_int ⟨rfl, rfl, rfl, rfl⟩) pa_nil)))))))))), ?_⟩
    refine ⟨_, rfl, (by show 3 ≤ sizeLine; decide), fun p1 hp1 => ⟨p1, _, rfl, .inr (SqT.of upd_same), rfl, (by decide +kernel), _, rfl, ?_⟩⟩
    show (if inV (.str v.str) [V.str "at", V.str "lowest", V.str "highest"] = true then _ else _)
    have s1 := same_upd (o := HO.tup [V.str "at", V.str "lowest", V.str "highest"]) hp1
    rw [in3]
    refine bl_cases (fun c => ?_) (fun c1 => ?_)
    · have hb : bounds v = [(0, 3)] := by
        revert c
        cases v <;> first | (intro c; exact absurd c (by decide)) | (intro _; rfl)
      refine ⟨(by show 2 ≤ sizeLine; decide), fun x hx => ⟨(by show 1 ≤ sizeLine; decide), fun l hl => ?_⟩⟩
      have s2 := same_upd (o := HO.tup [V.int 0, V.int 3]) hx
      have s3 := same_upd (o := HO.lst [V.ref x]) hl
      refine q l [x] _ (s1.trans (s2.trans s3)) upd_same (by rw [hb]; rfl) fun j p b e1 e2 => ?_
      rw [hb] at e2
      cases j with
      | zero =>
        cases e1
        cases e2
        exact SqT.of (s3 _ _ upd_same)
      | succ j => cases e1
    refine ⟨_, rfl, (by show 3 ≤ sizeLine; decide), fun p2 hp2 => ⟨p2, _, rfl, .inr (SqT.of upd_same), rfl, (by decide +kernel), _, rfl, ?_⟩⟩
    show (if inV (.str v.str) [V.str "above", V.str "below", V.str "if"] = true then _ else _)
    have s2 := same_upd (o := HO.tup [V.str "above", V.str "below", V.str "if"]) hp2
    rw [in3b]
    refine bl_cases (fun c => ?_) (fun c2 => ?_)
    · have hb : bounds v = [(0, 3), (-1000, 1000)] := by
        revert c
        cases v <;> first | (intro c; exact absurd c (by decide)) | (intro _; rfl)
      refine ⟨(by show 2 ≤ sizeLine; decide), fun x hx => ⟨_, rfl, (by show 2 ≤ sizeLine; decide), fun y hy => ⟨(by show 2 ≤ sizeLine; decide), fun l hl => ?_⟩⟩⟩
      have s3 := same_upd (o := HO.tup [V.int 0, V.int 3]) hx
      have s4 := same_upd (o := HO.tup [V.int (-1000), V.int 1000]) hy
      have s5 := same_upd (o := HO.lst [V.ref x, V.ref y]) hl
      refine q l [x, y] _ (s1.trans (s2.trans (s3.trans (s4.trans s5)))) upd_same (by rw [hb]; rfl) fun j p b e1 e2 => ?_
      rw [hb] at e2
      match j, e1, e2 with
      | 0, e1, e2 =>
        cases e1
        cases e2
        exact SqT.of ((s4.trans s5) _ _ upd_same)
      | 1, e1, e2 =>
        cases e1
        cases e2
        exact SqT.of (s5 _ _ upd_same)
      | j + 2, e1, e2 => cases e1
    refine ⟨_, rfl, (by show 2 ≤ sizeLine; decide), fun p3 hp3 => ⟨p3, _, rfl, .inr (SqT.of upd_same), rfl, (by decide +kernel), _, rfl, ?_⟩⟩
    show (if inV (.str v.str) [V.str "cash", V.str "times"] = true then _ else _)
    have s3 := same_upd (o := HO.tup [V.str "cash", V.str "times"]) hp3
    rw [in2c]
    refine bl_cases (fun c => ?_) (fun c3 => ?_)
    · have hb : bounds v = [(-1000, 1000)] := by
        revert c
        cases v <;> first | (intro c; exact absurd c (by decide)) | (intro _; rfl)
      refine ⟨_, rfl, (by show 2 ≤ sizeLine; decide), fun x hx => ⟨(by show 1 ≤ sizeLine; decide), fun l hl => ?_⟩⟩
      have s4 := same_upd (o := HO.tup [V.int (-1000), V.int 1000]) hx
      have s5 := same_upd (o := HO.lst [V.ref x]) hl
      refine q l [x] _ (s1.trans (s2.trans (s3.trans (s4.trans s5)))) upd_same (by rw [hb]; rfl) fun j p b e1 e2 => ?_
      rw [hb] at e2
      cases j with
      | zero =>
        cases e1
        cases e2
        exact SqT.of (s5 _ _ upd_same)
      | succ j => cases e1
    have hb : bounds v = [] := by
      revert c1 c2 c3
      cases v <;> first | (intro c; exact absurd c (by decide)) | (intro _ c; exact absurd c (by decide)) | (intro _ _ c; exact absurd c (by decide)) | (intro _ _ _; rfl)
    refine ⟨_, rfl, (by show 2 ≤ sizeLine; decide), fun p4 hp4 => ⟨p4, _, rfl, .inr (SqT.of upd_same), rfl, (by decide +kernel), _, rfl, ?_⟩⟩
    show (if inV (.str v.str) [V.str "point", V.str "scaled"] = true then _ else _)
    have s4 := same_upd (o := HO.tup [V.str "point", V.str "scaled"]) hp4
    rw [in2n]
    refine iteF ⟨_, rfl, rfl, _, rfl, ?_⟩
    rw [ne_moved]
    refine iteF ⟨_, rfl, (by show 2 ≤ sizeLine; decide), fun x hx => ⟨(by show 1 ≤ sizeLine; decide), fun l hl => ?_⟩⟩
    have s5 := same_upd (o := HO.tup [V.int (-100), V.int 100]) hx
    have s6 := same_upd (o := HO.lst [V.ref x]) hl
    intro d hd
    have s7 := same_upd (o := HO.dK []) hd
    refine ⟨upd_same, [(Sum.inr "spread", V.int 3), (Sum.inr "drawn", V.int 2)], rfl, (by show 2 ≤ 15; decide), ?_⟩
    have em : mergeK [] ([(Sum.inr "spread", V.int 3), (Sum.inr "drawn", V.int 2)] : List (Key × V)) = ([(Sum.inr "spread", V.int 3), (Sum.inr "drawn", V.int 2)] : List (Key × V)) := mergeK_new _ [] (show ([Sum.inr "spread", Sum.inr "drawn"] : List Key).Nodup by decide +kernel)
    rw [em]
    have hdl : l ≠ d := ne_of_none upd_same hd
    refine ⟨d, rfl, .inl ⟨_, .inl upd_same⟩, _, rfl, _, DGet.k (k := Sum.inr v.str) upd_same, ?_⟩
    rw [no_sd]
    refine .inl ⟨0, rfl, l, 0, [V.ref x], rfl, rfl, ?_, by decide, by decide, (by show 1 * 0 ≤ sizeLine; decide), fun z hz => ?_⟩
    · rw [upd_ne hdl]
      exact s7 _ _ upd_same
    · refine q z [] _ (fun b u e => ?_) upd_same (by rw [hb]; rfl) fun j p b e1 _ => (by cases e1)
      have e2 := (s1.trans (s2.trans (s3.trans (s4.trans (s5.trans s6))))) _ _ e
      exact same_upd hz _ _ (by rw [upd_ne (ne_of_none e2 hd), upd_ne (ne_of_none e2 hd)]; exact e2)
theorem bounds_len (v : W) : (bounds v).length = v.ni := by cases v <;> rfl
theorem own_no {v : W} {is : List Int} {j : Nat} {z : Int} {b : Int × Int} (h1 : is[j]? = some z) (h2 : (bounds v)[j]? = some b) (h : within (z, b) = false) : own v is = false := by
  cases e : own v is with
  | false => rfl
  | true =>
    unfold own at e
    rw [List.all_eq_true] at e
    have y := e (z, b) (List.mem_of_getElem? (i := j) (by rw [List.getElem?_zip_eq_some]; exact ⟨h1, h2⟩))
    rw [h] at y
    cases y
theorem own_yes {v : W} {is : List Int} (h : ∀ (j : Nat) (z : Int) (b : Int × Int), is[j]? = some z → (bounds v)[j]? = some b → within (z, b) = true) : own v is = true := by
  unfold own
  rw [List.all_eq_true]
  intro y hy
  obtain ⟨j, hj⟩ := List.getElem?_of_mem hy
  rw [List.getElem?_zip_eq_some] at hj
  exact h j y.1 y.2 hj.1 hj.2
def spGood (K : PySem.W.Frag) : Sp := fun vs H Q _ => ∃ (p : Addr) (v : W) (is : List Int) (ks : List V), vs = [.ref p] ∧ SqT K H p (vlay v is ks) ∧ is.length = v.ni ∧ ks.length = v.nk ∧ Parts K H ks ∧ ∀ H', Same H H' → Q (.bl (own v is)) H'
theorem sc60 : FnScope ["thing", "some", "one", "low", "high"] ["thing"] (defScope (top 60)) := ⟨rfl, rfl, rfl, by decide +kernel, rfl, by decide +kernel, by decide +kernel⟩
theorem cl60 (T : Tx K mg w a) : Cl P w K mg base 3 "_law_are_good" (spGood K) := by
  obtain ⟨f, fd, F, hm⟩ := T.d60.ex
  refine ⟨f, fd, ["thing"], lift0 (F.ok sc60 (fun vs H Q E h => ?_) (fun cdv A outer s H vs Q E hr h => ?_)), hm, F.kp, F.binds fun _ _ _ _ _ _ us hl => match us, hl with | [_], _ => rfl⟩
  · obtain ⟨p, v, is, ks, rfl, _⟩ := h
    rfl
  · obtain ⟨p, v, is, ks, rfl, hp, li, lk, hk, q⟩ := h
    have n1 := v.ni_le
    have n2 := v.nk_le
    refine ⟨_, (pss_cons (ps_set (i := 1) sc60.nd rfl (Or.inl rfl) (pe_cl (cl55 T) (hr.mono (by decide)) rfl passL (pa_cons (pv 0) pa_nil)))
      (pss_cons (ps_for PassesOwn.never rfl (pi_zip rfl T.nZip (pa_cons (pv 1) (pa_cons (pe_cl (cl59 T) (hr.mono (by decide)) rfl passL (pa_cons (pe_ix ix_tup (pv 0) pe_int (fun _ _ => rfl)) pa_nil)) pa_nil))) (pg_tup rfl (pgs_cons (pg_name (i := 2) sc60.nd rfl (Or.inl rfl)) (pgs_cons (pg_tup rfl (pgs_cons (pg_name (i := 3) sc60.nd rfl (Or.inl rfl)) (pgs_cons (pg_name (i := 4) sc60.nd rfl (Or.inl rfl)) pgs_nil))) pgs_nil))) (pss_one (ps_if (pt_not (pt_chain op_le op_le (pv 3) (pv 2) (pv 4))) (pss_one (ps_ret pe_bl)) pss_nil)))
      (pss_cons (ps_if (pt_cmpR op_eq (pe_ix ix_tup (pv 0) pe_int (fun _ _ => rfl)) pe_str (nomark _)) (pss_one (ps_ret (pe_chain op_lt op_lt (pe_ix ix_list (pv 1) pe_int (fun _ _ => rfl)) (pe_ix ix_list (pv 1) pe_int (fun _ _ => rfl)) (pe_ix ix_list (pv 1) pe_int (fun _ _ => rfl))))) pss_nil)
      (pss_one (ps_ret (pe_or (pe_cmpR op_ne (pe_ix ix_tup (pv 0) pe_int (fun _ _ => rfl)) pe_str (nomark _)) (pe_one (pe_cmpR op_le (pe_ix ix_list (pv 1) pe_int (fun _ _ => rfl)) (pe_ix ix_list (pv 1) pe_int (fun _ _ => rfl)) (nomark _))))))))), ?_⟩
    refine ⟨_, rfl, p, v, is, ks, rfl, hp, by omega, by omega, hk, fun l1 H1 s1 hl1 => ?_⟩
    refine ⟨_, rfl, _, rfl, p, _, _, _, rfl, rfl, same_sqT s1 hp, vlay_at (j := 0) rfl, v, rfl, fun l2 ps H2 s2 hl2 lps hps => ?_⟩
    have s12 := s1.trans s2
    refine ⟨l1, l2, _, _, rfl, SqL.of (s2 _ _ hl1), SqL.of hl2, ?_⟩
    refine RZ.for_zipL (xs := is.map V.int) (ys := ps.map V.ref) (by rw [List.length_map, List.length_map, li, lps, bounds_len]) (fun i σ H' => ∃ x2 x3 x4, σ = [some (.ref p), some (.ref l1), x2, x3, x4] ∧ Same H2 H' ∧
        ∀ (j : Nat) (z : Int) (b : Int × Int), j < i → is[j]? = some z → (bounds v)[j]? = some b → within (z, b) = true) ⟨none, none, none, rfl, Same.refl _, fun j z b hj => absurd hj (Nat.not_lt_zero _)⟩
      (fun i σ H' I => ?_) (fun i x y U σ H' hx hy I hU => ?_) (fun σ H' I => ?_)
    · obtain ⟨_, _, _, _, s3, _⟩ := I
      exact ⟨SqL.of (s3 _ _ (s2 _ _ hl1)), SqL.of (s3 _ _ hl2)⟩
    · obtain ⟨x2, x3, x4, rfl, s3, hw⟩ := I
      rw [List.getElem?_map, Option.map_eq_some_iff] at hx hy
      obtain ⟨z, hz, rfl⟩ := hx
      obtain ⟨pb, hpb, rfl⟩ := hy
      have lb : i < (bounds v).length := by
        rw [← lps]
        exact (List.getElem?_eq_some_iff.mp hpb).1
      have hb : (bounds v)[i]? = some (bounds v)[i] := List.getElem?_eq_getElem lb
      generalize (bounds v)[i] = b at hb
      have s4 := same_upd (o := HO.tup [V.int z, V.ref pb]) hU
      have sq := same_sqT (s3.trans s4) (hps i pb b hpb hb)
      refine ⟨U, _, rfl, SqT.of upd_same, rfl, _, _, rfl, _, _, rfl, pb, _, rfl, sq, rfl, _, _, rfl, _, _, rfl, rfl, rfl, ?_⟩
      have wt : within (z, b) = (decide (b.1 ≤ z) && decide (z ≤ b.2)) := rfl
      have no : within (z, b) = false → Q (.bl false) (upd H' U (.tup [V.int z, V.ref pb])) := fun e => by
        have y := q _ (s12.trans (s3.trans s4))
        rw [own_no hz hb e] at y
        exact y
      refine ⟨_, rfl, _, rfl, _, _, rfl, rfl, _, rfl, ?_⟩
      refine bl_cases (fun c => ?_) (fun c => ?_)
      · refine ⟨_, rfl, _, _, rfl, rfl, _, rfl, ?_⟩
        cases c2 : decide (z ≤ b.2) with
        | false =>
          refine iteT ?_
          exact no (by rw [wt, c, c2]; rfl)
        | true =>
          refine iteF ⟨some (.int z), some (.int b.1), some (.int b.2), rfl, s3.trans s4, fun j z' b' hj e1 e2 => ?_⟩
          rcases Nat.lt_or_ge j i with l | l
          · exact hw j z' b' l e1 e2
          · have : j = i := by omega
            subst this
            rw [hz] at e1
            rw [hb] at e2
            cases e1
            cases e2
            rw [wt, c, c2]
            rfl
      · refine ⟨_, rfl, iteT ?_⟩
        exact no (by rw [wt, c]; rfl)
    · obtain ⟨x2, x3, x4, rfl, s3, hw⟩ := I
      rw [List.length_map] at hw
      have oy : own v is = true := own_yes fun j z b e1 e2 => hw j z b (List.getElem?_eq_some_iff.mp e1).1 e1 e2
      rw [oy] at q
      have hp3 := same_sqT (s12.trans s3) hp
      refine ⟨_, rfl, p, _, _, _, rfl, rfl, hp3, vlay_at (j := 0) rfl, rfl, _, rfl, ?_⟩
      rw [ne_spread]
      refine iteF ⟨_, rfl, p, _, _, _, rfl, rfl, hp3, vlay_at (j := 0) rfl, rfl, true, ?_, iteT (q _ (s12.trans s3))⟩
      rw [ne_drawn]
      rfl
theorem range_pl (v : W) : (List.range (v.ni + v.nk + 1)).filter (fun k => decide (k ∈ v.pl)) = v.pl := by cases v <;> decide
def spPlaces2 (K : PySem.W.Frag) : Sp := fun vs H Q _ => ∃ (p : Addr) (v : W) (is : List Int) (ks : List V), vs = [.ref p] ∧ SqT K H p (vlay v is ks) ∧ is.length = v.ni ∧ ks.length = v.nk ∧ Parts K H ks ∧ ∀ l H', Same H H' → H' l = some (.lst ((pz v.pl).map V.int)) → Q (.ref l) H'
theorem sc61 : FnScope ["thing", "at", "one"] ["thing"] (defScope (top 61)) := ⟨rfl, rfl, rfl, by decide +kernel, rfl, by decide +kernel, by decide +kernel⟩
theorem cl61 (T : Tx K mg w a) : Cl P w K mg base 1 "_law_places" (spPlaces2 K) := by
  obtain ⟨f, fd, F, hm⟩ := T.d61.ex
  refine ⟨f, fd, ["thing"], lift0 (F.ok sc61 (fun vs H Q E h => ?_) (fun cdv A outer s H vs Q E hr h => ?_)), hm, F.kp, F.binds fun _ _ _ _ _ _ us hl => match us, hl with | [_], _ => rfl⟩
  · obtain ⟨p, v, is, ks, rfl, _⟩ := h
    rfl
  · obtain ⟨p, v, is, ks, rfl, hp, li, lk, hk, q⟩ := h
    have n1 := v.ni_le
    have n2 := v.nk_le
    have sz : (vlay v is ks).length = v.ni + v.nk + 1 := by rw [vlay_length, li, lk]
    refine ⟨_, (pss_one (ps_ret (pe_lc (own := [("at", 1), ("one", 2)]) (g := gTup K 2 (gCons (gName 1) (gCons (gName 2) (gNil)))) rfl sc61.nd (pi_enumT rfl T.nEnum (pa_cons (pv 0) pa_nil)) (blkOk_by (own := [("at", 1), ("one", 2)]) (N := ["thing", "at", "one"]) (sc := defScope (top 61)) (by decide +kernel)) (fun _ _ _ _ _ => (pg_tup rfl (pgs_cons (pg_name (i := 1) sc61.nd rfl (Or.inl rfl)) (pgs_cons (pg_name (i := 2) sc61.nd rfl (Or.inl rfl)) pgs_nil)))) (fun _ _ _ _ _ => (pts_one (pt_val (pe_callB (call_isi : CallR _ (.builtin "isinstance") (rIsi K)) (by rfl) T.nIsi boot_isinstance (pa_cons (pv 2) (pa_cons (pe_bltn (v := .ty "tuple") (by rfl) T.nTuple boot_tuple rfl) pa_nil)))))) (fun _ _ _ _ _ => (pv 1))))), ?_⟩
    refine ⟨_, rfl, p, _, rfl, hp, fun D hD => ?_⟩
    refine lc_it (walk_enT (xs := vlay v is ks)) (fun i H' => Same H H' ∧ H' D = some (.lst ((pz ((List.range i).filter fun k => decide (k ∈ v.pl))).map V.int))) ⟨same_upd hD, upd_same⟩ (fun i H' _ Z => same_sqT Z.1 hp) (fun i x H1 H2 hi Z Y => ?_) (fun H' Z => ?_)
    · obtain ⟨s1, hD1⟩ := Z
      obtain ⟨U, x1, y, rfl, hU, rfl, e1, e2⟩ := Y
      injection e1 with e1
      subst e1
      have e2 : (vlay v is ks)[i]? = some y := e2
      have s2 := same_upd (o := HO.tup [V.int ((i : Nat) : Int), y]) hU
      have hD2 := s2 _ _ hD1
      refine ⟨U, _, rfl, SqT.of upd_same, rfl, _, _, rfl, _, _, rfl, rfl, rfl, _, rfl, ?_⟩
      rw [sz] at hi
      by_cases m : i ∈ v.pl
      · obtain ⟨j, hj⟩ := pl_ix m
        have hat := vlay_pl li lk hj
        rw [e2] at hat
        obtain ⟨q2, ys, rfl, hq2⟩ := (hk.same (s1.trans s2)) y (List.mem_of_getElem? hat.symm)
        refine ⟨_, _, _, _, true, rfl, .ty "tuple", tyx_T hq2, kit_ty (by decide +kernel), true, rfl, iteT ⟨_, rfl, _, hD2, ?_, fun b u e => ?_, ?_⟩⟩
        · rw [pz_len]
          have z := List.length_filter_le (fun k => decide (k ∈ v.pl)) (List.range i)
          rw [List.length_range] at z
          have : sizeLine = 16777216 := rfl
          omega
        · rw [upd_ne (ne_of_none e hD)]
          exact s2 _ _ (s1 _ _ e)
        · rw [upd_same, List.range_succ, List.filter_append]
          have ef : [i].filter (fun k => decide (k ∈ v.pl)) = [i] := by simp [m]
          rw [ef, pz_app]
      · have ef : [i].filter (fun k => decide (k ∈ v.pl)) = [] := by simp [m]
        have fin : Same H (upd H1 U (.tup [V.int ((i : Nat) : Int), y])) ∧ upd H1 U (.tup [V.int ((i : Nat) : Int), y]) D = some (.lst ((pz ((List.range (i + 1)).filter fun k => decide (k ∈ v.pl))).map V.int)) := by
          refine ⟨s1.trans s2, ?_⟩
          rw [List.range_succ, List.filter_append, ef, List.append_nil]
          exact hD2
        rcases fAt_out li lk (ks := ks) hi m with ⟨z, e3, _⟩ | ⟨z, _, e3, _⟩
        · rw [e2] at e3
          injection e3 with e3
          subst e3
          exact ⟨_, _, _, _, false, rfl, .ty "tuple", .base (.str _), kit_ty (by decide +kernel), false, rfl, iteF fin⟩
        · rw [e2] at e3
          injection e3 with e3
          subst e3
          exact ⟨_, _, _, _, false, rfl, .ty "tuple", .base (.int _), kit_ty (by decide +kernel), false, rfl, iteF fin⟩
    · obtain ⟨s1, hD1⟩ := Z
      rw [sz, range_pl] at hD1
      exact q D H' s1 hD1
def spFault (K : PySem.W.Frag) : Sp := fun vs H Q _ => ∃ (v : V) (t : Tm), vs = [v] ∧ TV K H v t ∧ t.Sh ∧ t.depth ≤ 50 ∧ t.nodes ≤ 20 ∧ (walk [] t = none → ∀ (l : Addr) H', Same H H' → H' l = some (.lst []) → Q (.ref l) H') ∧
  (∀ p, walk [] t = some p → ∀ (l q : Addr) H', Same H H' → H' l = some (.lst [.ref q]) → SqT K H' q ((pz p).map V.int) → Q (.ref l) H')
theorem sc62 : FnScope ["thing", "waiting", "path", "here", "at"] ["thing"] (defScope (top 62)) := ⟨rfl, rfl, rfl, by decide +kernel, rfl, by decide +kernel, by decide +kernel⟩
structure FT (K : PySem.W.Frag) (H : Hp) (t : Tm) (wa : Addr) (M : List (List Nat × Tm)) (its : List V) (H' : Hp) : Prop where
  same : Same H H'
  nw : H wa = none
  hw : H' wa = some (.lst its)
  dp : DpAll K H' its (M.reverse.map pd)
  cnt : nodesAll M ≤ 20
  ok : ∀ z ∈ M, z.2.Sh ∧ z.2.depth ≤ 50
  wk : walkAll M = walk [] t
theorem FT.up {K : PySem.W.Frag} {H : Hp} {t : Tm} {wa : Addr} {M : List (List Nat × Tm)} {its : List V} {H' : Hp} {q : Addr} {o : HO} (I : FT K H t wa M its H') (h : H' q = none) : FT K H t wa M its (upd H' q o) := by
  have s := same_upd (o := o) h
  exact ⟨I.same.trans s, I.nw, s _ _ I.hw, dp_monoAll s _ _ I.dp, I.cnt, I.ok, I.wk⟩
theorem cl62 (T : Tx K mg w a) : Cl P w K mg base 4 "_law_fault" (spFault K) := by
  obtain ⟨f, fd, F, hm⟩ := T.d62.ex
  refine ⟨f, fd, ["thing"], lift0 (F.ok sc62 (fun vs H Q E h => ?_) (fun cdv A outer s H vs Q E hr h => ?_)), hm, F.kp, F.binds fun _ _ _ _ _ _ us hl => match us, hl with | [_], _ => rfl⟩
  · obtain ⟨v, t, rfl, _⟩ := h
    rfl
  · obtain ⟨v, t, rfl, hT, hS, hD, hN, k, ke⟩ := h
    refine ⟨_, (pss_cons (ps_set (i := 1) sc62.nd rfl (Or.inl rfl) (pe_lst (pa_cons (pe_tup (pa_cons (pe_tup pa_nil) (pa_cons (pv 0) pa_nil))) pa_nil)))
      (pss_cons (ps_while PassesOwn.never (pt_cmpR (op_neD (hu64 hr)) (pv 1) (pe_lst pa_nil) (nomark _)) (pss_cons (ps_asg (pe_bm0 PySem.F.plainAttrs_list PySem.F.slot_list_pop PySem.F.type_list_pop mt_pop (pv 1)) (pg_tup rfl (pgs_cons (pg_name (i := 2) sc62.nd rfl (Or.inr rfl)) (pgs_cons (pg_name (i := 3) sc62.nd rfl (Or.inr rfl)) pgs_nil))))
      (pss_cons (ps_if (pt_cmpR op_ge (pe_callB call_len (by rfl) T.nLen PySem.boot_len (pa_cons (pv 2) pa_nil)) pe_int (nomark _)) (pss_one (ps_ret (pe_lst (pa_cons (pe_tup pa_nil) pa_nil)))) pss_nil)
      (pss_cons (ps_if (pt_not (pt_val (pe_cl (cl60 T) (hr.mono (by decide)) rfl passL (pa_cons (pv 3) pa_nil)))) (pss_one (ps_ret (pe_lst (pa_cons (pv 2) pa_nil)))) pss_nil)
      (pss_one (ps_set (i := 1) sc62.nd rfl (Or.inl rfl) (pe_op op_cat (pv 1) (pe_lc (own := [("at", 4)]) (g := gName 4) rfl sc62.nd (pi_list (pe_revL (pe_cl (cl61 T) (hr.mono (by decide)) rfl passL (pa_cons (pv 3) pa_nil)))) (blkOk_by (own := [("at", 4)]) (N := ["thing", "waiting", "path", "here", "at"]) (sc := defScope (top 62)) (by decide +kernel)) (fun _ _ _ _ _ => (pg_name (i := 4) sc62.nd rfl (Or.inl rfl))) (fun _ _ _ _ _ => pts_nil) (fun _ _ _ _ _ => (pe_tup (pa_cons (pe_op (op_catA : OpR _ (binaryOp .Add) (rCatA K)) (pv 2) (pe_tup (pa_cons (pv 4) pa_nil))) (pa_cons (pe_ix (ix_tup : IxR _ (rIxT K)) (pv 3) (pv 4) (fun _ _ => rfl)) pa_nil))))))))))))
      (pss_one (ps_ret (pe_lst pa_nil))))), ?_⟩
    refine ⟨Nat.zero_le _, fun q0 hq0 => ⟨_, rfl, (by show 2 ≤ sizeLine; decide), fun q1 hq1 => ⟨(by show 1 ≤ sizeLine; decide), fun wa hwa => ?_⟩⟩⟩
    have s2 := same_upd (o := HO.tup []) hq0
    have s3 := same_upd (o := HO.tup [V.ref q0, v]) hq1
    have s4 := same_upd (o := HO.lst [V.ref q1]) hwa
    have m0 : FT K H t wa [([], t)] [V.ref q1] (upd (upd (upd H q0 (.tup [])) q1 (.tup [V.ref q0, v])) wa (.lst [V.ref q1])) := by
      refine ⟨s2.trans (s3.trans s4), ?_, upd_same, ?_, ?_, fun z hz => ?_, walkAll_one t⟩
      · cases e : H wa with
        | none => rfl
        | some u => exact absurd ((s2.trans s3) _ _ e) (by rw [hwa]; intro z; cases z)
      · refine .cons (.tup (SqT.of (s4 _ _ upd_same)) (.cons (.tup (SqT.of ((s3.trans s4) _ _ upd_same)) .nil) (.cons ?_ .nil))) .nil
        exact TV.mono (s2.trans (s3.trans s4)) hT
      · show t.nodes + 0 ≤ 20
        omega
      · have e : z = ([], t) := by simpa using hz
        subst e
        exact ⟨hS, hD⟩
    refine ⟨fun m σ H' => ∃ M its wa x2 x3 x4, σ = [some v, some (.ref wa), x2, x3, x4] ∧ m = nodesAll M ∧ FT K H t wa M its H', ⟨_, _, _, wa, none, none, none, rfl, rfl, m0⟩, ?_⟩
    clear m0 s4 s3 s2 hwa hq1 hq0
    rintro m σ H1 ⟨M, its, wa, x2, x3, x4, rfl, rfl, I⟩
    refine ⟨_, rfl, Nat.zero_le _, fun q2 hq2 => ?_⟩
    have I := I.up (o := .lst []) hq2
    refine ⟨.list (M.reverse.map pd), .list [], .lst (SqL.of I.hw) I.dp, .lst (SqL.of upd_same) .nil, shaped_pds (fun z hz => ?_), rfl, _, rfl, ?_⟩
    · have := (I.ok z (List.mem_reverse.mp hz)).2
      omega
    rw [eqv_nil]
    cases M with
    | nil =>
      refine iteF ⟨Nat.zero_le _, fun l hl => ?_⟩
      exact k I.wk.symm l _ (I.same.trans (same_upd hl)) upd_same
    | cons z r =>
      obtain ⟨p, t1⟩ := z
      have e1 : ((((p, t1) :: r).reverse.map pd).isEmpty) = false := by simp
      rw [e1]
      refine iteT ?_
      have dp := I.dp
      rw [List.reverse_cons, List.map_append] at dp
      obtain ⟨its1, y, rfl, d1, d2⟩ := dp_split dp
      have ey : ∃ b pa h1, y = [V.ref b] ∧ SqT K (upd H1 q2 (.lst [])) b [V.ref pa, h1] ∧ SqT K (upd H1 q2 (.lst [])) pa ((pz p).map V.int) ∧ TV K (upd H1 q2 (.lst [])) h1 t1 := by
        cases d2 with
        | cons e f =>
          cases f
          cases e with
          | tup hb hc =>
            cases hc with
            | cons g1 g2 =>
              cases g2 with
              | cons g3 g4 =>
                cases g4
                cases g1 with
                | tup i1 i2 =>
                  rw [dp_ints_inv i2] at i1
                  exact ⟨_, _, _, rfl, hb, i1, g3⟩
      obtain ⟨b, pa, h1, rfl, hb, hpa, hh⟩ := ey
      refine ⟨fun σ' H' => ∃ M its wa x2 x3 x4, σ' = [some v, some (.ref wa), x2, x3, x4] ∧ nodesAll M < nodesAll ((p, t1) :: r) ∧ FT K H t wa M its H', ?_, ?_⟩
      · rintro σ' H' ⟨M, its, wa, x2, x3, x4, rfl, l, I⟩
        exact ⟨_, l, M, its, wa, x2, x3, x4, rfl, rfl, I⟩
      generalize hH2 : upd H1 q2 (.lst []) = H2 at *
      have hlast : (its1 ++ [V.ref b])[(its1 ++ [V.ref b]).length - 1]? = some (.ref b) := by simp
      refine ⟨_, rfl, .inl ⟨rfl, _, SqL.of I.hw⟩, wa, _, _, rfl, rfl, I.hw, hlast, ?_⟩
      rw [List.dropLast_concat]
      have g3 : Grw H2 (upd H2 wa (.lst its1)) := Grw.lst I.hw rfl
      have same3 : Same H (upd H2 wa (.lst its1)) := fun x u e => by
        rw [upd_ne (ne_of_none e I.nw)]
        exact I.same _ _ e
      have hw3 : upd H2 wa (.lst its1) wa = some (.lst its1) := upd_same
      refine ⟨b, _, rfl, g3.sqT hb, rfl, _, _, rfl, _, _, rfl, rfl, ?_⟩
      have d13 := Grw.dpAll g3 _ _ (noLs_pd _) d1
      have hpa3 := g3.sqT hpa
      have hh3 := Grw.dp g3 _ _ (noL_data t1) hh
      generalize upd H2 wa (.lst its1) = H3 at *
      have ok1 : t1.Sh ∧ t1.depth ≤ 50 := I.ok (p, t1) List.mem_cons_self
      have cnt1 := I.cnt
      have cnt2 : nodesAll (laid p t1 ++ r) + 1 = nodesAll ((p, t1) :: r) := nodesAll_laid ok1.1
      have wk1 := I.wk
      have ok2 : ∀ z ∈ laid p t1 ++ r, z.2.Sh ∧ z.2.depth ≤ 50 := fun z hz => by
        rcases List.mem_append.mp hz with m | m
        · have := laid_ok ok1.1 m
          exact ⟨this.1, by have := ok1.2; omega⟩
        · exact I.ok z (List.mem_cons_of_mem _ m)
      clear I hb hpa hh d1 d2 dp g3 e1
      -- len(path) >= 8
      refine ⟨_, rfl, _, _, rfl, .inr ⟨_, hpa3, rfl⟩, _, _, rfl, rfl, _, rfl, ?_⟩
      rw [pz_len]
      refine bl_cases (fun c => ?_) (fun c => ?_)
      · have c8 : 8 ≤ p.length := by
          have := of_decide_eq_true c
          omega
        rw [walkAll_deep c8] at wk1
        refine ⟨Nat.zero_le _, fun q hq => ⟨(by show 1 ≤ sizeLine; decide), fun l hl => ?_⟩⟩
        have s5 := same_upd (o := HO.tup []) hq
        have s6 := same_upd (o := HO.lst [V.ref q]) hl
        exact ke [] wk1.symm l q _ (same3.trans (s5.trans s6)) upd_same (SqT.of (s6 _ _ upd_same))
      have c8 : ¬ 8 ≤ p.length := by
        have := of_decide_eq_false c
        omega
      obtain ⟨hp, ks, rfl, hhp, hks⟩ := TV.inv hh3
      have ls := ok1.1.lens
      have lk : ks.length = t1.w.nk := by rw [dpAll_len hks, List.length_map, ls.2]
      -- are_good
      refine ⟨_, rfl, hp, t1.w, t1.is, ks, rfl, hhp, ls.1, lk, Parts.of hks, fun H4 s4 => ⟨_, rfl, ?_⟩⟩
      cases own1 : own t1.w t1.is with
      | false =>
        refine iteT ⟨_, rfl, (by show 1 ≤ sizeLine; decide), fun l hl => ?_⟩
        rw [walkAll_bad c8 own1] at wk1
        have s5 := same_upd (o := HO.lst [V.ref pa]) hl
        exact ke p wk1.symm l pa _ (same3.trans (s4.trans s5)) upd_same (same_sqT (s4.trans s5) hpa3)
      | true =>
      refine iteF ?_
      rw [walkAll_good ok1.1 c8 own1] at wk1
      -- waiting = waiting + [..]
      refine ⟨_, rfl, _, rfl, hp, t1.w, t1.is, ks, rfl, same_sqT s4 hhp, ls.1, lk, (Parts.of hks).same s4, fun lp H5 s5 hlp => ⟨lp, _, rfl, SqL.of hlp, fun lr hlr => ⟨lr, rfl, ⟨_, SqL.of upd_same⟩, fun D hD => ?_⟩⟩⟩
      have s6 := same_upd (o := HO.lst ((pz t1.w.pl).map V.int).reverse) hlr
      have hlr6 : upd H5 lr (.lst ((pz t1.w.pl).map V.int).reverse) lr = some (.lst ((pz t1.w.pl).map V.int).reverse) := upd_same
      have s36 : Same H3 (upd H5 lr (.lst ((pz t1.w.pl).map V.int).reverse)) := s4.trans (s5.trans s6)
      generalize upd H5 lr (.lst ((pz t1.w.pl).map V.int).reverse) = H6 at *
      refine lc_list (xs := ((pz t1.w.pl).map V.int).reverse) (fun i H' => ∃ acc, Same H6 H' ∧ H' D = some (.lst acc) ∧ DpAll K H' acc (((laid p t1).reverse.take i).map pd)) ⟨[], same_upd hD, upd_same, .nil⟩ (fun i H' _ Z => ?_) (fun i x H' hx Z => ?_) (fun H' Z => ?_)
      · obtain ⟨_, s7, _⟩ := Z
        exact SqL.of (s7 _ _ hlr6)
      · obtain ⟨acc, s7, hD7, da⟩ := Z
        have hi : i < t1.w.pl.length := by
          have := (List.getElem?_eq_some_iff.mp hx).1
          rw [List.length_reverse, pz_len] at this
          exact this
        obtain ⟨z, hz⟩ : ∃ z, (laid p t1).reverse[i]? = some z := ⟨_, List.getElem?_eq_getElem (by rw [List.length_reverse, laid_len ok1.1]; exact hi)⟩
        have hz2 := hz
        rw [List.getElem?_reverse (by rw [laid_len ok1.1]; exact hi), laid_len ok1.1] at hz2
        obtain ⟨k1, hk1, hk2, hk3⟩ := laid_get hz2
        rw [List.getElem?_reverse (by rw [pz_len]; exact hi), pz_len] at hx
        have ex : x = .int ((k1 : Nat) : Int) := by
          unfold pz at hx
          rw [List.getElem?_map, List.getElem?_map, hk1] at hx
          cases hx
          rfl
        subst ex
        obtain ⟨kv, hkv, hkd⟩ := dpAll_get hks (d := z.2.data) (by rw [List.getElem?_map, hk2]; rfl)
        have hat : (vlay t1.w t1.is ks)[k1]? = some kv := by rw [vlay_pl ls.1 lk hk1, hkv]
        have s37 := s36.trans s7
        refine ⟨rfl, yes_ok (iteT ⟨_, rfl, _, rfl, (by show 1 ≤ sizeLine; decide), fun q1 hq1 => ?_⟩)⟩
        have s8 := same_upd (o := HO.tup [V.int ((k1 : Nat) : Int)]) hq1
        have cat : ∀ pq H9, Same (upd H' q1 (.tup [V.int ((k1 : Nat) : Int)])) H9 → SqT K H9 pq ((pz p).map V.int ++ [V.int ((k1 : Nat) : Int)]) → ∀ Q' : List V → Hp → Prop, (∀ pq H9, Same (upd H' q1 (.tup [V.int ((k1 : Nat) : Int)])) H9 → SqT K H9 pq ((pz p).map V.int ++ [V.int ((k1 : Nat) : Int)]) → Q' [.ref pq] H9) → Q' [.ref pq] H9 := fun pq H9 a1 a2 Q' h => h pq H9 a1 a2
        have szp : ((pz p).map V.int).length + [V.int ((k1 : Nat) : Int)].length ≤ sizeLine := by
          rw [pz_len]
          show p.length + 1 ≤ sizeLine
          have : sizeLine = 16777216 := rfl
          omega
        have fin : ∀ pq H9, Same (upd H' q1 (.tup [V.int ((k1 : Nat) : Int)])) H9 → SqT K H9 pq ((pz p).map V.int ++ [V.int ((k1 : Nat) : Int)]) → ∀ q5, H9 q5 = none → ∃ acc', upd H9 q5 (.tup [V.ref pq, kv]) D = some (.lst acc') ∧ acc'.length < sizeLine ∧
            ∃ acc2, Same H6 (upd (upd H9 q5 (.tup [V.ref pq, kv])) D (.lst (acc' ++ [V.ref q5]))) ∧ upd (upd H9 q5 (.tup [V.ref pq, kv])) D (.lst (acc' ++ [V.ref q5])) D = some (.lst acc2) ∧ DpAll K (upd (upd H9 q5 (.tup [V.ref pq, kv])) D (.lst (acc' ++ [V.ref q5]))) acc2 (((laid p t1).reverse.take (i + 1)).map pd) := by
          intro pq H9 s9 hpq q5 hq5
          have s10 := same_upd (o := HO.tup [V.ref pq, kv]) hq5
          have sA := s8.trans (s9.trans s10)
          have hD10 := sA _ _ hD7
          have g := Grw.lst (o' := HO.lst (acc ++ [V.ref q5])) hD10 rfl
          have gg := (Grw.of sA).trans g
          refine ⟨acc, hD10, ?_, acc ++ [V.ref q5], fun y u e => ?_, upd_same, ?_⟩
          · have e := dpAll_len da
            rw [List.length_map, List.length_take, List.length_reverse, laid_len ok1.1] at e
            have n2 := W.pl_len t1.w
            have n3 := W.nk_le t1.w
            have : sizeLine = 16777216 := rfl
            omega
          · rw [upd_ne (ne_of_none e hD)]
            exact sA _ _ (s7 _ _ e)
          · rw [List.take_succ, hz, List.map_append]
            refine dp_append (Grw.dpAll gg _ _ (noLs_pd _) da) (.cons (.tup (g.sqT (SqT.of upd_same)) (.cons (.tup (g.sqT (same_sqT s10 hpq)) ?_) (.cons ?_ .nil))) .nil)
            · rw [hk3, ← pz_app]
              exact dp_ints _
            · exact Grw.dp ((Grw.of (s37.trans sA)).trans g) _ _ (noL_data _) hkd
        have tail : ∀ pq H9, Same (upd H' q1 (.tup [V.int ((k1 : Nat) : Int)])) H9 → SqT K H9 pq ((pz p).map V.int ++ [V.int ((k1 : Nat) : Int)]) → SqT K H9 hp (vlay t1.w t1.is ks) := fun pq H9 s9 _ => same_sqT (s37.trans (s8.trans s9)) hhp
        refine ⟨pa, q1, _, _, rfl, rfl, same_sqT (s37.trans s8) hpa3, SqT.of upd_same, szp, fun en => ?_, fun _ z => (by cases z), fun _ _ pq hpq => ?_⟩
        · have hq : SqT K (upd H' q1 (.tup [V.int ((k1 : Nat) : Int)])) q1 ((pz p).map V.int ++ [V.int ((k1 : Nat) : Int)]) := by
            rw [en]
            exact SqT.of upd_same
          exact ⟨_, rfl, _, rfl, hp, _, ((k1 : Nat) : Int), kv, rfl, rfl, tail q1 _ (Same.refl _) hq, vlay_at hat, (by show 2 ≤ sizeLine; decide), fun q5 hq5 => fin q1 _ (Same.refl _) hq q5 hq5⟩
        · have s9 := same_upd (o := HO.tup ((pz p).map V.int ++ [V.int ((k1 : Nat) : Int)])) hpq
          exact ⟨_, rfl, _, rfl, hp, _, ((k1 : Nat) : Int), kv, rfl, rfl, tail pq _ s9 (SqT.of upd_same), vlay_at hat, (by show 2 ≤ sizeLine; decide), fun q5 hq5 => fin pq _ s9 (SqT.of upd_same) q5 hq5⟩
      · obtain ⟨acc, s7, hD7, da⟩ := Z
        have s37 := s36.trans s7
        have el : (laid p t1).reverse.take ((pz t1.w.pl).map V.int).reverse.length = (laid p t1).reverse := by
          refine List.take_of_length_le ?_
          rw [List.length_reverse, List.length_reverse, pz_len, laid_len ok1.1]
          exact Nat.le_refl _
        rw [el] at da
        have l1 := dpAll_len d13
        have l2 := dpAll_len da
        have n1 := nodesAll_len (laid p t1 ++ r)
        rw [List.length_map, List.length_reverse] at l1 l2
        rw [List.length_append] at n1
        refine ⟨wa, D, its1, acc, rfl, rfl, s37 _ _ hw3, hD7, by have : sizeLine = 16777216 := rfl; omega, fun wn hwn => ?_⟩
        have s8 := same_upd (o := HO.lst (its1 ++ acc)) hwn
        have sH := same3.trans (s37.trans s8)
        refine ⟨laid p t1 ++ r, its1 ++ acc, wn, _, _, x4, rfl, by omega, sH, ?_, upd_same, ?_, by omega, ok2, wk1⟩
        · cases e : H wn with
          | none => rfl
          | some u =>
            have z := (same3.trans s37) _ _ e
            rw [hwn] at z
            cases z
        · rw [List.reverse_append, List.map_append]
          exact dp_append (dp_monoAll (s37.trans s8) _ _ d13) (dp_monoAll s8 _ _ da)
end
end K31
end
/-! part K31Y -/
section
set_option Elab.async false
set_option linter.all false
set_option maxRecDepth 100000
set_option maxHeartbeats 4000000
/-! K31Y: a sign's place in a text; list of a text. -/
namespace K31
open PySem PySem.Spec PyProof.Rows L2 TL
section
variable {X : Cx}
theorem mt_where : MtR X "str.index" (fun x xs H Q => ∃ (a b : Str) (k : Nat), x = .str a ∧ xs = [.str b] ∧ Txt.index0 a b = some k ∧ Q (.int (k : Int)) H) := by
  intro pins s σ H x xs v us Q I rx rs h
  obtain ⟨a, b, k, rfl, rfl, hk, q⟩ := h
  obtain ⟨t, rfl⟩ := rx
  obtain ⟨u, rfl, ru⟩ := vals1 rs
  obtain ⟨t2, rfl⟩ := ru
  cases z : Builtin.Str.occurrences a b 0 a.length 1 with
  | nil =>
    unfold Txt.index0 at hk
    rw [z] at hk
    cases hk
  | cons j rest =>
    unfold Txt.index0 at hk
    rw [z] at hk
    obtain rfl : j = k := Option.some.inj hk
    exact PySem.SC.index z ⟨.int (j : Nat), H, I.tok _, ⟨_, rfl⟩, q⟩
theorem vals_signs : ∀ {l : List Nat} {vs : List Value}, vs.length = l.length → (∀ (j : Nat) (v : Value), vs[j]? = some v → ∃ c u, l[j]? = some c ∧ v = .str ⟨#[c]⟩ u) → Vals (l.map fun c => V.str ⟨#[c]⟩) vs
  | [], [], _, _ => .nil
  | c :: l, v :: vs, hl, h => by
    obtain ⟨c', u, h1, h2⟩ := h 0 v rfl
    cases h1
    refine .cons ⟨u, h2⟩ (vals_signs (by simpa using hl) fun j y hy => h (j + 1) y hy)
theorem call_listTx (hc : X.calm = true) : CallR X (.type "list") (fun xs H Q => ∃ z : Str, xs = [.str z] ∧ z.length ≤ sizeLine ∧ ∀ l, H l = none → Q (.ref l) (upd H l (.lst ((tl z).map fun c => V.str ⟨#[c]⟩)))) := by
  intro pins s σ H xs us Q I r h
  obtain ⟨z, rfl, hz, q⟩ := h
  obtain ⟨u, rfl, ru⟩ := vals1 r
  obtain ⟨t, rfl⟩ := ru
  have lz : (tl z).length = z.cps.size := Array.length_toList
  refine call_list_str (I.ok.hd hc) z t (fun g tk acc c' kp e it => ?_) hz
  refine ⟨.ref s.heap.objs.size, _, I.laid (t' := tk) kp (Nat.le_refl _) (show ObjOk X.prog X.w _ g _ (.lst ((tl z).map fun c => V.str ⟨#[c]⟩)) from ⟨?_, acc.toList, c', ?_, ?_⟩), rfl, q _ (I.hok.fresh (Nat.le_refl _))⟩
  · rw [List.length_map, lz]
    exact hz
  · refine vals_signs (by rw [Array.length_toList, it.1, lz]) fun j v hv => ?_
    obtain ⟨c, u, h1, h2⟩ := it.2 j v (by rw [← Array.getElem?_toList]; exact hv)
    exact ⟨c, u, by rw [Array.getElem?_toList]; exact h1, h2⟩
  · rw [e]
end
end K31
end
/-! part K31Q -/
section
set_option Elab.async false
set_option linter.all false
set_option maxRecDepth 100000
set_option maxHeartbeats 4000000
/-! K31Q: the law's reader. -/
namespace K31
open PySem PySem.Spec PyProof.Rows L2 TL
theorem dig_at (c : Nat) (h : isDig c = true) : Txt.index0 "0123456789" ⟨#[c]⟩ = some (c - 48) := by
  have a : ∀ k : Fin 10, Txt.index0 "0123456789" ⟨#[k.val + 48]⟩ = some k.val := by decide +kernel
  unfold isDig at h
  rw [Bool.and_eq_true, decide_eq_true_eq, decide_eq_true_eq] at h
  have z := a ⟨c - 48, by omega⟩
  simp only at z
  rw [show c - 48 + 48 = c by omega] at z
  exact z
theorem shaped_ones (n : Nat) : SeqAt.shaped (.list (List.replicate n (PyData.int 1))) = true := by
  have e : List.replicate n (PyData.int 1) = (List.replicate n (1 : Int)).map PyData.int := by simp
  rw [e]
  exact shaped_ints _
theorem digs_snoc (l : List Nat) (c : Nat) : NumText.digitsVal (l ++ [c]) = NumText.digitsVal l * 10 + (c - 48) := by
  unfold NumText.digitsVal
  rw [List.foldl_append]
  rfl
section
variable {P : Program} {w : World} {K : PySem.W.Frag} {mg : Str → Option Value} {base : Heap} {a : Ad}
def spLInt : Sp := fun vs H Q _ => ∃ x : Str, vs = [.str x] ∧ x.length ≤ 1000000 ∧ ∀ l H', Same H H' → H' l = some (.lst ((intOf x).toList.map V.int)) → Q (.ref l) H'
theorem sc63 : FnScope ["word", "figures", "sign", "number"] ["word"] (defScope (top 63)) := ⟨rfl, rfl, rfl, by decide +kernel, rfl, by decide +kernel, by decide +kernel⟩
theorem cl63 (T : Tx K mg w a) : Cl P w K mg base 1 "_law_integer" spLInt := by
  obtain ⟨f, fd, F, hm⟩ := T.d63.ex
  refine ⟨f, fd, ["word"], lift0 (F.ok sc63 (fun vs H Q E h => ?_) (fun cdv A outer s H vs Q E hr h => ?_)), hm, F.kp, F.binds fun _ _ _ _ _ _ us hl => match us, hl with | [_], _ => rfl⟩
  · obtain ⟨x, rfl, _⟩ := h
    rfl
  · obtain ⟨x, rfl, hx, q⟩ := h
    refine ⟨_, (pss_cons (ps_set (i := 1) sc63.nd rfl (Or.inl rfl) (pe_ifExp (pt_cmpR op_eq (pe_slice sl_str (pv 0) po_none (po_some pe_int)) pe_str (nomark _)) (pe_slice sl_str (pv 0) (po_some pe_int) po_none) (pv 0)))
      (pss_cons (ps_if (PW.pt (pw_or (pt_cmpR op_eq (pv 1) pe_str (nomark _)) (pw_or (pt_cmpR op_gt (pe_callB call_len (by rfl) T.nLen PySem.boot_len (pa_cons (pv 1) pa_nil)) pe_int (nomark _)) (pw_or1 (pt_cmpR (op_neD (hu64 hr)) (pe_lc (own := [("sign", 2)]) (g := gName 2) rfl sc63.nd (pi_str (pv 1)) (blkOk_by (own := [("sign", 2)]) (N := ["word", "figures", "sign", "number"]) (sc := defScope (top 63)) (by decide +kernel)) (fun _ _ _ _ _ => (pg_name (i := 2) sc63.nd rfl (Or.inl rfl))) (fun _ _ _ _ _ => (pts_one (pt_cmpR op_notIn_sign (pv 2) pe_str rfl))) (fun _ _ _ _ _ => pe_int)) (pe_lst pa_nil) (nomark _)))))) (pss_one (ps_ret (pe_lst pa_nil))) pss_nil)
      (pss_cons (ps_if (PW.pt (pw_and (pt_cmpR op_eq (pe_ix ix_str (pv 1) pe_int (fun _ _ => rfl)) pe_str (nomark _)) (pw_and1 (pt_cmpR op_ne (pv 0) pe_str (nomark _))))) (pss_one (ps_ret (pe_lst pa_nil))) pss_nil)
      (pss_cons (ps_set (i := 3) sc63.nd rfl (Or.inl rfl) pe_int)
      (pss_cons (ps_for PassesOwn.never rfl (pi_str (pv 1)) (pg_name (i := 2) sc63.nd rfl (Or.inl rfl)) (pss_one (ps_set (i := 3) sc63.nd rfl (Or.inl rfl) (pe_op op_add (pe_op op_mul (pv 3) pe_int) (pe_m1 PySem.F.slot_str_index PySem.F.type_str_index mt_where pe_str (pv 2))))))
      (pss_one (ps_ret (pe_lst (pa_cons (pe_ifExp (pt_cmpR op_eq (pe_ix ix_str (pv 0) pe_int (fun _ _ => rfl)) pe_str (nomark _)) (pe_op op_sub pe_int (pv 3)) (pv 3)) pa_nil))))))))), ?_⟩
    have size1 : x.length ≤ sizeLine := by
      have : sizeLine = 16777216 := rfl
      omega
    have go : ∀ fg : Str, tl fg = figs (tl x) → fg.length ≤ x.length → tSeq
      (tIfS
        (tOr (tTest (tOp rEq (tVar 1) (tC (V.str (Str.ofString "")))))
          (tOr
            (tTest
              (tOp (rI0 fun i j => V.bl (decide (j < i)))
                (tCB
                  (fun xs H_1 Q =>
                    ∃ x n,
                      xs = [x] ∧
                        LenV
                            K
                            x H_1 n ∧
                          Q (V.int ↑n) H_1)
                  (tCons (tVar 1) tNil))
                (tC (V.int 31))))
            (tTest
              (tOp
                (rNeD
                  K)
                (tLc (iStr (tVar 1)) (gName 2)
                  (tTest
                    (tOp
                      (fun x y H Q =>
                        ∃ c z, x = V.str { cps := #[c] } ∧ y = V.str z ∧ Q (V.bl !decide (c ∈ z.cps.toList)) H)
                      (tVar 2) (tC (V.str (Str.ofString "0123456789")))))
                  (tC (V.int 1)) (List.map (fun x => x.snd) [(Str.ofString "sign", 2)]))
                (tLst tNil)))))
        (tRet (tLst tNil)) tNext)
      (tSeq
        (tIfS
          (tAnd (tTest (tOp rEq (tOp rIxS (tVar 1) (tC (V.int 0))) (tC (V.str (Str.ofString "0")))))
            (tTest (tOp rNe (tVar 0) (tC (V.str (Str.ofString "0"))))))
          (tRet (tLst tNil)) tNext)
        (tSeq (tAsg (tC (V.int 0)) (gName 3))
          (tSeq
            (tFor (iStr (tVar 1)) (gName 2)
              (tAsg
                (tOp (rI0 fun i j => V.int (i + j)) (tOp (rI CMul fun i j => V.int (i * j)) (tVar 3) (tC (V.int 10)))
                  (tM1
                    (fun x xs H Q => ∃ a b k, x = V.str a ∧ xs = [V.str b] ∧ Txt.index0 a b = some k ∧ Q (V.int ↑k) H)
                    (tC (V.str (Str.ofString "0123456789"))) (tVar 2)))
                (gName 3)))
            (tRet
              (tLst
                (tCons
                  (tIf (tTest (tOp rEq (tOp rIxS (tVar 0) (tC (V.int 0))) (tC (V.str (Str.ofString "-")))))
                    (tOp (rI0 fun i j => V.int (i - j)) (tC (V.int 0)) (tVar 3)) (tVar 3))
                  tNil))))))
      { nx := fun x H' => Q V.non H', rt := Q } [some (.str x), some (.str fg), none, none] H := by
      intro fg ef lf
      have lfg : (figs (tl x)).length = fg.length := by rw [← ef]; exact tl_len fg
      have hno : okFigs (tl x) = false → ∀ H', Same H H' → tRet (tLst tNil) { nx := fun x H' => Q V.non H', rt := Q } [some (.str x), some (.str fg), none, none] H' := fun e H' s' => by
        refine ⟨Nat.zero_le _, fun l hl => q l _ (s'.trans (same_upd hl)) ?_⟩
        unfold intOf
        rw [if_neg (by rw [e]; exact Bool.false_ne_true)]
        exact upd_same
      have rest : okFigs (tl x) = (decide (1 ≤ fg.length) && decide (fg.length ≤ 31) && (tl fg).all isDig && !(decide ((tl fg).take 1 = [48]) && decide (tl x ≠ [48]))) := by
        unfold okFigs
        rw [← ef, tl_len]
      have lsz : (tl fg).length = fg.cps.size := Array.length_toList
      -- figures == ''
      refine ⟨_, rfl, rfl, _, rfl, ?_⟩
      have e0 : decide (V.str fg = V.str "") = decide (fg.length = 0) := by
        rw [sv_eq, show tl "" = [] from rfl]
        refine decide_eq_decide.mpr ⟨fun z => ?_, fun z => ?_⟩
        · rw [← tl_len, z]
          rfl
        · rw [← tl_len] at z
          exact List.length_eq_zero_iff.mp z
      rw [e0]
      refine bl_cases (fun c => iteT ?_) (fun c => ?_)
      · have c' := of_decide_eq_true c
        exact hno (by rw [rest, decide_eq_false (show ¬ 1 ≤ fg.length by omega)]; rfl) H (Same.refl H)
      have c0 := of_decide_eq_false c
      have c1 : decide (1 ≤ fg.length) = true := decide_eq_true (by omega)
      refine ⟨_, rfl, _, _, rfl, ⟨by have : sizeLine = 16777216 := rfl; omega, rfl⟩, _, _, rfl, rfl, _, rfl, ?_⟩
      refine bl_cases (fun c => iteT ?_) (fun c => ?_)
      · have c' := of_decide_eq_true c
        exact hno (by rw [rest, decide_eq_false (show ¬ fg.length ≤ 31 by omega), Bool.and_false]; rfl) H (Same.refl H)
      have c2 : decide (fg.length ≤ 31) = true := decide_eq_true (by have := of_decide_eq_false c; omega)
      refine ⟨_, rfl, fg, rfl, fun D hD => ?_⟩
      refine lc_it walk_str (fun i H' => Same H H' ∧ H' D = some (.lst (List.replicate (((tl fg).take i).filter fun c => !isDig c).length (V.int 1)))) ⟨same_upd hD, upd_same⟩ (fun _ _ _ _ => trivial) (fun i y H1 H2 hi I Y => ?_) (fun H1 I => ?_)
      · obtain ⟨s1, hD1⟩ := I
        obtain ⟨rfl, c, hc, rfl⟩ := Y
        have hc' : (tl fg)[i]? = some c := by rw [Array.getElem?_toList]; exact hc
        refine ⟨rfl, _, rfl, c, _, rfl, rfl, _, rfl, ?_⟩
        rw [in_figs, take_filt _ _ hc']
        cases isDig c with
        | true =>
          refine iteF ⟨s1, ?_⟩
          simpa using hD1
        | false =>
          refine iteT ⟨_, hD1, ?_, fun b u e => ?_, ?_⟩
          · rw [List.length_replicate]
            have z := List.length_filter_le (fun c => !isDig c) ((tl fg).take i)
            rw [List.length_take] at z
            have : fg.length = fg.cps.size := rfl
            have : sizeLine = 16777216 := rfl
            omega
          · rw [upd_ne (ne_of_none e hD)]
            exact s1 _ _ e
          · rw [upd_same]
            simp [List.replicate_succ']
      obtain ⟨s1, hD1⟩ := I
      rw [List.take_of_length_le (by omega)] at hD1
      refine ⟨Nat.zero_le _, fun q0 hq0 => ?_⟩
      have s2 : Same H1 (upd H1 q0 (.lst [])) := same_upd hq0
      generalize en : ((tl fg).filter fun c => !isDig c).length = n at hD1
      have hd : DpAll K (upd H1 q0 (.lst [])) (List.replicate n (V.int 1)) (List.replicate n (PyData.int 1)) := by
        clear hD1 en
        induction n with
        | zero => exact .nil
        | succ n ih => exact .cons (.int 1) ih
      refine ⟨.list (List.replicate n (PyData.int 1)), .list [], .lst (SqL.of (s2 _ _ hD1)) hd, .lst (SqL.of upd_same) .nil, shaped_ones n, rfl, _, rfl, ?_⟩
      rw [eqv_nil]
      have s12 := s1.trans s2
      cases c3 : (tl fg).all isDig with
      | false =>
        have ne : (List.replicate n (PyData.int 1)).isEmpty = false := by
          cases n with
          | zero =>
            have z : (tl fg).filter (fun c => !isDig c) = [] := List.length_eq_zero_iff.mp en
            rw [List.filter_eq_nil_iff] at z
            have y : (tl fg).all isDig = true := by
              rw [List.all_eq_true]
              intro c hc
              have := z c hc
              simpa using this
            rw [c3] at y
            cases y
          | succ n => rfl
        rw [ne]
        refine iteT ?_
        exact hno (by rw [rest, c1, c2, c3]; rfl) _ s12
      | true =>
      have n0 : n = 0 := by
        rw [← en]
        have z : (tl fg).filter (fun c => !isDig c) = [] := by
          rw [List.filter_eq_nil_iff]
          rw [List.all_eq_true] at c3
          intro c hc
          rw [c3 c hc]
          decide
        rw [z]
        rfl
      subst n0
      refine iteF ?_
      -- figures[0] == '0' and word != '0'
      obtain ⟨c, r, ecr⟩ : ∃ c r, tl fg = c :: r := by
        cases e : tl fg with
        | nil =>
          have z := tl_len fg
          rw [e] at z
          have z : 0 = fg.length := z
          omega
        | cons c r => exact ⟨c, r, rfl⟩
      have fin : okFigs (tl x) = true → ∀ nx : L2.St → Hp → Prop, tSeq (tAsg (tC (.int 0)) (gName 3)) (tSeq (tFor (iStr (tVar 1)) (gName 2) (tAsg (tOp (rI0 fun i j => V.int (i + j)) (tOp (rI CMul fun i j => V.int (i * j)) (tVar 3) (tC (V.int 10)))
            (tM1 (fun x xs H Q => ∃ a b k, x = V.str a ∧ xs = [V.str b] ∧ Txt.index0 a b = some k ∧ Q (V.int ↑k) H) (tC (V.str (Str.ofString "0123456789"))) (tVar 2))) (gName 3)))
            (tRet (tLst (tCons (tIf (tTest (tOp rEq (tOp rIxS (tVar 0) (tC (V.int 0))) (tC (V.str (Str.ofString "-"))))) (tOp (rI0 fun i j => V.int (i - j)) (tC (V.int 0)) (tVar 3)) (tVar 3)) tNil))))
            { nx := nx, rt := Q } [some (.str x), some (.str fg), none, none] (upd H1 q0 (.lst [])) := fun ok nx => by
        refine ⟨_, rfl, fg, rfl, ?_⟩
        refine for_it walk_str (fun i σ H' => ∃ x2, σ = [some (.str x), some (.str fg), x2, some (.int ((NumText.digitsVal ((tl fg).take i) : Nat) : Int))] ∧ H' = upd H1 q0 (.lst [])) ⟨none, rfl, rfl⟩ (fun _ _ _ _ _ => trivial) (fun i y σ H2 H3 hi I Y => ?_) (fun σ H' I => ?_)
        · obtain ⟨x2, rfl, rfl⟩ := I
          obtain ⟨rfl, d, hd', rfl⟩ := Y
          have hd2 : (tl fg)[i]? = some d := by rw [Array.getElem?_toList]; exact hd'
          have dd : isDig d = true := by
            rw [List.all_eq_true] at c3
            exact c3 d (List.mem_of_getElem? hd2)
          refine ⟨_, rfl, _, _, rfl, rfl, .inr ⟨by decide, by decide⟩, ⟨_, rfl⟩, _, rfl, _, _, d - 48, rfl, rfl, dig_at d dd, _, _, rfl, rfl, some (.str ⟨#[d]⟩), ?_, rfl⟩
          rw [List.take_succ, hd2]
          have e5 := digs_snoc ((tl fg).take i) d
          have e6 : (((NumText.digitsVal ((tl fg).take i) : Nat) : Int) * 10 + ((d - 48 : Nat) : Int)) = ((NumText.digitsVal ((tl fg).take i ++ [d]) : Nat) : Int) := by
            rw [e5]
            omega
          show [some (V.str x), some (V.str fg), some (V.str ⟨#[d]⟩), some (V.int (((NumText.digitsVal ((tl fg).take i) : Nat) : Int) * 10 + ((d - 48 : Nat) : Int)))] = _
          rw [e6]
          rfl
        · obtain ⟨x2, rfl, rfl⟩ := I
          rw [List.take_of_length_le (by omega), ef]
          have nx0 : tl x ≠ [] := fun z => by
            rw [ef, show figs (tl x) = [] by rw [z]; rfl] at ecr
            cases ecr
          obtain ⟨c5, r5, e5⟩ : ∃ c r, tl x = c :: r := by
            cases e : tl x with
            | nil => exact absurd e nx0
            | cons c r => exact ⟨c, r, rfl⟩
          refine ⟨_, rfl, x, 0, c5, rfl, rfl, size1, (by rw [show x.cps.toList = c5 :: r5 from e5]; exact atI_nat (j := 0) rfl), rfl, _, rfl, ?_⟩
          have e6 : decide (V.str ⟨#[c5]⟩ = V.str "-") = decide ((tl x).take 1 = [45]) := by
            rw [sv_eq, tl_minus, e5]
            rfl
          rw [e6]
          have out : ∀ z : Int, z = valFigs (tl x) → (1 ≤ sizeLine) → ∀ p, upd H1 q0 (.lst []) p = none → Q (.ref p) (upd (upd H1 q0 (.lst [])) p (.lst [V.int z])) := fun z ez _ p hp => by
            refine q p _ (s12.trans (same_upd hp)) ?_
            unfold intOf
            rw [if_pos ok, ez]
            exact upd_same
          refine bl_cases (fun c => ?_) (fun c => ?_)
          · refine ⟨_, rfl, _, _, rfl, rfl, (by show 1 ≤ sizeLine; decide), fun p hp => out _ ?_ (by decide) p hp⟩
            unfold valFigs
            rw [if_pos (of_decide_eq_true c)]
            show (0 : Int) - _ = _
            omega
          · refine ⟨_, rfl, (by show 1 ≤ sizeLine; decide), fun p hp => out _ ?_ (by decide) p hp⟩
            unfold valFigs
            rw [if_neg (of_decide_eq_false c)]
      have p1 : 1 ≤ fg.length := by omega
      refine ⟨_, rfl, fg, 0, c, rfl, rfl, by have : sizeLine = 16777216 := rfl; omega, (by rw [show fg.cps.toList = c :: r from ecr]; exact atI_nat (j := 0) rfl), rfl, _, rfl, ?_⟩
      have e4 : decide (V.str ⟨#[c]⟩ = V.str "0") = decide ((tl fg).take 1 = [48]) := by
        rw [sv_eq, tl_naught, ecr]
        rfl
      rw [e4]
      cases c4 : decide ((tl fg).take 1 = [48]) with
      | false =>
        refine iteF (iteF ?_)
        exact fin (by rw [rest, c1, c2, c3, c4]; rfl) _
      | true =>
        refine iteT ⟨_, rfl, rfl, _, rfl, ?_⟩
        rw [sv_eq, tl_naught]
        cases c5 : decide (tl x = [48]) with
        | false =>
          refine iteT ?_
          refine hno ?_ _ s12
          rw [rest, c1, c2, c3, c4, show decide (tl x ≠ [48]) = true from decide_eq_true (of_decide_eq_false c5)]
          rfl
        | true =>
          refine iteF (fin ?_ _)
          rw [rest, c1, c2, c3, c4, show decide (tl x ≠ [48]) = false from decide_eq_false (fun z => z (of_decide_eq_true c5))]
          rfl
    have ec : decide (V.str (cutS x none (some 1)) = V.str "-") = decide ((tl x).take 1 = [45]) := by
      have z := cut_to x 1
      rw [sv_eq, tl_minus, ← z]
      rfl
    refine ⟨_, rfl, 1, rfl, x, rfl, size1, rfl, _, rfl, ?_⟩
    rw [ec]
    refine bl_cases (fun c => ?_) (fun c => ?_)
    · have c' : (tl x).take 1 = [45] := of_decide_eq_true c
      refine ⟨_, rfl, 1, rfl, x, rfl, size1, ?_⟩
      have e2 : figs (tl x) = (tl x).drop 1 := if_pos c'
      exact go _ (by rw [e2]; exact cut_from x 1) (cutS_length x _ _)
    · have c' : ¬ (tl x).take 1 = [45] := of_decide_eq_false c
      refine ⟨_, rfl, ?_⟩
      have e2 : figs (tl x) = tl x := if_neg c'
      exact go x e2.symm (Nat.le_refl _)
end
end K31
end
/-! part K31U -/
section
set_option Elab.async false
set_option linter.all false
set_option maxRecDepth 100000
set_option maxHeartbeats 4000000
/-! K31U: the law's reader of a line; what is due of a text. -/
namespace K31
open PySem PySem.Spec PyProof.Rows L2 TL
def heKv (i m : Nat) : List (Key × V) := [(Sum.inr "at", .int ((i : Nat) : Int)), (Sum.inr "many", .int ((m : Nat) : Int))]
theorem kAM : ¬ (Sum.inr "at" : Key) = (Sum.inr "many" : Key) := by decide +kernel
theorem kMA : ¬ (Sum.inr "many" : Key) = (Sum.inr "at" : Key) := by decide +kernel
theorem he_at (i m : Nat) : valV (heKv i m) (Sum.inr "at") = some (.int ((i : Nat) : Int)) := by
  unfold heKv
  rw [valV_pos rfl]
theorem he_many (i m : Nat) : valV (heKv i m) (Sum.inr "many") = some (.int ((m : Nat) : Int)) := by
  unfold heKv
  rw [valV_neg kAM, valV_pos rfl]
theorem he_put1 (i m j : Nat) : putK (heKv i m) (Sum.inr "at") (.int ((j : Nat) : Int)) = heKv j m := by
  unfold putK
  rw [if_pos (by rw [valV_any, he_at]; rfl)]
  unfold heKv
  rw [List.map_cons, List.map_cons, List.map_nil, if_pos rfl, if_neg kMA]
theorem he_put2 (i m j : Nat) : putK (heKv i m) (Sum.inr "many") (.int ((j : Nat) : Int)) = heKv i j := by
  unfold putK
  rw [if_pos (by rw [valV_any, he_many]; rfl)]
  unfold heKv
  rw [List.map_cons, List.map_cons, List.map_nil, if_neg kAM, if_pos rfl]
theorem if_val {t : TT} {ta tb : TE} {σ : L2.St} {H : Hp} {Q : VK} (b : Bool) (v : V) (h : ∀ Q' : Bool → Hp → Prop, Q' b H → t σ H Q') (h1 : b = true → ∀ Q' : VK, Q' v H → ta σ H Q') (h2 : b = false → ∀ Q' : VK, Q' v H → tb σ H Q') (q : Q v H) : tIf t ta tb σ H Q := by
  refine h _ ?_
  cases b with
  | true => exact iteT (h1 rfl _ q)
  | false => exact iteF (h2 rfl _ q)
theorem if_mk {t : TT} {ta tb : TE} {σ : L2.St} {H : Hp} {Q : VK} (b : Bool) (zs : List V) (h : ∀ Q' : Bool → Hp → Prop, Q' b H → t σ H Q') (h1 : b = true → ∀ Q' : VK, (∀ l H', Same H H' → H' l = some (.lst zs) → Q' (.ref l) H') → ta σ H Q')
    (h2 : b = false → ∀ Q' : VK, (∀ l H', Same H H' → H' l = some (.lst zs) → Q' (.ref l) H') → tb σ H Q') (q : ∀ l H', Same H H' → H' l = some (.lst zs) → Q (.ref l) H') : tIf t ta tb σ H Q := by
  refine h _ ?_
  cases b with
  | true => exact iteT (h1 rfl _ q)
  | false => exact iteF (h2 rfl _ q)
theorem shaped_one {t : Tm} (h : t.depth ≤ 60) : SeqAt.shaped (.list [t.data]) = true := by
  unfold SeqAt.shaped
  have c : (PyData.list [t.data]).canLay0 = true := by
    show PyData.canLayAll0 [t.data] = true
    simp [PyData.canLayAll0, data_canLay]
  have d : (PyData.list [t.data]).depth ≤ 64 := by
    show PyData.depthAll [t.data] + 1 ≤ 64
    simp only [PyData.depthAll, data_depth]
    omega
  rw [c, decide_eq_true d]
  rfl
theorem of_empty : W.of "" = none := by decide +kernel
section
variable {P : Program} {w : World} {K : PySem.W.Frag} {mg : Str → Option Value} {base : Heap} {a : Ad}
/-- the law's reader's objects -/
structure LO (K : PySem.W.Frag) (H : Hp) (g : W → Addr) (kd wl he : Addr) (ws : List Str) (i m : Nat) : Prop where
  hkd : H kd = some (.dK (kwL g W.all))
  hkt : ∀ v : W, SqT K H (g v) [.int ((v.ni : Nat) : Int), .int ((v.nk : Nat) : Int)]
  hwl : H wl = some (.lst (ws.map V.str))
  hhe : H he = some (.dK (heKv i m))
  hne : kd ≠ he
theorem LO.oth {H H' : Hp} {g : W → Addr} {kd wl he : Addr} {ws : List Str} {i m j n : Nat} (I : LO K H g kd wl he ws i m) (t : Oth he H H') (e : H' he = some (.dK (heKv j n))) : LO K H' g kd wl he ws j n := by
  refine ⟨t _ _ I.hne I.hkd, fun v => (t.grw I.hhe rfl).sqT (I.hkt v), t _ _ (fun z => ?_) I.hwl, e, I.hne⟩
  have y := I.hwl
  rw [z, I.hhe] at y
  cases y
theorem LO.same {H H' : Hp} {g : W → Addr} {kd wl he : Addr} {ws : List Str} {i m : Nat} (I : LO K H g kd wl he ws i m) (s : Same H H') : LO K H' g kd wl he ws i m := I.oth (Oth.of s) (s _ _ I.hhe)
theorem LO.get {H : Hp} {g : W → Addr} {kd wl he : Addr} {ws : List Str} {i m : Nat} (I : LO K H g kd wl he ws i m) : DGet H he (.str "at") (some (.int ((i : Nat) : Int))) ∧ DGet H he (.str "many") (some (.int ((m : Nat) : Int))) :=
  ⟨he_at i m ▸ DGet.k (k := Sum.inr "at") I.hhe, he_many i m ▸ DGet.k (k := Sum.inr "many") I.hhe⟩
def spTake (K : PySem.W.Frag) (f : Nat) : Sp := fun vs H Q _ => ∃ (g : W → Addr) (kd wl he : Addr) (ws : List Str) (i m : Nat), vs = [.ref kd, .ref wl, .ref he] ∧ LO K H g kd wl he ws i m ∧ (∀ x ∈ ws, x.length ≤ 1000000) ∧ 20 < m + f ∧ m ≤ 20 ∧
  (∀ t j m', readT ws f i m = .ok (t, j, m') → ∀ (l : Addr) (v : V) H', Oth he H H' → LO K H' g kd wl he ws j m' → H' l = some (.lst [v]) → TV K H' v t → Q (.ref l) H') ∧
  (∀ e, readT ws f i m = .error e → ∀ (l : Addr) (m' : Nat) H', Oth he H H' → LO K H' g kd wl he ws e m' → H' l = some (.lst []) → Q (.ref l) H')
theorem sc64 : FnScope ["kinds", "words", "here", "word", "some", "kids", "k", "found"] ["kinds", "words", "here"] (defScope (top 64)) := ⟨rfl, rfl, rfl, by decide +kernel, rfl, by decide +kernel, by decide +kernel⟩
theorem cl64 (T : Tx K mg w a) : ∀ f, Cl P w K mg base (f + 3) "_law_take" (spTake K f) := by
  intro n
  induction n with
  | zero =>
    obtain ⟨f, fd, F, hm⟩ := T.d64.ex
    refine ⟨f, fd, ["kinds", "words", "here"], lift0 (F.ok (k := 2) sc64 (fun vs H Q E h => ?_) (fun cdv A outer s H vs Q E hr h => ?_)), hm, F.kp, F.binds fun _ _ _ _ _ _ us hl => match us, hl with | [_, _, _], _ => rfl⟩
    · obtain ⟨g, kd, wl, he, ws, i, m, rfl, _⟩ := h
      rfl
    · obtain ⟨g, kd, wl, he, ws, i, m, rfl, I, hs, h1, h2, _⟩ := h
      omega
  | succ n ih =>
  obtain ⟨f, fd, F, hm⟩ := T.d64.ex
  refine ⟨f, fd, ["kinds", "words", "here"], lift0 (F.ok (k := n + 3) sc64 (fun vs H Q E h => ?_) (fun cdv A outer s H vs Q E hr h => ?_)), hm, F.kp, F.binds fun _ _ _ _ _ _ us hl => match us, hl with | [_, _, _], _ => rfl⟩
  · obtain ⟨g, kd, wl, he, ws, i, m, rfl, _⟩ := h
    rfl
  · obtain ⟨g, kd, wl, he, ws, i, m, rfl, I, hs, h1, h2, k, ke⟩ := h
    refine ⟨_, (pss_cons (ps_set (i := 3) sc64.nd rfl (Or.inl rfl) (pe_ifExp (pt_cmpR op_lt (pe_dget (hu_of hr) (pv 2) pe_str (fun _ _ => rfl)) (pe_callB call_len (by rfl) T.nLen PySem.boot_len (pa_cons (pv 1) pa_nil)) (nomark _)) (pe_ix ix_list (pv 1) (pe_dget (hu_of hr) (pv 2) pe_str (fun _ _ => rfl)) (fun _ _ => rfl)) pe_str))
      (pss_cons (ps_if (PW.pt (pw_or (pt_cmp (pc_dnotin (hu_of hr) (pv 3) (pv 0))) (pw_or1 (pt_cmpR op_eq (pe_dget (hu_of hr) (pv 2) pe_str (fun _ _ => rfl)) pe_int (nomark _))))) (pss_one (ps_ret (pe_lst pa_nil))) pss_nil)
      (pss_cons (ps_asg (pe_tup (pa_cons (pe_op op_add (pe_dget (hu_of hr) (pv 2) pe_str (fun _ _ => rfl)) pe_int) (pa_cons (pe_op op_add (pe_dget (hu_of hr) (pv 2) pe_str (fun _ _ => rfl)) pe_int) (pa_cons (pe_lst pa_nil) (pa_cons (pe_lst pa_nil) pa_nil))))) (pg_tup rfl (pgs_cons (pg_sub (pv 2) pe_str (set_dict (hu_of hr))) (pgs_cons (pg_sub (pv 2) pe_str (set_dict (hu_of hr))) (pgs_cons (pg_name (i := 4) sc64.nd rfl (Or.inl rfl)) (pgs_cons (pg_name (i := 5) sc64.nd rfl (Or.inl rfl)) pgs_nil))))))
      (pss_cons (ps_for PassesOwn.never rfl (pi_range1 rfl T.nRange (pa_cons (pe_ix ix_tup (pe_dget (hu_of hr) (pv 0) (pv 3) (fun _ _ => rfl)) pe_int (fun _ _ => rfl)) pa_nil)) (pg_name (i := 6) sc64.nd rfl (Or.inl rfl)) (pss_cons (ps_set (i := 7) sc64.nd rfl (Or.inl rfl) (pe_ifExp (pt_cmpR op_lt (pe_dget (hu_of hr) (pv 2) pe_str (fun _ _ => rfl)) (pe_callB call_len (by rfl) T.nLen PySem.boot_len (pa_cons (pv 1) pa_nil)) (nomark _)) (pe_cl (cl63 T) (hr.mono (by omega)) rfl passL (pa_cons (pe_ix ix_list (pv 1) (pe_dget (hu_of hr) (pv 2) pe_str (fun _ _ => rfl)) (fun _ _ => rfl)) pa_nil)) (pe_lst pa_nil)))
      (pss_cons (ps_if (pt_cmpR (op_eqD (hu64 hr)) (pv 7) (pe_lst pa_nil) (nomark _)) (pss_one (ps_ret (pe_lst pa_nil))) pss_nil)
      (pss_one (ps_asg (pe_tup (pa_cons (pe_op op_cat (pv 4) (pv 7)) (pa_cons (pe_op op_add (pe_dget (hu_of hr) (pv 2) pe_str (fun _ _ => rfl)) pe_int) pa_nil))) (pg_tup rfl (pgs_cons (pg_name (i := 4) sc64.nd rfl (Or.inl rfl)) (pgs_cons (pg_sub (pv 2) pe_str (set_dict (hu_of hr))) pgs_nil))))))))
      (pss_cons (ps_for PassesOwn.never rfl (pi_range1 rfl T.nRange (pa_cons (pe_ix ix_tup (pe_dget (hu_of hr) (pv 0) (pv 3) (fun _ _ => rfl)) pe_int (fun _ _ => rfl)) pa_nil)) (pg_name (i := 6) sc64.nd rfl (Or.inl rfl)) (pss_cons (ps_set (i := 7) sc64.nd rfl (Or.inl rfl) (pe_cl (ih) hr rfl passL (pa_cons (pv 0) (pa_cons (pv 1) (pa_cons (pv 2) pa_nil)))))
      (pss_cons (ps_if (pt_cmpR (op_eqD (hu64 hr)) (pv 7) (pe_lst pa_nil) (nomark _)) (pss_one (ps_ret (pe_lst pa_nil))) pss_nil)
      (pss_one (ps_set (i := 5) sc64.nd rfl (Or.inl rfl) (pe_op op_cat (pv 5) (pv 7)))))))
      (pss_one (ps_ret (pe_lst (pa_cons (pe_cl (cl54 T) (hr.mono (by omega)) rfl passL (pa_cons (pv 3) (pa_cons (pv 4) (pa_cons (pv 5) pa_nil)))) pa_nil))))))))), ?_⟩
    -- word
    show tIf _ _ _ _ _ _
    have le : ((ws.map V.str).length : Nat) = ws.length := List.length_map ..
    refine if_val (decide (((i : Nat) : Int) < (((ws.map V.str).length : Nat) : Int))) (.str ((ws[i]?).getD "")) (fun Q' q => ⟨_, rfl, he, _, rfl, I.get.1, _, rfl, _, _, rfl, .inl ⟨_, SqL.of I.hwl, rfl⟩, _, _, rfl, rfl, _, rfl, q⟩) (fun c Q' q => ?_) (fun c Q' q => ?_) ?_
    · have lt : i < ws.length := by
        have := of_decide_eq_true c
        omega
      rw [List.getElem?_eq_getElem lt] at q
      exact ⟨_, rfl, _, rfl, he, _, rfl, I.get.1, wl, _, ((i : Nat) : Int), .str ws[i], rfl, rfl, SqL.of I.hwl, atI_nat (by rw [List.getElem?_map, List.getElem?_eq_getElem lt]; rfl), q⟩
    · have lt : ¬ i < ws.length := by
        have := of_decide_eq_false c
        omega
      rw [List.getElem?_eq_none (by omega)] at q
      exact q
    have wb : ws[i]?.bind W.of = W.of ((ws[i]?).getD "") := by
      cases ws[i]? with
      | none => exact of_empty.symm
      | some s => rfl
    generalize (ws[i]?).getD "" = x at *
    have stop : (m = 20 ∨ W.of x = none) → ∀ H', Same H H' → ∀ nx : L2.St → Hp → Prop, ∀ σ, tRet (tLst tNil) { nx := nx, rt := Q } σ H' := fun c H' s' nx σ => by
      refine ⟨Nat.zero_le _, fun l hl => ke i ?_ l m _ (Oth.of (s'.trans (same_upd hl))) (I.same (s'.trans (same_upd hl))) upd_same⟩
      rw [readT_succ, wb]
      by_cases c' : m = 20
      · rw [if_pos c']
      · rw [if_neg c']
        rcases c with c | c
        · exact absurd c c'
        · rw [c]
    -- word not in kinds or here['many'] == 20
    refine ⟨_, rfl, _, rfl, kd, _, rfl, DGet.k (k := Sum.inr x) I.hkd, _, rfl, ?_⟩
    rw [kwL_val, Option.isSome_map]
    cases hW : W.of x with
    | none => exact iteT (iteT (stop (.inr hW) H (Same.refl H) _ _))
    | some u =>
    refine iteF ⟨_, rfl, he, _, rfl, I.get.2, rfl, _, rfl, ?_⟩
    have em : decide (V.int ((m : Nat) : Int) = V.int 20) = decide (m = 20) := decide_eq_decide.mpr ⟨fun z => by injection z with z; omega, fun z => by rw [z]; rfl⟩
    rw [em]
    refine bl_cases (fun c => ?_) (fun c => ?_)
    · exact stop (.inl (of_decide_eq_true c)) H (Same.refl H) _ _
    have c' : ¬ m = 20 := of_decide_eq_false c
    obtain rfl : x = u.str := W.of_some hW
    have RT : readT ws (n + 1) i m = match takeI ws u.ni (i + 1) with
      | .error e => .error e
      | .ok (is, j) => match readKs ws n u.nk j (m + 1) with
        | .error e => .error e
        | .ok (ks, j, m) => .ok (mkTm u is ks, j, m) := by
      rw [readT_succ, if_neg c', wb, hW] <;> rfl
    clear stop
    -- here['at'], here['many'], some, kids = ..
    refine ⟨_, rfl, he, _, rfl, I.get.1, _, _, rfl, rfl, _, rfl, he, _, rfl, I.get.2, _, _, rfl, rfl, Nat.zero_le _, fun l4 hl4 => ⟨Nat.zero_le _, fun l5 hl5 => ⟨(by show 4 ≤ sizeLine; decide), fun tp htp => ?_⟩⟩⟩
    have s4 : Same H (upd H l4 (.lst [])) := same_upd hl4
    have s5 : Same (upd H l4 (.lst [])) (upd (upd H l4 (.lst [])) l5 (.lst [])) := same_upd hl5
    have s6 := same_upd (o := HO.tup [V.int (((i : Nat) : Int) + 1), V.int (((m : Nat) : Int) + 1), V.ref l4, V.ref l5]) htp
    have h41 := (s5.trans s6) _ _ upd_same
    have h51 := s6 _ _ upd_same
    have I1 := I.same (s4.trans (s5.trans s6))
    have o1 : Oth he H _ := Oth.of (s4.trans (s5.trans s6))
    refine ⟨tp, _, rfl, SqT.of upd_same, rfl, _, _, rfl, _, rfl, he, _, rfl, DPut.k (k := Sum.inr "at") I1.hhe (by show 2 < sizeLine; decide), ?_⟩
    generalize upd (upd (upd H l4 (.lst [])) l5 (.lst [])) tp (.tup [V.int (((i : Nat) : Int) + 1), V.int (((m : Nat) : Int) + 1), V.ref l4, V.ref l5]) = H1 at *
    have p1 : putK (heKv i m) (Sum.inr "at") (.int (((i : Nat) : Int) + 1)) = heKv (i + 1) m := he_put1 i m (i + 1)
    rw [p1]
    have I2 : LO K (upd H1 he (.dK (heKv (i + 1) m))) g kd wl he ws (i + 1) m := I1.oth Oth.upd upd_same
    refine ⟨_, _, rfl, _, rfl, he, _, rfl, DPut.k (k := Sum.inr "many") I2.hhe (by show 2 < sizeLine; decide), ?_⟩
    have p2 : putK (heKv (i + 1) m) (Sum.inr "many") (.int (((m : Nat) : Int) + 1)) = heKv (i + 1) (m + 1) := he_put2 (i + 1) m (m + 1)
    rw [p2]
    have I3 : LO K (upd (upd H1 he (.dK (heKv (i + 1) m))) he (.dK (heKv (i + 1) (m + 1)))) g kd wl he ws (i + 1) (m + 1) := I2.oth Oth.upd upd_same
    have o3 : Oth he H1 (upd (upd H1 he (.dK (heKv (i + 1) m))) he (.dK (heKv (i + 1) (m + 1)))) := Oth.upd.trans Oth.upd
    have n4 : l4 ≠ he := fun z => by
      rw [z, I1.hhe] at h41
      cases h41
    have n5 : l5 ≠ he := fun z => by
      rw [z, I1.hhe] at h51
      cases h51
    have h43 := o3 _ _ n4 h41
    have h53 := o3 _ _ n5 h51
    have o13 := o1.trans o3
    generalize upd (upd H1 he (.dK (heKv (i + 1) m))) he (.dK (heKv (i + 1) (m + 1))) = H3 at *
    refine ⟨_, _, rfl, _, _, rfl, rfl, ?_⟩
    clear I2 I1 o1 o3 h41 h51 s4 s5 s6 htp hl5 hl4 p1 p2
    have dg : ∀ H', LO K H' g kd wl he ws (i + 1) (m + 1) → True := fun _ _ => trivial
    have kget : ∀ H', H' kd = some (.dK (kwL g W.all)) → DGet H' kd (.str u.str) (some (.ref (g u))) := fun H' e => by
      have z := DGet.k (k := Sum.inr u.str) e
      rw [kwL_val, W.of_str] at z
      exact z
    have n1 := u.ni_le
    have n2 := u.nk_le
    -- for k in range(kinds[word][0])
    refine ⟨_, rfl, _, rfl, kd, _, rfl, kget _ I3.hkd, g u, _, 0, _, rfl, rfl, I3.hkt u, atI_nat (j := 0) rfl, _, rfl, by omega, by omega, ?_⟩
    rw [Int.toNat_natCast]
    refine for_range (lo := 0) (n := u.ni) (fun c σ H' => ∃ zs la x6 x7, σ = [some (.ref kd), some (.ref wl), some (.ref he), some (.str u.str), some (.ref la), some (.ref l5), x6, x7] ∧ Oth he H H' ∧ LO K H' g kd wl he ws (i + 1 + c) (m + 1) ∧
        takeI ws c (i + 1) = .ok (zs, i + 1 + c) ∧ H' la = some (.lst (zs.map V.int)) ∧ H' l5 = some (.lst [])) ⟨[], l4, none, none, rfl, o13, I3, rfl, h43, h53⟩ (fun c σ H' hc Z => ?_) (fun σ H' Z => ?_)
    · obtain ⟨zs, la, x6, x7, rfl, o4, I4, ht, hla, hl5⟩ := Z
      have sn := takeI_snoc ht
      have nla : la ≠ he := fun z => by
        rw [z, I4.hhe] at hla
        cases hla
      have nl5 : l5 ≠ he := n5
      -- found
      show tIf _ _ _ _ _ _
      refine if_mk (decide (((i + 1 + c : Nat) : Int) < (((ws.map V.str).length : Nat) : Int))) (((ws[i + 1 + c]?).bind intOf).toList.map V.int) (fun Q' q => ⟨_, rfl, he, _, rfl, I4.get.1, _, rfl, _, _, rfl, .inl ⟨_, SqL.of I4.hwl, rfl⟩, _, _, rfl, rfl, _, rfl, q⟩) (fun c0 Q' q => ?_) (fun c0 Q' q => ?_) (fun l7 H5 s5 hl7 => ?_)
      · have lt : i + 1 + c < ws.length := by
          have := of_decide_eq_true c0
          omega
        rw [List.getElem?_eq_getElem lt] at q
        exact ⟨_, rfl, _, rfl, he, _, rfl, I4.get.1, wl, _, ((i + 1 + c : Nat) : Int), .str ws[i + 1 + c], rfl, rfl, SqL.of I4.hwl, atI_nat (by rw [List.getElem?_map, List.getElem?_eq_getElem lt]; rfl), _, rfl, hs _ (List.getElem_mem lt), q⟩
      · have lt : ¬ i + 1 + c < ws.length := by
          have := of_decide_eq_false c0
          omega
        rw [List.getElem?_eq_none (by omega)] at q
        exact ⟨Nat.zero_le _, fun l hl => q l _ (same_upd hl) upd_same⟩
      -- found == []
      refine ⟨_, rfl, Nat.zero_le _, fun q0 hq0 => ?_⟩
      have s6 : Same H5 (upd H5 q0 (.lst [])) := same_upd hq0
      refine ⟨.list (((ws[i + 1 + c]?).bind intOf).toList.map PyData.int), .list [], .lst (SqL.of (s6 _ _ hl7)) (dp_ints _), .lst (SqL.of upd_same) .nil, shaped_ints _, rfl, _, rfl, ?_⟩
      rw [eqv_nil]
      have s56 := s5.trans s6
      have hl7' := s6 _ _ hl7
      generalize upd H5 q0 (.lst []) = H6 at *
      cases ez : (ws[i + 1 + c]?).bind intOf with
      | none =>
        refine iteT ⟨Nat.zero_le _, fun l hl => ke (i + 1 + c) ?_ l (m + 1) _ (o4.trans (Oth.of (s56.trans (same_upd hl)))) (I4.same (s56.trans (same_upd hl))) upd_same⟩
        have e1 : takeI ws (c + 1) (i + 1) = .error (i + 1 + c) := by rw [sn.2.2, ez]
        have e2 := takeI_err (k := u.ni - (c + 1)) e1
        rw [show c + 1 + (u.ni - (c + 1)) = u.ni by omega] at e2
        rw [RT, e2]
      | some z =>
        rw [ez] at hl7'
        refine iteF ⟨_, rfl, _, rfl, la, l7, _, _, rfl, rfl, s56 _ _ hla, hl7', ?_, fun ln hln => ?_⟩
        · rw [List.length_map, sn.2.1]
          have : sizeLine = 16777216 := rfl
          show c + 1 ≤ sizeLine
          omega
        have s7 := same_upd (o := HO.lst (zs.map V.int ++ [V.int z])) hln
        have hln7 : upd H6 ln (.lst (zs.map V.int ++ [V.int z])) ln = some (.lst ((zs ++ [z]).map V.int)) := by
          rw [upd_same, List.map_append]
          rfl
        have s47 := s56.trans s7
        have I7 := I4.same s47
        have hl57 := s47 _ _ hl5
        have eu : upd H6 ln (.lst (zs.map V.int ++ (some z).toList.map V.int)) = upd H6 ln (.lst (zs.map V.int ++ [V.int z])) := rfl
        show tCons _ _ _ (upd H6 ln (.lst (zs.map V.int ++ (some z).toList.map V.int))) _
        rw [eu]
        generalize upd H6 ln (.lst (zs.map V.int ++ [V.int z])) = H7 at *
        refine ⟨_, rfl, he, _, rfl, I7.get.1, _, _, rfl, rfl, (by show 2 ≤ sizeLine; decide), fun tp htp => ?_⟩
        have s8 := same_upd (o := HO.tup [V.ref ln, V.int (((i + 1 + c : Nat) : Int) + 1)]) htp
        have I8 := I7.same s8
        refine ⟨tp, _, rfl, SqT.of upd_same, rfl, _, _, rfl, _, _, rfl, _, rfl, he, _, rfl, DPut.k (k := Sum.inr "at") I8.hhe (by show 2 < sizeLine; decide), rfl, ?_⟩
        have p3 : putK (heKv (i + 1 + c) (m + 1)) (Sum.inr "at") (.int (((i + 1 + c : Nat) : Int) + 1)) = heKv (i + 1 + (c + 1)) (m + 1) := he_put1 (i + 1 + c) (m + 1) (i + 1 + (c + 1))
        rw [p3]
        have nln : ln ≠ he := fun z => by
          rw [z, I7.hhe] at hln7
          cases hln7
        refine ⟨zs ++ [z], ln, _, _, rfl, (o4.trans (Oth.of (s47.trans s8))).trans Oth.upd, I8.oth Oth.upd upd_same, ?_, ?_, ?_⟩
        · rw [sn.2.2, ez]
          rfl
        · rw [upd_ne nln]
          exact s8 _ _ hln7
        · rw [upd_ne n5]
          exact s8 _ _ hl57
    obtain ⟨zs, la, x6, x7, rfl, o4, I4, ht, hla, hl5⟩ := Z
    rw [ht] at RT
    simp only at RT
    have zl := (takeI_snoc ht).2.1
    -- for k in range(kinds[word][1])
    refine ⟨_, rfl, _, rfl, kd, _, rfl, kget _ I4.hkd, g u, _, 1, _, rfl, rfl, I4.hkt u, atI_nat (j := 1) rfl, _, rfl, by omega, by omega, ?_⟩
    rw [Int.toNat_natCast]
    refine for_range (lo := 0) (n := u.nk) (fun c σ H' => ∃ kids vs lk x6 x7 j m', σ = [some (.ref kd), some (.ref wl), some (.ref he), some (.str u.str), some (.ref la), some (.ref lk), x6, x7] ∧ Oth he H H' ∧ LO K H' g kd wl he ws j m' ∧
        readKs ws n c (i + 1 + u.ni) (m + 1) = .ok (kids, j, m') ∧ m + 1 ≤ m' ∧ m' ≤ 20 ∧ H' la = some (.lst (zs.map V.int)) ∧ H' lk = some (.lst vs) ∧ DpAll K H' vs (kids.map Tm.data)) ⟨[], [], l5, x6, x7, _, _, rfl, o4, I4, rfl, Nat.le_refl _, by omega, hla, hl5, .nil⟩ (fun c σ H' hc Z => ?_) (fun σ H' Z => ?_)
    · obtain ⟨kids, vs, lk, x6, x7, j, m', rfl, o5, I5, hk, m1, m2, hla5, hlk, hd⟩ := Z
      have sn := readKs_snoc hk
      have lkd : kids.length = c := sn.1
      have lv : vs.length = c := by rw [dpAll_len hd, List.length_map, lkd]
      have nla : la ≠ he := fun z => by
        rw [z, I5.hhe] at hla5
        cases hla5
      have nlk : lk ≠ he := fun z => by
        rw [z, I5.hhe] at hlk
        cases hlk
      refine ⟨_, rfl, _, rfl, _, rfl, g, kd, wl, he, ws, j, m', rfl, I5, hs, by omega, m2, fun t j2 m3 et l7 v H6 o6 I6 hl7 hv => ?_, fun e et l7 m3 H6 o6 I6 hl7 => ?_⟩
      · have rf := readT_facts ws n j m' t j2 m3 et
        have nod := rf.2.2 m2
        have dep := t.depth_le_nodes
        refine ⟨_, rfl, Nat.zero_le _, fun q0 hq0 => ?_⟩
        have s6 : Same H6 (upd H6 q0 (.lst [])) := same_upd hq0
        refine ⟨.list [t.data], .list [], .lst (SqL.of (s6 _ _ hl7)) (.cons (TV.mono s6 hv) .nil), .lst (SqL.of upd_same) .nil, shaped_one (by omega), rfl, _, rfl, ?_⟩
        rw [eqv_nil]
        refine iteF ⟨_, rfl, _, rfl, lk, l7, _, _, rfl, rfl, s6 _ _ (o6 _ _ nlk hlk), s6 _ _ hl7, ?_, fun ln hln => ?_⟩
        · have : sizeLine = 16777216 := rfl
          show vs.length + 1 ≤ sizeLine
          omega
        have s7 := same_upd (o := HO.lst (vs ++ [v])) hln
        have s67 := s6.trans s7
        refine ⟨kids ++ [t], vs ++ [v], ln, _, _, j2, m3, rfl, o5.trans (o6.trans (Oth.of s67)), I6.same s67, ?_, by omega, nod, s67 _ _ (o6 _ _ nla hla5), upd_same, ?_⟩
        · rw [sn.2, et]
        · rw [List.map_append]
          exact dp_append (dp_monoAll s67 _ _ (Grw.dpAll (o6.grw I5.hhe rfl) _ _ (noLs_data kids) hd)) (.cons (TV.mono s67 hv) .nil)
      · refine ⟨_, rfl, Nat.zero_le _, fun q0 hq0 => ?_⟩
        have s6 : Same H6 (upd H6 q0 (.lst [])) := same_upd hq0
        refine ⟨.list [], .list [], .lst (SqL.of (s6 _ _ hl7)) .nil, .lst (SqL.of upd_same) .nil, rfl, rfl, _, rfl, ?_⟩
        rw [eqv_nil]
        refine iteT ⟨Nat.zero_le _, fun l hl => ke e ?_ l m3 _ (o5.trans (o6.trans (Oth.of (s6.trans (same_upd hl))))) (I6.same (s6.trans (same_upd hl))) upd_same⟩
        have e1 : readKs ws n (c + 1) (i + 1 + u.ni) (m + 1) = .error e := by rw [sn.2, et]
        have e2 := readKs_err (k := u.nk - (c + 1)) e1
        rw [show c + 1 + (u.nk - (c + 1)) = u.nk by omega] at e2
        rw [RT, e2]
    obtain ⟨kids, vs, lk, x6, x7, j, m', rfl, o5, I5, hk, m1, m2, hla5, hlk, hd⟩ := Z
    rw [hk] at RT
    simp only at RT
    have lkd : kids.length = u.nk := (readKs_snoc hk).1
    have lv : vs.length = u.nk := by rw [dpAll_len hd, List.length_map, lkd]
    refine ⟨_, rfl, _, rfl, _, rfl, u, la, lk, zs, vs, rfl, SqL.of hla5, SqL.of hlk, by omega, by omega, fun r H6 s6 hr6 => ⟨(by show 1 ≤ sizeLine; decide), fun l hl => ?_⟩⟩
    have s7 := same_upd (o := HO.lst [V.ref r]) hl
    obtain ⟨f1, f2, f3, _, _⟩ := mkTm_facts zl lkd
    refine k (mkTm u zs kids) j m' RT l (.ref r) _ (o5.trans (Oth.of (s6.trans s7))) (I5.same (s6.trans s7)) upd_same (TV.mk (ks := vs) ?_ ?_)
    · rw [f1, f2]
      exact same_sqT s7 hr6
    · rw [f3]
      exact dp_monoAll (s6.trans s7) _ _ hd
theorem he_merge : mergeK [] (heKv 0 0) = heKv 0 0 := mergeK_new _ [] (show ([Sum.inr "at", Sum.inr "many"] : List Key).Nodup by decide +kernel)
def spRL (K : PySem.W.Frag) : Sp := fun vs H Q _ => ∃ (g : W → Addr) (kd : Addr) (x : Str), vs = [.ref kd, .str x] ∧ H kd = some (.dK (kwL g W.all)) ∧ (∀ v : W, SqT K H (g v) [.int ((v.ni : Nat) : Int), .int ((v.nk : Nat) : Int)]) ∧ x.length ≤ 1000000 ∧
  (∀ t, readLine (Txt.split x " ") = .ok t → ∀ (l : Addr) (v : V) H', Same H H' → H' l = some (.lst [v]) → TV K H' v t → Q (.ref l) H') ∧
  (∀ e, readLine (Txt.split x " ") = .error e → ∀ H', Same H H' → Q (.int ((e : Nat) : Int)) H')
theorem sc65 : FnScope ["kinds", "line", "here", "words", "found"] ["kinds", "line"] (defScope (top 65)) := ⟨rfl, rfl, rfl, by decide +kernel, rfl, by decide +kernel, by decide +kernel⟩
theorem cl65 (T : Tx K mg w a) : Cl P w K mg base 25 "_law_read_line" (spRL K) := by
  obtain ⟨f, fd, F, hm⟩ := T.d65.ex
  refine ⟨f, fd, ["kinds", "line"], lift0 (F.ok sc65 (fun vs H Q E h => ?_) (fun cdv A outer s H vs Q E hr h => ?_)), hm, F.kp, F.binds fun _ _ _ _ _ _ us hl => match us, hl with | [_, _], _ => rfl⟩
  · obtain ⟨g, kd, x, rfl, _⟩ := h
    rfl
  · obtain ⟨g, kd, x, rfl, hkd, hkt, hx, k, ke⟩ := h
    refine ⟨_, (pss_cons (ps_par (i := 2) (j := 3) rfl sc65.nd rfl rfl (by decide) rfl rfl (pa_cons (pe_disp (pps_cons pe_str pe_int (pps_cons pe_str pe_int pps_nil)) (by rfl) (by rfl) (fun z => by cases z) (by decide)) (pa_cons (pe_split (pv 1) pe_str) pa_nil)) rfl)
      (pss_cons (ps_set (i := 4) sc65.nd rfl (Or.inl rfl) (pe_cl (cl64 T 21) (hr.mono (by decide)) rfl passL (pa_cons (pv 0) (pa_cons (pv 3) (pa_cons (pv 2) pa_nil)))))
      (pss_one (ps_ret (pe_ifExp (PW.pt (pw_and (pt_cmpR (op_neD (hu64 hr)) (pv 4) (pe_lst pa_nil) (nomark _)) (pw_and1 (pt_cmpR op_eq (pe_dget (hu_of hr) (pv 2) pe_str (fun _ _ => rfl)) (pe_callB call_len (by rfl) T.nLen PySem.boot_len (pa_cons (pv 3) pa_nil)) (nomark _))))) (pv 4) (pe_dget (hu_of hr) (pv 2) pe_str (fun _ _ => rfl))))))), ?_⟩
    intro he hhe
    have s1 : Same H (upd H he (.dK [])) := same_upd hhe
    refine ⟨upd_same, heKv 0 0, rfl, (by show 2 ≤ 15; decide), ?_⟩
    rw [he_merge]
    have s2 : Same H (upd (upd H he (.dK [])) he (.dK (heKv 0 0))) := fun b u e => by
      rw [upd_ne (ne_of_none e hhe), upd_ne (ne_of_none e hhe)]
      exact e
    have h2 : upd (upd H he (.dK [])) he (.dK (heKv 0 0)) he = some (.dK (heKv 0 0)) := upd_same
    generalize upd (upd H he (.dK [])) he (.dK (heKv 0 0)) = H2 at *
    refine ⟨_, rfl, ⟨_, rfl⟩, x, " ", rfl, rfl, (by decide +kernel), (by have : sizeLine = 16777216 := rfl; omega), fun wl hwl => ⟨_, _, rfl, ?_⟩⟩
    have sp := split_small (x := x) (y := " ") (s := 32) (by decide +kernel) (by decide +kernel)
    generalize Txt.split x " " = ws at *
    have s3 := same_upd (o := HO.lst (ws.map V.str)) hwl
    have s23 := s2.trans s3
    have nk : kd ≠ he := ne_of_none hkd hhe
    have I : LO K (upd H2 wl (.lst (ws.map V.str))) g kd wl he ws 0 0 := ⟨s23 _ _ hkd, fun v => same_sqT s23 (hkt v), upd_same, s3 _ _ h2, nk⟩
    generalize upd H2 wl (.lst (ws.map V.str)) = H3 at *
    have back : ∀ H', Oth he H3 H' → Same H H' := fun H' t b u e => t _ _ (ne_of_none e hhe) (s23 _ _ e)
    refine ⟨_, rfl, _, rfl, _, rfl, g, kd, wl, he, ws, 0, 0, rfl, I, fun y hy => ?_, by decide, by decide, fun t j m' et l v H4 t4 I4 hl hv => ?_, fun e et l m' H4 t4 I4 hl => ?_⟩
    · have := sp.2.1 y hy
      omega
    · have rf := readT_facts ws 21 0 0 t j m' et
      have nod := rf.2.2 (by omega)
      have dep := t.depth_le_nodes
      have RL : readLine ws = if j = ws.length then .ok t else .error j := by
        unfold readLine
        rw [et]
      refine ⟨_, rfl, Nat.zero_le _, fun q0 hq0 => ?_⟩
      have s5 : Same H4 (upd H4 q0 (.lst [])) := same_upd hq0
      have I5 := I4.same s5
      refine ⟨.list [t.data], .list [], .lst (SqL.of (s5 _ _ hl)) (.cons (TV.mono s5 hv) .nil), .lst (SqL.of upd_same) .nil, shaped_one (by omega), rfl, _, rfl, ?_⟩
      rw [eqv_nil]
      refine iteT ⟨_, rfl, he, _, rfl, I5.get.1, _, rfl, _, _, rfl, .inl ⟨_, SqL.of I5.hwl, rfl⟩, rfl, _, rfl, ?_⟩
      rw [List.length_map]
      have ej : decide (V.int ((j : Nat) : Int) = V.int ((ws.length : Nat) : Int)) = decide (j = ws.length) := decide_eq_decide.mpr ⟨fun z => by injection z with z; omega, fun z => by rw [z]⟩
      rw [ej]
      refine bl_cases (fun c => ?_) (fun c => ?_)
      · rw [if_pos (of_decide_eq_true c)] at RL
        exact ⟨_, rfl, k t RL l v _ ((back _ t4).trans s5) (s5 _ _ hl) (TV.mono s5 hv)⟩
      · rw [if_neg (of_decide_eq_false c)] at RL
        exact ⟨_, rfl, he, _, rfl, I5.get.1, ke j RL _ ((back _ t4).trans s5)⟩
    · have RL : readLine ws = .error e := by
        unfold readLine
        rw [et]
      refine ⟨_, rfl, Nat.zero_le _, fun q0 hq0 => ?_⟩
      have s5 : Same H4 (upd H4 q0 (.lst [])) := same_upd hq0
      have I5 := I4.same s5
      refine ⟨.list [], .list [], .lst (SqL.of (s5 _ _ hl)) .nil, .lst (SqL.of upd_same) .nil, rfl, rfl, _, rfl, ?_⟩
      rw [eqv_nil]
      exact iteF (iteF ⟨_, rfl, he, _, rfl, I5.get.1, ke e RL _ ((back _ t4).trans s5)⟩)
theorem shaped_path (p : List Nat) : SeqAt.shaped (.list [.tuple ((pz p).map PyData.int)]) = true := by
  unfold SeqAt.shaped
  have c : (PyData.list [.tuple ((pz p).map PyData.int)]).canLay0 = true := by
    show PyData.canLayAll0 [.tuple ((pz p).map PyData.int)] = true
    simp [PyData.canLayAll0, PyData.canLay0, canLayAll_ints]
  have d : (PyData.list [.tuple ((pz p).map PyData.int)]).depth ≤ 64 := by
    show PyData.depthAll [.tuple ((pz p).map PyData.int)] + 1 ≤ 64
    simp only [PyData.depthAll, PyData.depth, depthAll_ints]
    omega
  rw [c, decide_eq_true d]
  rfl
def spDue (K : PySem.W.Frag) : Sp := fun vs H Q _ => ∃ x : Str, vs = [.str x] ∧ x.length ≤ 1000000 ∧ ∀ v H', Same H H' → Dp K H' v (readR x).data → Q v H'
theorem sc66 : FnScope ["sheet", "lines", "found", "wrong"] ["sheet"] (defScope (top 66)) := ⟨rfl, rfl, rfl, by decide +kernel, rfl, by decide +kernel, by decide +kernel⟩
theorem cl66 (T : Tx K mg w a) : Cl P w K mg base 26 "_law_term_due" (spDue K) := by
  obtain ⟨f, fd, F, hm⟩ := T.d66.ex
  refine ⟨f, fd, ["sheet"], lift0 (F.ok sc66 (fun vs H Q E h => ?_) (fun cdv A outer s H vs Q E hr h => ?_)), hm, F.kp, F.binds fun _ _ _ _ _ _ us hl => match us, hl with | [_], _ => rfl⟩
  · obtain ⟨x, rfl, _⟩ := h
    rfl
  · obtain ⟨x, rfl, hx, q⟩ := h
    refine ⟨_, (pss_cons (ps_set (i := 1) sc66.nd rfl (Or.inl rfl) (pe_split (pv 0) pe_str))
      (pss_cons (ps_set (i := 2) sc66.nd rfl (Or.inl rfl) (pe_cl (cl65 T) (hr.mono (by decide)) rfl passL (pa_cons (pe_cl0 (cl53 T) (hr.mono (by decide)) rfl passL) (pa_cons (pe_ix ix_list (pv 1) pe_int (fun _ _ => rfl)) pa_nil))))
      (pss_cons (ps_if (pt_not (pt_val (pe_callB call_isi (by rfl) T.nIsi boot_isinstance (pa_cons (pv 2) (pa_cons (pe_bltn (v := .ty "list") (by rfl) T.nList boot_list rfl) pa_nil))))) (pss_one (ps_ret (pe_tup (pa_cons pe_str (pa_cons pe_int (pa_cons (pv 2) pa_nil)))))) pss_nil)
      (pss_cons (ps_if (pt_cmpR op_gt (pe_callB call_len (by rfl) T.nLen PySem.boot_len (pa_cons (pv 1) pa_nil)) pe_int (nomark _)) (pss_one (ps_ret (pe_tup (pa_cons pe_str (pa_cons pe_int (pa_cons pe_int pa_nil)))))) pss_nil)
      (pss_cons (ps_set (i := 3) sc66.nd rfl (Or.inl rfl) (pe_cl (cl62 T) (hr.mono (by decide)) rfl passL (pa_cons (pe_ix ix_list (pv 2) pe_int (fun _ _ => rfl)) pa_nil)))
      (pss_one (ps_ret (pe_ifExp (pt_cmpR (op_eqD (hu64 hr)) (pv 3) (pe_lst pa_nil) (nomark _)) (pv 2) (pe_tup (pa_cons pe_str (pa_cons (pe_ix ix_list (pv 3) pe_int (fun _ _ => rfl)) pa_nil))))))))))), ?_⟩
    refine ⟨_, rfl, ⟨_, rfl⟩, x, "\n", rfl, rfl, (by decide +kernel), (by have : sizeLine = 16777216 := rfl; omega), fun l hl => ?_⟩
    have sp := split_small (x := x) (y := "\n") (s := 10) (by decide +kernel) (by decide +kernel)
    generalize els : Txt.split x "\n" = ls at *
    have s1 : Same H (upd H l (.lst (ls.map V.str))) := same_upd hl
    obtain ⟨l0, r, rfl⟩ : ∃ l0 r, ls = l0 :: r := by
      cases ls with
      | nil => exact absurd rfl sp.1
      | cons l0 r => exact ⟨l0, r, rfl⟩
    have x0 : l0.length ≤ x.length := sp.2.1 l0 List.mem_cons_self
    have RR : readR x = match readLine (Txt.split l0 " ") with
      | .error e => .text 0 e
      | .ok t => if 1 < (l0 :: r).length then .text 1 0 else fault t := by
      unfold readR
      rw [els]
      rfl
    have hl1 : upd H l (.lst ((l0 :: r).map V.str)) l = some (.lst ((l0 :: r).map V.str)) := upd_same
    generalize upd H l (.lst ((l0 :: r).map V.str)) = H1 at *
    refine ⟨rfl, fun g d H2 s2 hd hg => ⟨_, rfl, l, _, 0, .str l0, rfl, rfl, SqL.of (s2 _ _ hl1), atI_nat (j := 0) rfl, g, d, l0, rfl, hd, hg, by omega, fun t et l3 v H3 s3 hl3 hv => ?_, fun e et H3 s3 => ?_⟩⟩
    rotate_left
    · rw [et] at RR
      refine ⟨_, rfl, _, _, _, _, false, rfl, .ty "list", .base (.int _), kit_ty (by decide +kernel), false, rfl, iteT ⟨_, rfl, (by show 3 ≤ sizeLine; decide), fun p hp => ?_⟩⟩
      have s4 := same_upd (o := HO.tup [V.str "text", V.int 0, V.int ((e : Nat) : Int)]) hp
      refine q _ _ (s1.trans (s2.trans (s3.trans s4))) ?_
      rw [RR]
      exact .tup (SqT.of upd_same) (.cons (.str _) (.cons (.int _) (.cons (.int _) .nil)))
    · rw [et] at RR
      simp only at RR
      refine ⟨_, rfl, _, _, _, _, true, rfl, .ty "list", tyx_L (SqL.of hl3), kit_ty (by decide +kernel), true, rfl, iteF ?_⟩
      have s13 := s1.trans (s2.trans s3)
      refine ⟨_, rfl, _, _, rfl, .inl ⟨_, SqL.of (s3 _ _ (s2 _ _ hl1)), rfl⟩, _, _, rfl, rfl, _, rfl, ?_⟩
      rw [List.length_map]
      refine bl_cases (fun c => ?_) (fun c => ?_)
      · have c' : 1 < (l0 :: r).length := by
          have := of_decide_eq_true c
          omega
        rw [if_pos c'] at RR
        refine ⟨(by show 3 ≤ sizeLine; decide), fun p hp => ?_⟩
        have s4 := same_upd (o := HO.tup [V.str "text", V.int 1, V.int 0]) hp
        refine q _ _ (s13.trans s4) ?_
        rw [RR]
        exact .tup (SqT.of upd_same) (.cons (.str _) (.cons (.int _) (.cons (.int _) .nil)))
      · have c' : ¬ 1 < (l0 :: r).length := by
          have := of_decide_eq_false c
          omega
        rw [if_neg c'] at RR
        unfold fault at RR
        obtain ⟨f1, f2, f3⟩ := readLine_facts et
        refine ⟨_, rfl, l3, _, 0, v, rfl, rfl, SqL.of hl3, atI_nat (j := 0) rfl, v, t, rfl, hv, f1, by omega, f2, fun en lw H4 s4 hlw => ?_, fun p ep lw pq H4 s4 hlw hpq => ?_⟩
        · rw [en] at RR
          refine ⟨_, rfl, Nat.zero_le _, fun q0 hq0 => ?_⟩
          have s5 : Same H4 (upd H4 q0 (.lst [])) := same_upd hq0
          refine ⟨.list [], .list [], .lst (SqL.of (s5 _ _ hlw)) .nil, .lst (SqL.of upd_same) .nil, rfl, rfl, _, rfl, ?_⟩
          rw [eqv_nil]
          refine iteT ⟨_, rfl, q _ _ (s13.trans (s4.trans s5)) ?_⟩
          rw [RR]
          exact .lst (SqL.of ((s4.trans s5) _ _ hl3)) (.cons (TV.mono (s4.trans s5) hv) .nil)
        · rw [ep] at RR
          refine ⟨_, rfl, Nat.zero_le _, fun q0 hq0 => ?_⟩
          have s5 : Same H4 (upd H4 q0 (.lst [])) := same_upd hq0
          refine ⟨.list [.tuple ((pz p).map PyData.int)], .list [], .lst (SqL.of (s5 _ _ hlw)) (.cons (.tup (same_sqT s5 hpq) (dp_ints _)) .nil), .lst (SqL.of upd_same) .nil, shaped_path p, rfl, _, rfl, ?_⟩
          rw [eqv_nil]
          refine iteF ⟨_, rfl, lw, _, 0, .ref pq, rfl, rfl, SqL.of (s5 _ _ hlw), atI_nat (j := 0) rfl, (by show 2 ≤ sizeLine; decide), fun z hz => ?_⟩
          have s6 := same_upd (o := HO.tup [V.str "term", V.ref pq]) hz
          refine q _ _ (s13.trans (s4.trans (s5.trans s6))) ?_
          rw [RR]
          exact .tup (SqT.of upd_same) (.cons (.str _) (.cons (.tup (same_sqT (s5.trans s6) hpq) (dp_ints _)) .nil))
end
end K31
end
/-! part K31V -/
section
set_option Elab.async false
set_option linter.all false
set_option maxRecDepth 100000
set_option maxHeartbeats 4000000
/-! K31V: the law's bent texts. -/
namespace K31
open PySem PySem.Spec PyProof.Rows L2 TL
theorem app_len (x y : Str) : (x ++ y).length = x.length + y.length := by
  rw [← tl_len, tl_append, List.length_append, tl_len, tl_len]
theorem cutV_map (ws : List Str) (lo hi : Option Int) : ∃ us : List Str, cutV (ws.map V.str) lo hi = us.map V.str ∧ us.length ≤ ws.length ∧ ∀ u ∈ us, u ∈ ws := by
  unfold cutV
  rw [List.length_map]
  refine ⟨(ws.drop (HT.sIx ws.length 0 lo)).take (HT.sIx ws.length ws.length hi - HT.sIx ws.length 0 lo), ?_, ?_, fun u hu => ?_⟩
  · rw [List.map_take, List.map_drop]
  · rw [List.length_take, List.length_drop]
    omega
  · exact List.mem_of_mem_drop (List.mem_of_mem_take hu)
theorem join_ok {us : List Str} (h : ∀ u ∈ us, u.length ≤ 400) (l : us.length ≤ 1000) : (us.map (·.length)).sum + us.length * (Str.length " ") ≤ 16777216 ∧ (Txt.join " " us).length ≤ 900000 := by
  have z3 : (Str.length " ") = 1 := blank_len
  have h1 := sum_short h
  have h2 := join_len " " us
  rw [z3] at h2 ⊢
  omega
theorem one_sign (c : Nat) : (Str.mk #[c]).length = 1 := rfl
section
variable {P : Program} {w : World} {K : PySem.W.Frag} {mg : Str → Option Value} {base : Heap} {a : Ad}
def spBent : Sp := fun vs H Q _ => ∃ (st lc ll : Addr) (n t : Nat) (x : Str), vs = [.ref st, .str x] ∧ SO H st lc ll n t ∧ t ≤ 900000 ∧ x.length ≤ 400 ∧
  ∀ (y : Str) H' (t' : Nat), y.length ≤ 900000 → Stt st ll H H' → SO H' st lc ll n t' → t ≤ t' → t' ≤ t + 10 → Q (.str y) H'
theorem SO.fresh {H : Hp} {st lc ll : Addr} {n t : Nat} (I : SO H st lc ll n t) {p : Addr} (h : H p = none) : p ≠ st ∧ p ≠ ll := by
  obtain ⟨ls, l1, _⟩ := I.ls
  refine ⟨fun z => ?_, fun z => ?_⟩
  · rw [z, I.sd] at h
    cases h
  · rw [z, l1] at h
    cases h
theorem sc67 : FnScope ["state", "sheet", "at", "sign", "choice", "words", "spot"] ["state", "sheet"] (defScope (top 67)) := ⟨rfl, rfl, rfl, by decide +kernel, rfl, by decide +kernel, by decide +kernel⟩
theorem cl67 (T : Tx K mg w a) : Cl P w K mg base 4 "_law_bent_text" spBent := by
  obtain ⟨f, fd, F, hm⟩ := T.d67.ex
  refine ⟨f, fd, ["state", "sheet"], lift0 (F.ok sc67 (fun vs H Q E h => ?_) (fun cdv A outer s H vs Q E hr h => ?_)), hm, F.kp, F.binds fun _ _ _ _ _ _ us hl => match us, hl with | [_, _], _ => rfl⟩
  · obtain ⟨st, lc, ll, n, t, x, rfl, _⟩ := h
    rfl
  · obtain ⟨st, lc, ll, n, t, x, rfl, I, ht, hx, q⟩ := h
    refine ⟨_, (pss_cons (ps_par (i := 2) (j := 3) rfl sc67.nd rfl rfl (by decide) rfl rfl (pa_cons (pe_cl (cl51 T) (hr.mono (by decide)) rfl passL (pa_cons (pv 0) (pa_cons (pe_op op_add (pe_callB call_len (by rfl) T.nLen PySem.boot_len (pa_cons (pv 1) pa_nil)) pe_int) pa_nil))) (pa_cons (pe_cl (cl52 T) (hr.mono (by decide)) rfl passL (pa_cons (pv 0) (pa_cons (pe_callTy (call_listTx rfl) (by rfl) T.nList boot_list (pa_cons pe_str pa_nil)) pa_nil))) pa_nil)) rfl)
      (pss_cons (ps_set (i := 4) sc67.nd rfl (Or.inl rfl) (pe_cl (cl51 T) (hr.mono (by decide)) rfl passL (pa_cons (pv 0) (pa_cons pe_int pa_nil))))
      (pss_cons (ps_if (pt_cmpR op_eq (pv 4) pe_int (nomark _)) (pss_one (ps_ret (pe_op op_add_str (pe_slice sl_str (pv 1) po_none (po_some (pv 2))) (pe_slice sl_str (pv 1) (po_some (pe_op op_add (pv 2) pe_int)) po_none)))) pss_nil)
      (pss_cons (ps_if (pt_cmpR op_eq (pv 4) pe_int (nomark _)) (pss_one (ps_ret (pe_op op_add_str (pe_op op_add_str (pe_slice sl_str (pv 1) po_none (po_some (pv 2))) (pv 3)) (pe_slice sl_str (pv 1) (po_some (pv 2)) po_none)))) pss_nil)
      (pss_cons (ps_if (pt_cmpR op_eq (pv 4) pe_int (nomark _)) (pss_one (ps_ret (pe_op op_add_str (pe_op op_add_str (pe_slice sl_str (pv 1) po_none (po_some (pv 2))) (pv 3)) (pe_slice sl_str (pv 1) (po_some (pe_op op_add (pv 2) pe_int)) po_none)))) pss_nil)
      (pss_cons (ps_set (i := 5) sc67.nd rfl (Or.inl rfl) (pe_split (pv 1) pe_str))
      (pss_cons (ps_set (i := 6) sc67.nd rfl (Or.inl rfl) (pe_cl (cl51 T) (hr.mono (by decide)) rfl passL (pa_cons (pv 0) (pa_cons (pe_callB call_len (by rfl) T.nLen PySem.boot_len (pa_cons (pv 5) pa_nil)) pa_nil))))
      (pss_cons (ps_if (pt_cmpR op_eq (pv 4) pe_int (nomark _)) (pss_one (ps_ret (pe_join pe_str (pe_op op_cat (pe_slice sl_list (pv 5) po_none (po_some (pv 6))) (pe_slice sl_list (pv 5) (po_some (pe_op op_add (pv 6) pe_int)) po_none))))) pss_nil)
      (pss_one (ps_ret (pe_join pe_str (pe_op op_cat (pe_op op_cat (pe_slice sl_list (pv 5) po_none (po_some (pv 6))) (pe_lst (pa_cons (pe_cl (cl52 T) (hr.mono (by decide)) rfl passL (pa_cons (pv 0) (pa_cons (pe_op op_cat (pv 5) (pe_lst (pa_cons pe_str (pa_cons pe_str (pa_cons pe_str (pa_cons pe_str (pa_cons pe_str pa_nil))))))) pa_nil))) pa_nil))) (pe_slice sl_list (pv 5) (po_some (pv 6)) po_none))))))))))))), ?_⟩
    have size1 : x.length ≤ sizeLine := by
      have : sizeLine = 16777216 := rfl
      omega
    -- at, sign = ..
    refine ⟨_, rfl, _, rfl, _, _, rfl, ⟨size1, rfl⟩, _, _, rfl, rfl, st, lc, ll, n, t, _, rfl, I, by omega, by omega, by omega, fun at_ H1 a1 a2 s1 I1 => ?_⟩
    refine ⟨_, rfl, _, rfl, (by decide +kernel), fun l hl => ?_⟩
    have s2 := same_upd (o := HO.lst ((tl "0129 \n-/natepsmbo").map fun c => V.str ⟨#[c]⟩)) hl
    refine ⟨st, lc, ll, l, n, t + 1, _, rfl, I1.same s2, by omega, SqL.of upd_same, (I1.fresh hl).2, (by rw [List.length_map]; decide +kernel), (by rw [List.length_map]; decide +kernel), fun sg H3 hsg s3 I3 => ?_⟩
    obtain ⟨cs, _, rfl⟩ := List.mem_map.mp hsg
    have s13 : Stt st ll H H3 := s1.trans ((Stt.of s2).trans s3)
    refine ⟨_, _, rfl, ?_⟩
    -- choice
    refine ⟨_, rfl, st, lc, ll, n, t + 1 + 1, 5, rfl, I3, by omega, by decide, by decide, fun ch H4 c1 c2 s4 I4 => ?_⟩
    have s14 := s13.trans s4
    have cz : ∀ lo hi, (cutS x lo hi).length ≤ 400 := fun lo hi => Nat.le_trans (cutS_length x lo hi) hx
    have one : (Str.mk #[cs]).length = 1 := rfl
    have sl : sizeLine = 16777216 := rfl
    refine ⟨_, rfl, rfl, _, rfl, ?_⟩
    refine bl_cases (fun _ => ?_) (fun _ => ?_)
    · refine ⟨_, rfl, _, rfl, _, rfl, x, rfl, size1, _, rfl, _, rfl, _, _, rfl, rfl, _, rfl, x, rfl, size1, _, _, rfl, rfl, ?_, ?_⟩
      · have := cz none (some at_)
        have := cz (some (at_ + 1)) none
        omega
      · refine q _ _ _ ?_ s14 I4 (by omega) (by omega)
        rw [app_len]
        have := cz none (some at_)
        have := cz (some (at_ + 1)) none
        omega
    refine ⟨_, rfl, rfl, _, rfl, ?_⟩
    refine bl_cases (fun _ => ?_) (fun _ => ?_)
    · refine ⟨_, rfl, _, rfl, _, rfl, x, rfl, size1, _, rfl, _, _, rfl, rfl, ?_, _, rfl, _, rfl, _, rfl, x, rfl, size1, _, _, rfl, rfl, ?_, ?_⟩
      · have := cz none (some at_)
        omega
      · rw [app_len]
        have := cz none (some at_)
        have := cz (some at_) none
        omega
      · refine q _ _ _ ?_ s14 I4 (by omega) (by omega)
        rw [app_len, app_len]
        have := cz none (some at_)
        have := cz (some at_) none
        omega
    refine ⟨_, rfl, rfl, _, rfl, ?_⟩
    refine bl_cases (fun _ => ?_) (fun _ => ?_)
    · refine ⟨_, rfl, _, rfl, _, rfl, x, rfl, size1, _, rfl, _, _, rfl, rfl, ?_, _, rfl, _, rfl, _, _, rfl, rfl, _, rfl, x, rfl, size1, _, _, rfl, rfl, ?_, ?_⟩
      · have := cz none (some at_)
        omega
      · rw [app_len]
        have := cz none (some at_)
        have := cz (some (at_ + 1)) none
        omega
      · refine q _ _ _ ?_ s14 I4 (by omega) (by omega)
        rw [app_len, app_len]
        have := cz none (some at_)
        have := cz (some (at_ + 1)) none
        omega
    -- words, spot
    refine ⟨_, rfl, ⟨_, rfl⟩, x, " ", rfl, rfl, (by decide +kernel), (by omega), fun wl hwl => ?_⟩
    have sp := split_small (x := x) (y := " ") (s := 32) (by decide +kernel) (by decide +kernel)
    generalize Txt.split x " " = ws at *
    have hw : ∀ u ∈ ws, u.length ≤ 400 := fun u hu => Nat.le_trans (sp.2.1 u hu) hx
    have lw : ws.length ≤ 401 := by omega
    have l0 : 0 < ws.length := by
      cases ws with
      | nil => exact absurd rfl sp.1
      | cons u r => exact Nat.succ_pos _
    have s5 := same_upd (o := HO.lst (ws.map V.str)) hwl
    have fw := I4.fresh hwl
    refine ⟨_, rfl, _, rfl, _, _, rfl, .inl ⟨_, SqL.of upd_same, rfl⟩, st, lc, ll, n, t + 1 + 1 + 1, _, rfl, I4.same s5, by omega, by rw [List.length_map]; omega, by rw [List.length_map]; omega, fun spt H6 p1 p2 s6 I6 => ?_⟩
    have hwl6 : H6 wl = some (.lst (ws.map V.str)) := s6 _ _ fw.1 fw.2 upd_same
    have s16 := s14.trans ((Stt.of s5).trans s6)
    refine ⟨_, rfl, rfl, _, rfl, ?_⟩
    refine bl_cases (fun _ => ?_) (fun _ => ?_)
    · refine ⟨⟨_, rfl⟩, _, rfl, _, rfl, _, rfl, wl, _, rfl, SqL.of hwl6, fun la hla => ?_⟩
      obtain ⟨u1, e1, b1, m1⟩ := cutV_map ws none (some spt)
      rw [e1]
      have s7 := same_upd (o := HO.lst (u1.map V.str)) hla
      refine ⟨_, rfl, _, rfl, _, _, rfl, rfl, _, rfl, wl, _, rfl, SqL.of (s7 _ _ hwl6), fun lb hlb => ?_⟩
      obtain ⟨u2, e2, b2, m2⟩ := cutV_map ws (some (spt + 1)) none
      rw [e2]
      have s8 := same_upd (o := HO.lst (u2.map V.str)) hlb
      refine ⟨la, lb, _, _, rfl, rfl, s8 _ _ upd_same, upd_same, ?_, fun lz hlz => ?_⟩
      · rw [List.length_map, List.length_map]
        omega
      rw [← List.map_append]
      have s9 := same_upd (o := HO.lst ((u1 ++ u2).map V.str)) hlz
      have jo := join_ok (us := u1 ++ u2) (fun u hu => by
        rcases List.mem_append.mp hu with hu | hu
        · exact hw u (m1 u hu)
        · exact hw u (m2 u hu)) (by rw [List.length_append]; omega)
      exact ⟨" ", lz, u1 ++ u2, rfl, rfl, .inl (SqL.of upd_same), jo.1, q _ _ _ jo.2 (s16.trans (Stt.of (s7.trans (s8.trans s9)))) (I6.same (s7.trans (s8.trans s9))) (by omega) (by omega)⟩
    · refine ⟨⟨_, rfl⟩, _, rfl, _, rfl, _, rfl, wl, _, rfl, SqL.of hwl6, fun la hla => ?_⟩
      obtain ⟨u1, e1, b1, m1⟩ := cutV_map ws none (some spt)
      rw [e1]
      have s7 := same_upd (o := HO.lst (u1.map V.str)) hla
      refine ⟨_, rfl, _, rfl, (by show 5 ≤ sizeLine; decide), fun lf hlf => ?_⟩
      have s8 := same_upd (o := HO.lst [V.str "none", V.str "7", V.str "-2", V.str "1/2", V.str "4/2"]) hlf
      refine ⟨wl, lf, _, _, rfl, rfl, (s7.trans s8) _ _ hwl6, upd_same, ?_, fun lg hlg => ?_⟩
      · rw [List.length_map]
        show ws.length + 5 ≤ sizeLine
        omega
      have s9 := same_upd (o := HO.lst (ws.map V.str ++ [V.str "none", V.str "7", V.str "-2", V.str "1/2", V.str "4/2"])) hlg
      have s79 := s7.trans (s8.trans s9)
      have I9 := I6.same s79
      have fla := I6.fresh hla
      have fg := (I6.same (s7.trans s8)).fresh hlg
      refine ⟨st, lc, ll, lg, n, t + 1 + 1 + 1 + 1, _, rfl, I9, by omega, SqL.of upd_same, fg.2, ?_, ?_, fun v H10 hv s10 I10 => ?_⟩
      · rw [List.length_append, List.length_map]
        omega
      · rw [List.length_append, List.length_map]
        show ws.length + 5 < 1000000
        omega
      have hv' : ∃ u : Str, v = .str u ∧ u.length ≤ 400 := by
        rcases List.mem_append.mp hv with hv | hv
        · obtain ⟨u, hu, rfl⟩ := List.mem_map.mp hv
          exact ⟨u, rfl, hw u hu⟩
        · simp only [List.mem_cons, List.not_mem_nil, or_false] at hv
          rcases hv with e | e | e | e | e
          · exact ⟨_, e, by decide +kernel⟩
          · exact ⟨_, e, by decide +kernel⟩
          · exact ⟨_, e, by decide +kernel⟩
          · exact ⟨_, e, by decide +kernel⟩
          · exact ⟨_, e, by decide +kernel⟩
      obtain ⟨u, rfl, hu⟩ := hv'
      have hla10 : H10 la = some (.lst (u1.map V.str)) := s10 _ _ fla.1 fla.2 ((s8.trans s9) _ _ upd_same)
      have hwl10 : H10 wl = some (.lst (ws.map V.str)) := s10 _ _ fw.1 fw.2 (s79 _ _ hwl6)
      refine ⟨(by show 1 ≤ sizeLine; decide), fun lh hlh => ?_⟩
      have s11 := same_upd (o := HO.lst [V.str u]) hlh
      refine ⟨la, lh, _, _, rfl, rfl, s11 _ _ hla10, upd_same, ?_, fun li hli => ?_⟩
      · rw [List.length_map]
        show u1.length + 1 ≤ sizeLine
        omega
      have s12 := same_upd (o := HO.lst (u1.map V.str ++ [V.str u])) hli
      refine ⟨_, rfl, _, rfl, _, rfl, wl, _, rfl, SqL.of ((s11.trans s12) _ _ hwl10), fun lj hlj => ?_⟩
      obtain ⟨u2, e2, b2, m2⟩ := cutV_map ws (some spt) none
      rw [e2]
      have s13' := same_upd (o := HO.lst (u2.map V.str)) hlj
      refine ⟨li, lj, _, _, rfl, rfl, s13' _ _ upd_same, upd_same, ?_, fun lz hlz => ?_⟩
      · rw [List.length_append, List.length_map, List.length_map]
        show u1.length + 1 + u2.length ≤ sizeLine
        omega
      have e3 : u1.map V.str ++ [V.str u] ++ u2.map V.str = (u1 ++ [u] ++ u2).map V.str := by simp
      rw [e3]
      have s14' := same_upd (o := HO.lst ((u1 ++ [u] ++ u2).map V.str)) hlz
      have jo := join_ok (us := u1 ++ [u] ++ u2) (fun y hy => by
        rcases List.mem_append.mp hy with hy | hy
        · rcases List.mem_append.mp hy with hy | hy
          · exact hw y (m1 y hy)
          · rw [List.mem_singleton.mp hy]
            exact hu
        · exact hw y (m2 y hy)) (by rw [List.length_append, List.length_append, List.length_singleton]; omega)
      have sf := s11.trans (s12.trans (s13'.trans s14'))
      exact ⟨" ", lz, u1 ++ [u] ++ u2, rfl, rfl, .inl (SqL.of upd_same), jo.1, q _ _ _ jo.2 (s16.trans ((Stt.of s79).trans (s10.trans (Stt.of sf)))) (I10.same sf) (by omega) (by omega)⟩
end
end K31
end
/-! part K31Z -/
section
set_option Elab.async false
set_option linter.all false
set_option maxRecDepth 100000
set_option maxHeartbeats 4000000
/-! K31Z: _law_heard of a lambda that reads a text. -/
namespace K31
open PySem PySem.Spec PyProof.Rows L2 TL LamX
/-- a def of the module, its object told -/
structure Lk (K : PySem.W.Frag) (mg : Str → Option Value) (x : Str) (st : Stmt) (g : Addr) (cdv : Value) (ps : List Str) : Prop where
  ob : ∃ (dV kV doc pm ct oc : Value) (an od : Option Addr) (osl : Array (Option Value)), K.lookup g = some ⟨oc, od, .func (PySem.W.fnOf x x (defArgs st) (defBody st) (defScope st) dV kV doc pm an cdv ct), osl⟩ ∧
    Binds K (PySem.W.fnOf x x (defArgs st) (defBody st) (defScope st) dV kV doc pm an cdv ct) ps []
  cd : PySem.W.codeIn K cdv x = true
  gl : mg x = some (.ref g)
  kp : PySem.W.keepIn K (.ref g) = true
theorem sc68 : FnScope ["call", "error"] ["call"] (defScope (top 68)) := ⟨rfl, rfl, rfl, by decide +kernel, rfl, by decide +kernel, by decide +kernel⟩
section
variable {X : Cx} {a : Ad}
theorem readR_tm {x : Str} {t : Tm} (h : readR x = .tm t) : (readR x).data = .list [t.data] := by rw [h]; rfl
/-- _law_heard(lambda ..: read_term(nm)) -/
theorem pe_heard {Tt : List (Addr × Str)} {g c P : Addr} {cdg : Value} {i : Nat} {nm : Str} {params : Arguments} {scope : Scope} {p p1 p2 p3 lpos pos : Pos} (T : Tx X.K X.mg X.w a) (LK : Lk X.K X.mg "_law_heard" (top 68) g cdg ["call"]) (hg : Gl X "_law_heard")
    (TB : TabB X.base X.mg c P) (hcode : X.env.code = .ref c) (hmT : (P, X.env.qual ++ "<lambda>") ∈ Tt) (hu : ∀ q ∈ Tt, q.1 = P → q.2 = X.env.qual ++ "<lambda>") (hr : Room 40 X.A) (L : LamOk X.env.scope scope nm) (pa : LamPar params scope) (hi : X.N[i]? = some nm)
    (hgr : scope.names.lookup ("read_term" : Str) = some .globalImplicit) (hd : (nm == ("__debug__" : Str)) = false := by decide) (hcd : (nm == ("__classdict__" : Str)) = false := by decide) :
    PE X (.Call (.Name "_law_heard" p) [.Lambda params (.Call (.Name "read_term" p1) [.Name nm p2] [] p3) scope lpos] [] pos) (fun σ H Q => Tabs Tt H ∧ ∃ x : Str, σ[i]? = some (some (.str x)) ∧ x.length ≤ 1000000 ∧
      ∀ v H', ExtN H H' → Tabs Tt H' → Dp X.K H' v (readR x).data → Q v H') := by
  obtain ⟨dV0, kV0, doc0, pm0, ct0, oc0, an0, od0, osl0, lk, hb⟩ := LK.ob
  refine ⟨fun pins s σ H Q I h => ?_⟩
  obtain ⟨hT, x, hσ, hx, q⟩ := h
  refine wpAny_Call_Name_kw (ld_glob I hg LK.gl ?_ (by decide))
  refine PySem.W.callWith_K (h₀ := X.base) I.ok.mod.kin LK.kp ?_ (by rfl) (by rfl)
  show wpAny _ _ (spliced ((false, eval (.Lambda params (.Call (.Name "read_term" p1) [.Name nm p2] [] p3) scope lpos) X.env) :: backTo pos (starEach [] X.env))) _ _ s
  refine Calls.spliced_cons (lam_make3 I TB hcode hmT hu hT pa (L.has I.ok) fun f c' dV doc pm ctv H1 s' I1 eN T1 dA hf hfn hfr hco => ?_)
  refine Calls.spliced_nil ⟨I1.kIn, ?_⟩
  have rc : codeAny (model X.prog X.w) X.A (.call (.ref g) ⟨[.ref f], []⟩) (CR L2.CX0 X.stack X.prog X.w H1 s' Q (fun _ _ _ => False)) s' := by
    refine run_ofS (k := 38) (N := ["call", "error"]) (ps := ["call"]) (us := [.ref f]) (vs := [.ref f]) lk LK.cd sc68 (hr.mono (by decide)) I1.env0 (hb s' [.ref f] I1.kIn rfl) (.cons rfl .nil) rfl fun hr' => ?_
    refine ⟨_, pss_one (ps_try_asL (X := cxOf L2.CX0 X.prog X.w X.K X.mg X.base ["call", "error"] "_law_heard" (defScope (top 68)) g cdg X.A X.stack s' H1 (fun _ _ _ => False)) (i := 1) (n := "error")
      (tb := fun W D σZ HZ => ∃ Ech : XK, tRet (tLst (tCons (fun σZ HZ Q => (∀ cls d H', Ech cls d H' → W cls d σZ H') ∧ σZ[0]? = some (some (.ref f)) ∧ HZ c' = some (CodeO c' (X.env.qual ++ "<lambda>")) ∧ tCall (spRead X.K a) [] Ech (tCons (tVar 0) tNil) [some (.str x)] HZ Q) tNil)) D σZ HZ)
      rfl rfl sc68.nd rfl rfl (fun W pn xe tk => ?_)
      (AsOk.cons (c := .ref a.B) ⟨rfl, by decide, .inl T.errs.gB⟩ (fun ae ob cls d pn hz hf => pss_one (ps_ret (pe_tup (pa_cons pe_str (pa_cons (pe_xf T.errs.xB T.errs.nL hz hf (pv 1)) (pa_cons (pe_xf T.errs.xB T.errs.nW hz hf (pv 1)) pa_nil))))))
        (AsOk.cons (c := .ref a.T) ⟨rfl, by decide, .inl T.errs.gT⟩ (fun ae ob cls d pn hz hf => pss_one (ps_ret (pe_tup (pa_cons pe_str (pa_cons (pe_xf T.errs.xT T.errs.nP hz hf (pv 1)) pa_nil))))) .nil))), ?_⟩
    · refine ⟨fun pinsZ sZ σZ HZ D IZ hz => ?_⟩
      obtain ⟨Ech, hz⟩ := hz
      exact (pss_one (ps_ret (pe_lst (pa_cons (pe_act3 (E := Ech) (j := 0) (a := "call") I1 L hi hσ dA hf hfn hfr tk hr' (fun A outer s H hr2 => pe_cl (cl47 T) (hr2.mono (by decide)) hgr (passes_call (W := fun cls d _ H => Ech cls d H) (takes_of rfl rfl rfl rfl) fun _ _ _ _ h => h) (pa_cons (pv (X := lamCx3 X nm A outer s H Ech scope f c') 0 rfl (.inr (.inr L.free)) hd hcd) pa_nil)) rfl (.inl rfl)) pa_nil)))).run pinsZ sZ σZ HZ D IZ hz
    · have end_ : ∀ v H', Same H1 H' → Dp X.K H' v (readR x).data → Q v H' := fun v H' s1 hv => q v H' (eN.trans (ExtN.of s1)) (T1.ext s1) hv
      refine ⟨fun cls d H' => Same H1 H' ∧ ((∃ (l w : Nat) (dd : Addr), readR x = .text l w ∧ cls = .ref a.B ∧ d = some dd ∧ H' dd = some (.xd [("word", .int ((w : Nat) : Int)), ("line", .int ((l : Nat) : Int))])) ∨
        ∃ (pt : List Nat) (dd pq : Addr), readR x = .path pt ∧ cls = .ref a.T ∧ d = some dd ∧ H' dd = some (.xd [("path", .ref pq)]) ∧ SqT X.K H' pq ((pz pt).map V.int)), ⟨fun cls d H' hE => ?_, rfl, hco, _, rfl, x, rfl, hx, fun t et v H2 s2 hv => ?_, fun l w et d H2 s2 hx2 => ?_, fun pt et d pq H2 s2 hx2 hpq => ?_⟩⟩
      · obtain ⟨s1, ⟨l, w, dd, er, rfl, rfl, hdd⟩ | ⟨pt, dd, pq, er, rfl, rfl, hdd, hpq⟩⟩ := hE
        · refine ⟨true, T.errs.bb, fun _ ae hae => ?_, fun z => by cases z⟩
          refine ⟨_, rfl, rfl, rfl, dd, _, _, rfl, hdd, rfl, _, rfl, rfl, rfl, dd, _, _, rfl, hdd, rfl, (by show 3 ≤ sizeLine; decide), fun pz' hpz => ?_⟩
          refine end_ _ _ (s1.trans (same_upd hpz)) ?_
          rw [er]
          exact .tup (SqT.of upd_same) (.cons (.str _) (.cons (.int _) (.cons (.int _) .nil)))
        · refine ⟨false, T.errs.tb, (fun z => by cases z), fun _ => ⟨true, T.errs.tt, fun _ ae hae => ?_, fun z => by cases z⟩⟩
          refine ⟨_, rfl, rfl, rfl, dd, _, _, rfl, hdd, rfl, (by show 2 ≤ sizeLine; decide), fun pz' hpz => ?_⟩
          refine end_ _ _ (s1.trans (same_upd hpz)) ?_
          rw [er]
          exact .tup (SqT.of upd_same) (.cons (.str _) (.cons (.tup (same_sqT (same_upd hpz) hpq) (dp_ints _)) .nil))
      · refine ⟨(by show 1 ≤ sizeLine; decide), fun l hl => end_ _ _ (s2.trans (same_upd hl)) ?_⟩
        rw [et]
        exact .lst (SqL.of upd_same) (.cons (TV.mono (same_upd hl) hv) .nil)
      · exact ⟨s2, .inl ⟨l, w, d, et, rfl, rfl, hx2⟩⟩
      · exact ⟨s2, .inr ⟨pt, d, pq, et, rfl, rfl, hx2, hpq⟩⟩
  refine wpAny_call (codeAny_mono rc fun r s2 hq => ?_)
  cases r with
  | error e => exact (show False from hq).elim
  | ok fl =>
    cases fl with
    | ret u => exact I1.after hq
    | next => exact False.elim hq
    | brk => exact False.elim hq
    | cont => exact False.elim hq
end
end K31
end
/-! part K31W -/
section
set_option Elab.async false
set_option linter.all false
set_option maxRecDepth 100000
set_option maxHeartbeats 4000000
/-! K31W: the plain laws: a text gives its paper back; what is shown is short. -/
namespace K31
open PySem PySem.Spec PyProof.Rows L2 TL

/-! ### sizes -/
def Tm.Bd : Tm → Prop
  | .leaf _ is => ∀ i ∈ is, i.natAbs < 10 ^ 31
  | .one _ is a => (∀ i ∈ is, i.natAbs < 10 ^ 31) ∧ a.Bd
  | .two _ is a b => (∀ i ∈ is, i.natAbs < 10 ^ 31) ∧ a.Bd ∧ b.Bd
theorem digs_lt : ∀ (l : List Nat), (∀ c ∈ l, c ≤ 57) → NumText.digitsVal l < 10 ^ l.length := by
  intro l
  have go : ∀ (r : List Nat), (∀ c ∈ r, c ≤ 57) → NumText.digitsVal r.reverse < 10 ^ r.length := by
    intro r
    induction r with
    | nil =>
      intro _
      exact (by decide : (0 : Nat) < 10 ^ 0)
    | cons c r ih =>
      intro h
      have h1 := h c List.mem_cons_self
      have h2 := ih fun d hd => h d (List.mem_cons_of_mem _ hd)
      rw [List.reverse_cons, digs_snoc, List.length_cons, Nat.pow_succ]
      omega
  intro h
  have z := go l.reverse fun c hc => h c (List.mem_reverse.mp hc)
  rw [List.reverse_reverse, List.length_reverse] at z
  exact z
theorem intOf_bd {x : Str} {z : Int} (h : intOf x = some z) : z.natAbs < 10 ^ 31 := by
  unfold intOf at h
  split at h
  · rename_i ok
    injection h with h
    unfold okFigs at ok
    simp only [Bool.and_eq_true, decide_eq_true_eq, List.all_eq_true] at ok
    obtain ⟨⟨⟨_, l⟩, d⟩, _⟩ := ok
    have b := digs_lt (figs (tl x)) fun c hc => by
      have := d c hc
      unfold isDig at this
      rw [Bool.and_eq_true, decide_eq_true_eq, decide_eq_true_eq] at this
      exact this.2
    have p : 10 ^ (figs (tl x)).length ≤ 10 ^ 31 := Nat.pow_le_pow_right (by decide) l
    have v : z.natAbs = NumText.digitsVal (figs (tl x)) := by
      rw [← h]
      unfold valFigs
      split <;> simp
    omega
  · cases h
theorem takeI_bd {ws : List Str} : ∀ {n i : Nat} {zs : List Int} {j : Nat}, takeI ws n i = .ok (zs, j) → ∀ z ∈ zs, z.natAbs < 10 ^ 31
  | 0, i, zs, j, h => by
    unfold takeI at h
    cases h
    intro z hz
    cases hz
  | n + 1, i, zs, j, h => by
    unfold takeI at h
    cases e : ws[i]?.bind intOf with
    | none =>
      rw [e] at h
      cases h
    | some z =>
      rw [e] at h
      simp only at h
      cases e2 : takeI ws n (i + 1) with
      | error q =>
        rw [e2] at h
        cases h
      | ok q =>
        obtain ⟨zs', j'⟩ := q
        rw [e2] at h
        cases h
        intro y hy
        rcases List.mem_cons.mp hy with rfl | hy
        · obtain ⟨x, _, hx⟩ := Option.bind_eq_some_iff.mp e
          exact intOf_bd hx
        · exact takeI_bd e2 y hy
theorem mkTm_bd {w : W} {is : List Int} {ks : List Tm} (hi : ∀ z ∈ is, z.natAbs < 10 ^ 31) (hk : ∀ k ∈ ks, k.Bd) : (mkTm w is ks).Bd := by
  match ks, hk with
  | [], _ => exact hi
  | [a], hk => exact ⟨hi, hk a List.mem_cons_self⟩
  | a :: b :: r, hk => exact ⟨hi, hk a List.mem_cons_self, hk b (List.mem_cons_of_mem _ List.mem_cons_self)⟩
theorem readT_bd (ws : List Str) : ∀ (f i m : Nat) (t : Tm) (j m' : Nat), readT ws f i m = .ok (t, j, m') → t.Bd := by
  intro f
  induction f with
  | zero =>
    intro i m t j m' h
    unfold readT at h
    cases h
  | succ f ih =>
    have ihk : ∀ (n j m : Nat) (as : List Tm) (j' m' : Nat), readKs ws f n j m = .ok (as, j', m') → ∀ k ∈ as, k.Bd := by
      intro n
      induction n with
      | zero =>
        intro j m as j' m' h
        unfold readKs at h
        cases h
        intro k hk
        cases hk
      | succ n ihn =>
        intro j m as j' m' h
        unfold readKs at h
        cases e : readT ws f j m with
        | error q =>
          rw [e] at h
          cases h
        | ok q =>
          obtain ⟨a, j1, m1⟩ := q
          rw [e] at h
          simp only at h
          cases e2 : readKs ws f n j1 m1 with
          | error q =>
            rw [e2] at h
            cases h
          | ok q =>
            obtain ⟨as', j2, m2⟩ := q
            rw [e2] at h
            cases h
            intro k hk
            rcases List.mem_cons.mp hk with rfl | hk
            · exact ih _ _ _ _ _ e
            · exact ihn _ _ _ _ _ e2 k hk
    intro i m t j m' h
    rw [readT_succ] at h
    by_cases c : m = 20
    · rw [if_pos c] at h
      cases h
    · rw [if_neg c] at h
      cases e0 : ws[i]?.bind W.of with
      | none =>
        rw [e0] at h
        cases h
      | some w =>
        rw [e0] at h
        simp only at h
        cases e1 : takeI ws w.ni (i + 1) with
        | error q =>
          rw [e1] at h
          cases h
        | ok q =>
          obtain ⟨is, j1⟩ := q
          rw [e1] at h
          simp only at h
          cases e2 : readKs ws f w.nk j1 (m + 1) with
          | error q =>
            rw [e2] at h
            cases h
          | ok q =>
            obtain ⟨ks, j2, m2⟩ := q
            rw [e2] at h
            cases h
            exact mkTm_bd (takeI_bd e1) (ihk _ _ _ _ _ _ e2)
/-- where a reading stops is no further than the words go -/
theorem readT_stop (ws : List Str) : ∀ (f i m e : Nat), readT ws f i m = .error e → i ≤ ws.length → e ≤ ws.length := by
  have hI : ∀ (n i e : Nat), takeI ws n i = .error e → i ≤ ws.length → e ≤ ws.length := by
    intro n
    induction n with
    | zero =>
      intro i e h _
      cases h
    | succ n ih =>
      intro i e h le
      unfold takeI at h
      cases e1 : ws[i]?.bind intOf with
      | none =>
        rw [e1] at h
        cases h
        exact le
      | some z =>
        rw [e1] at h
        simp only at h
        have lt : i < ws.length := by
          rcases Nat.lt_or_ge i ws.length with l | l
          · exact l
          · rw [List.getElem?_eq_none l] at e1
            cases e1
        cases e2 : takeI ws n (i + 1) with
        | error q =>
          rw [e2] at h
          cases h
          exact ih _ _ e2 lt
        | ok q =>
          rw [e2] at h
          cases h
  have hIo : ∀ (n i : Nat) (zs : List Int) (j : Nat), takeI ws n i = .ok (zs, j) → i ≤ ws.length → j ≤ ws.length := by
    intro n
    induction n with
    | zero =>
      intro i zs j h le
      unfold takeI at h
      cases h
      exact le
    | succ n ih =>
      intro i zs j h le
      unfold takeI at h
      cases e : ws[i]?.bind intOf with
      | none =>
        rw [e] at h
        cases h
      | some z =>
        rw [e] at h
        simp only at h
        have lt : i < ws.length := by
          rcases Nat.lt_or_ge i ws.length with l | l
          · exact l
          · rw [List.getElem?_eq_none l] at e
            cases e
        cases e2 : takeI ws n (i + 1) with
        | error q =>
          rw [e2] at h
          cases h
        | ok q =>
          obtain ⟨zs', j'⟩ := q
          rw [e2] at h
          cases h
          exact ih _ _ _ e2 lt
  intro f
  induction f with
  | zero =>
    intro i m e h le
    unfold readT at h
    cases h
    exact le
  | succ f ih =>
    have ihk : ∀ (n j m e : Nat), readKs ws f n j m = .error e → j ≤ ws.length → e ≤ ws.length := by
      intro n
      induction n with
      | zero =>
        intro j m e h _
        cases h
      | succ n ihn =>
        intro j m e h le
        unfold readKs at h
        cases e1 : readT ws f j m with
        | error q =>
          rw [e1] at h
          cases h
          exact ih _ _ _ e1 le
        | ok q =>
          obtain ⟨a, j1, m1⟩ := q
          rw [e1] at h
          simp only at h
          cases e2 : readKs ws f n j1 m1 with
          | error q =>
            rw [e2] at h
            cases h
            exact ihn _ _ _ e2 (readT_at ws _ _ _ _ _ _ e1).2
          | ok q =>
            rw [e2] at h
            cases h
    intro i m e h le
    rw [readT_succ] at h
    by_cases c : m = 20
    · rw [if_pos c] at h
      cases h
      exact le
    · rw [if_neg c] at h
      cases e0 : ws[i]?.bind W.of with
      | none =>
        rw [e0] at h
        cases h
        exact le
      | some w =>
        rw [e0] at h
        simp only at h
        have lt : i < ws.length := by
          rcases Nat.lt_or_ge i ws.length with l | l
          · exact l
          · rw [List.getElem?_eq_none l] at e0
            cases e0
        cases e1 : takeI ws w.ni (i + 1) with
        | error q =>
          rw [e1] at h
          cases h
          exact hI _ _ _ e1 lt
        | ok q =>
          obtain ⟨is, j1⟩ := q
          rw [e1] at h
          simp only at h
          cases e2 : readKs ws f w.nk j1 (m + 1) with
          | error q =>
            rw [e2] at h
            cases h
            exact ihk _ _ _ _ e2 (hIo _ _ _ _ e1 lt)
          | ok q =>
            rw [e2] at h
            cases h
/-! ### what is shown -/
theorem show_int {i : Int} (h : i.natAbs < 10 ^ 31) : (PyData.int i).shown.length ≤ 32 := by
  have z := int_text_length_le10 (k := 31) (by decide) h
  show (Str.ofString (toString i)).length ≤ 32
  rw [PySem.ofString_length]
  exact z
theorem log_int {i : Int} (h : i.natAbs < 10 ^ 31) : i.natAbs.log2 < 1920 := by
  rcases Nat.eq_zero_or_pos i.natAbs with e | e
  · rw [e]
    decide
  · have a := Nat.log2_self_le (by omega : i.natAbs ≠ 0)
    have b : i.natAbs < 2 ^ 110 := Nat.lt_of_lt_of_le h (by decide)
    rcases Nat.lt_or_ge i.natAbs.log2 1920 with l | l
    · exact l
    · have c : 2 ^ 110 ≤ 2 ^ i.natAbs.log2 := Nat.pow_le_pow_right (by decide) (by omega)
      omega
theorem shownAll_app (xs ys : List PyData) : PyData.shownAll (xs ++ ys) = PyData.shownAll xs ++ PyData.shownAll ys := by
  induction xs with
  | nil => rfl
  | cons x xs ih =>
    show x.shown :: PyData.shownAll (xs ++ ys) = _
    rw [ih]
    rfl
theorem showableAll_app (xs ys : List PyData) : PyData.showableAll (xs ++ ys) = (PyData.showableAll xs && PyData.showableAll ys) := by
  induction xs with
  | nil => rfl
  | cons x xs ih =>
    show (x.showable && PyData.showableAll (xs ++ ys)) = ((x.showable && PyData.showableAll xs) && _)
    rw [ih, Bool.and_assoc]
theorem show_ints {is : List Int} (h : ∀ i ∈ is, i.natAbs < 10 ^ 31) : ((PyData.shownAll (is.map PyData.int)).map (·.length)).sum ≤ 32 * is.length ∧ (PyData.shownAll (is.map PyData.int)).length = is.length ∧ PyData.showableAll (is.map PyData.int) = true := by
  induction is with
  | nil => exact ⟨Nat.zero_le _, rfl, rfl⟩
  | cons i is ih =>
    obtain ⟨a, b, c⟩ := ih fun j hj => h j (List.mem_cons_of_mem _ hj)
    have d := h i List.mem_cons_self
    have e := show_int d
    have f := log_int d
    refine ⟨?_, ?_, ?_⟩
    · show (PyData.int i).shown.length + ((PyData.shownAll (is.map PyData.int)).map (·.length)).sum ≤ 32 * (is.length + 1)
      omega
    · show (PyData.shownAll (is.map PyData.int)).length + 1 = is.length + 1
      rw [b]
    · show ((PyData.int i).showable && PyData.showableAll (is.map PyData.int)) = true
      rw [c, Bool.and_true]
      exact decide_eq_true f
theorem show_word (v : W) : (PyData.str v.str).shown.length ≤ 9 := by cases v <;> decide +kernel
theorem show_node {v : W} {is : List Int} {ks : List PyData} (hi : ∀ i ∈ is, i.natAbs < 10 ^ 31) (l1 : is.length ≤ 2) (l2 : ks.length ≤ 2) :
    (PyData.tuple (dlay v is ks)).shown.length ≤ ((PyData.shownAll ks).map (·.length)).sum + 100 ∧ (PyData.showableAll ks = true → (PyData.tuple (dlay v is ks)).showable = true) := by
  obtain ⟨a, b, c⟩ := show_ints hi
  have w := show_word v
  have lk : (PyData.shownAll ks).length = ks.length := by
    clear l2
    induction ks with
    | nil => rfl
    | cons k ks ih =>
      show (PyData.shownAll ks).length + 1 = ks.length + 1
      rw [ih]
  constructor
  · have z := tupleText_len_le (PyData.shownAll (dlay v is ks))
    have e1 : ((PyData.shownAll (dlay v is ks)).map (·.length)).sum = (PyData.str v.str).shown.length + ((PyData.shownAll (is.map PyData.int)).map (·.length)).sum + ((PyData.shownAll ks).map (·.length)).sum := by
      show (PyData.str v.str).shown.length + ((PyData.shownAll (lay v (is.map PyData.int) ks)).map (·.length)).sum = _
      unfold lay
      split <;> (rw [shownAll_app, List.map_append, List.sum_append]; omega)
    have e2 : (PyData.shownAll (dlay v is ks)).length = 1 + is.length + ks.length := by
      show (PyData.shownAll (lay v (is.map PyData.int) ks)).length + 1 = _
      unfold lay
      split <;> (rw [shownAll_app, List.length_append, b, lk]; omega)
    show (tupleText (PyData.shownAll (dlay v is ks))).length ≤ _
    omega
  · intro h
    show ((PyData.str v.str).showable && PyData.showableAll (lay v (is.map PyData.int) ks)) = true
    have e : (PyData.str v.str).showable = true := rfl
    rw [e, Bool.true_and]
    unfold lay
    split <;> rw [showableAll_app, c, h] <;> rfl
theorem show_tm : ∀ {t : Tm}, t.Sh → t.Bd → t.data.shown.length ≤ 100 * t.nodes ∧ t.data.showable = true
  | .leaf v is, hs, hb => by
    have n := v.ni_le
    have z := show_node (v := v) (ks := []) hb (by rw [hs.2]; exact n) (by decide)
    exact ⟨z.1, z.2 rfl⟩
  | .one v is a, hs, hb => by
    have n := v.ni_le
    have z := show_node (v := v) (ks := [a.data]) hb.1 (by rw [hs.2.1]; exact n) (by show 1 ≤ 2; decide)
    obtain ⟨y1, y2⟩ := show_tm hs.2.2 hb.2
    have e : ((PyData.shownAll [a.data]).map (·.length)).sum = a.data.shown.length := by simp [PyData.shownAll]
    rw [e] at z
    refine ⟨?_, z.2 ?_⟩
    · show (PyData.tuple (dlay v is [a.data])).shown.length ≤ 100 * (a.nodes + 1)
      have := z.1
      omega
    · show (a.data.showable && true) = true
      rw [y2]
      rfl
  | .two v is a b, hs, hb => by
    have n := v.ni_le
    have z := show_node (v := v) (ks := [a.data, b.data]) hb.1 (by rw [hs.2.1]; exact n) (by show 2 ≤ 2; decide)
    obtain ⟨y1, y2⟩ := show_tm hs.2.2.1 hb.2.1
    obtain ⟨y3, y4⟩ := show_tm hs.2.2.2 hb.2.2
    have e : ((PyData.shownAll [a.data, b.data]).map (·.length)).sum = a.data.shown.length + b.data.shown.length := by simp [PyData.shownAll]
    rw [e] at z
    refine ⟨?_, z.2 ?_⟩
    · show (PyData.tuple (dlay v is [a.data, b.data])).shown.length ≤ 100 * (a.nodes + b.nodes + 1)
      have := z.1
      omega
    · show (a.data.showable && (b.data.showable && true)) = true
      rw [y2, y4]
      rfl
theorem walk_path : ∀ {t : Tm} {p q : List Nat}, (∀ k ∈ p, k ≤ 4) → walk p t = some q → p.length ≤ 8 → q.length ≤ 8 ∧ ∀ k ∈ q, k ≤ 4
  | .leaf v is, p, q, hp, h, l => by
    unfold walk at h
    split at h
    · cases h
      exact ⟨by decide, fun k hk => by cases hk⟩
    · split at h
      · cases h
      · cases h
        exact ⟨l, hp⟩
  | .one v is a, p, q, hp, h, l => by
    unfold walk at h
    split at h
    · cases h
      exact ⟨by decide, fun k hk => by cases hk⟩
    · rename_i n8
      split at h
      · refine walk_path (fun k hk => ?_) h (by rw [List.length_append, List.length_singleton]; omega)
        rcases List.mem_append.mp hk with hk | hk
        · exact hp k hk
        · rw [List.mem_singleton.mp hk]
          cases v <;> decide
      · cases h
        exact ⟨l, hp⟩
  | .two v is a b, p, q, hp, h, l => by
    unfold walk at h
    split at h
    · cases h
      exact ⟨by decide, fun k hk => by cases hk⟩
    · rename_i n8
      have up : ∀ j, ∀ k ∈ p ++ [v.pl.getD j 0], k ≤ 4 := fun j k hk => by
        rcases List.mem_append.mp hk with hk | hk
        · exact hp k hk
        · rw [List.mem_singleton.mp hk]
          cases v <;> (match j with | 0 => decide | 1 => decide | j + 2 => simp [W.pl])
      split at h
      · split at h
        · rename_i q' e
          cases h
          exact walk_path (up 0) e (by rw [List.length_append, List.length_singleton]; omega)
        · exact walk_path (up 1) h (by rw [List.length_append, List.length_singleton]; omega)
      · cases h
        exact ⟨l, hp⟩
/-- what is told of a text can be shown -/
structure Shows (d : PyData) : Prop where
  sh : d.showable = true
  nd : d.hasDict = false
  dp : d.depth ≤ 40
  ln : d.shown.length ≤ 100000
theorem shows_res {x : Str} (hx : x.length ≤ 1000000) : Shows (readR x).data := by
  have sp := split_small (x := x) (y := "\n") (s := 10) (by decide +kernel) (by decide +kernel)
  unfold readR due
  generalize Txt.split x "\n" = ls at *
  have l0 : (ls.getD 0 Str.empty).length ≤ x.length := by
    cases ls with
    | nil => exact Nat.zero_le _
    | cons y r => exact sp.2.1 y List.mem_cons_self
  generalize ls.getD 0 Str.empty = y at *
  have sp0 := split_small (x := y) (y := " ") (s := 32) (by decide +kernel) (by decide +kernel)
  generalize Txt.split y " " = ws at *
  have tx : ∀ (l w : Nat), l ≤ 1 → w ≤ 1000001 → Shows (Res.text l w).data := fun l w hl hw => by
    have bl : ((l : Nat) : Int).natAbs < 10 ^ 31 := by
      have : ((l : Nat) : Int).natAbs = l := Int.natAbs_natCast l
      omega
    have bw : ((w : Nat) : Int).natAbs < 10 ^ 31 := by
      have : ((w : Nat) : Int).natAbs = w := Int.natAbs_natCast w
      omega
    have z := tupleText_len_le (PyData.shownAll [.str "text", .int ((l : Nat) : Int), .int ((w : Nat) : Int)])
    have a := show_int bl
    have b := show_int bw
    have c : (PyData.str "text").shown.length ≤ 9 := by decide +kernel
    refine ⟨?_, rfl, (by show 1 ≤ 40; decide), ?_⟩
    · show ((PyData.int ((l : Nat) : Int)).showable && ((PyData.int ((w : Nat) : Int)).showable && true)) = true
      rw [show (PyData.int ((l : Nat) : Int)).showable = true from decide_eq_true (log_int bl), show (PyData.int ((w : Nat) : Int)).showable = true from decide_eq_true (log_int bw)]
      rfl
    · show (tupleText (PyData.shownAll [.str "text", .int ((l : Nat) : Int), .int ((w : Nat) : Int)])).length ≤ _
      simp only [PyData.shownAll, List.map_cons, List.map_nil, List.sum_cons, List.sum_nil, List.length_cons, List.length_nil] at z ⊢
      omega
  cases e : readLine ws with
  | error w =>
    refine tx 0 w (by decide) ?_
    unfold readLine at e
    cases e2 : readT ws 21 0 0 with
    | error q =>
      rw [e2] at e
      cases e
      have := readT_stop ws _ _ _ _ e2 (Nat.zero_le _)
      omega
    | ok q =>
      obtain ⟨t, j, m'⟩ := q
      rw [e2] at e
      simp only at e
      split at e
      · cases e
      · cases e
        have := (readT_at ws _ _ _ _ _ _ e2).2
        omega
  | ok t =>
    simp only
    split
    · exact tx 1 0 (by decide) (by decide)
    · have f := readLine_facts e
      have bd : t.Bd := by
        unfold readLine at e
        cases e2 : readT ws 21 0 0 with
        | error q =>
          rw [e2] at e
          cases e
        | ok q =>
          obtain ⟨t', j, m'⟩ := q
          rw [e2] at e
          simp only at e
          split at e
          · cases e
            exact readT_bd ws _ _ _ _ _ _ e2
          · cases e
      obtain ⟨y1, y2⟩ := show_tm f.1 bd
      unfold fault
      cases ew : walk [] t with
      | none =>
        refine ⟨?_, ?_, ?_, ?_⟩
        · show (t.data.showable && true) = true
          rw [y2]
          rfl
        · show (t.data.hasDict || false) = false
          rw [PyData.hasDict_of_canLay _ (data_canLay t)]
          rfl
        · show PyData.depthAll [t.data] + 1 ≤ 40
          simp only [PyData.depthAll, data_depth]
          have := f.2.2
          omega
        · have z := listText_len_le (PyData.shownAll [t.data])
          show (listText (PyData.shownAll [t.data])).length ≤ _
          simp only [PyData.shownAll, List.map_cons, List.map_nil, List.sum_cons, List.sum_nil, List.length_cons, List.length_nil] at z ⊢
          have := f.2.1
          omega
      | some p =>
        have wp := walk_path (p := []) (fun k hk => by cases hk) ew (by decide)
        have bp : ∀ i ∈ pz p, i.natAbs < 10 ^ 31 := fun i hi => by
          obtain ⟨k, hk, rfl⟩ := List.mem_map.mp hi
          have a := wp.2 k hk
          have b : ((k : Nat) : Int).natAbs = k := Int.natAbs_natCast k
          omega
        obtain ⟨a, b, c⟩ := show_ints bp
        have lp : (pz p).length = p.length := List.length_map ..
        have z1 := tupleText_len_le (PyData.shownAll ((pz p).map PyData.int))
        have z2 := tupleText_len_le (PyData.shownAll [.str "term", .tuple ((pz p).map PyData.int)])
        have d : (PyData.str "term").shown.length ≤ 9 := by decide +kernel
        refine ⟨?_, ?_, ?_, ?_⟩
        · show (PyData.showableAll ((pz p).map PyData.int) && true) = true
          rw [c]
          rfl
        · show (PyData.hasDict (.tuple ((pz p).map PyData.int)) || false) = false
          rw [PyData.hasDict_of_canLay _ (show PyData.canLay0 (.tuple ((pz p).map PyData.int)) = true from canLayAll_ints _)]
          rfl
        · show PyData.depthAll [.str "term", .tuple ((pz p).map PyData.int)] + 1 ≤ 40
          simp only [PyData.depthAll, PyData.depth, depthAll_ints]
          omega
        · show (tupleText (PyData.shownAll [.str "term", .tuple ((pz p).map PyData.int)])).length ≤ _
          have e3 : (PyData.tuple ((pz p).map PyData.int)).shown = tupleText (PyData.shownAll ((pz p).map PyData.int)) := rfl
          simp only [PyData.shownAll, List.map_cons, List.map_nil, List.sum_cons, List.sum_nil, List.length_cons, List.length_nil, e3] at z2 ⊢
          have := wp.1
          rw [b] at z1
          omega
end K31
end
/-! part K31AA -/
section
set_option Elab.async false
set_option linter.all false
set_option maxRecDepth 100000
set_option maxHeartbeats 4000000
/-! K31AA: the text of a good paper, read, gives the paper back. -/
namespace K31
open PySem PySem.Spec PyProof.Rows L2 TL
theorem int_back {i : Int} (h : i.natAbs ≤ 1000) : intOf (istr i) = some i ∧ 32 ∉ tl (istr i) ∧ 10 ∉ tl (istr i) := by
  have a : ∀ n : Fin 1001, (intOf (istr ((n.val : Nat) : Int)) = some ((n.val : Nat) : Int) ∧ 32 ∉ tl (istr ((n.val : Nat) : Int)) ∧ 10 ∉ tl (istr ((n.val : Nat) : Int))) ∧
      (intOf (istr (-((n.val : Nat) : Int))) = some (-((n.val : Nat) : Int)) ∧ 32 ∉ tl (istr (-((n.val : Nat) : Int))) ∧ 10 ∉ tl (istr (-((n.val : Nat) : Int)))) := by decide +kernel
  have z := a ⟨i.natAbs, by omega⟩
  simp only at z
  rcases Int.natAbs_eq i with e | e
  · rw [← e] at z
    exact z.1
  · rw [← e] at z
    exact z.2
theorem word_signs (v : W) : 32 ∉ tl v.str ∧ 10 ∉ tl v.str := by cases v <;> decide +kernel
theorem words_signs : ∀ {t : Tm}, t.Small → ∀ x ∈ t.words, 32 ∉ tl x ∧ 10 ∉ tl x
  | .leaf v is, h, x, m => by
    rcases List.mem_cons.mp m with rfl | m
    · exact word_signs v
    · obtain ⟨i, hi, rfl⟩ := List.mem_map.mp m
      exact (int_back (h i hi)).2
  | .one v is a, h, x, m => by
    rcases List.mem_cons.mp m with rfl | m
    · exact word_signs v
    · rcases List.mem_append.mp m with m | m
      · obtain ⟨i, hi, rfl⟩ := List.mem_map.mp m
        exact (int_back (h.1 i hi)).2
      · exact words_signs h.2 x m
  | .two v is a b, h, x, m => by
    rcases List.mem_cons.mp m with rfl | m
    · exact word_signs v
    · rcases List.mem_append.mp m with m | m
      · obtain ⟨i, hi, rfl⟩ := List.mem_map.mp m
        exact (int_back (h.1 i hi)).2
      · rcases List.mem_append.mp m with m | m
        · exact words_signs h.2.1 x m
        · exact words_signs h.2.2 x m
theorem get_mid {α : Type} (pre post : List α) (x : α) : (pre ++ (x :: post))[pre.length]? = some x := by simp
theorem take_back : ∀ {is : List Int}, (∀ i ∈ is, i.natAbs ≤ 1000) → ∀ pre post : List Str, takeI (pre ++ (is.map istr ++ post)) is.length pre.length = .ok (is, pre.length + is.length)
  | [], _, pre, post => rfl
  | i :: is, h, pre, post => by
    have e : pre ++ ((i :: is).map istr ++ post) = pre ++ (istr i :: (is.map istr ++ post)) := by simp
    have e2 : pre ++ (istr i :: (is.map istr ++ post)) = (pre ++ [istr i]) ++ (is.map istr ++ post) := by simp
    rw [e]
    show takeI _ (is.length + 1) _ = _
    unfold takeI
    rw [get_mid, Option.bind_some, (int_back (h i List.mem_cons_self)).1]
    simp only
    have z := take_back (fun j hj => h j (List.mem_cons_of_mem _ hj)) (pre ++ [istr i]) post
    rw [← e2, List.length_append, List.length_singleton] at z
    rw [z]
    simp only [List.length_cons]
    rw [show pre.length + 1 + is.length = pre.length + (is.length + 1) by omega]
theorem read_back : ∀ {t : Tm}, t.Sh → t.Small → ∀ (f m : Nat) (pre post : List Str), t.depth ≤ f → m + t.nodes ≤ 20 → readT (pre ++ (t.words ++ post)) f pre.length m = .ok (t, pre.length + t.words.length, m + t.nodes)
  | .leaf v is, hs, hb, f, m, pre, post, hf, hm => by
    have hf' : 1 ≤ f := hf
    have hm' : m + 1 ≤ 20 := hm
    obtain ⟨f, rfl⟩ : ∃ g, f = g + 1 := ⟨f - 1, by omega⟩
    have e : pre ++ ((Tm.leaf v is).words ++ post) = pre ++ (v.str :: (is.map istr ++ post)) := rfl
    have e2 : pre ++ (v.str :: (is.map istr ++ post)) = (pre ++ [v.str]) ++ (is.map istr ++ post) := by simp
    rw [e, readT_succ, if_neg (by omega), get_mid, Option.bind_some, W.of_str]
    simp only
    have z := take_back hb (pre ++ [v.str]) post
    rw [← e2, List.length_append, List.length_singleton, hs.2] at z
    rw [z]
    simp only
    rw [hs.1]
    simp only [readKs, mkTm, Tm.words, List.length_cons, List.length_map, hs.2, Tm.nodes]
    rw [show pre.length + 1 + v.ni = pre.length + (v.ni + 1) by omega]
  | .one v is a, hs, hb, f, m, pre, post, hf, hm => by
    have hf' : a.depth + 1 ≤ f := hf
    have hm' : m + (a.nodes + 1) ≤ 20 := hm
    obtain ⟨f, rfl⟩ : ∃ g, f = g + 1 := ⟨f - 1, by omega⟩
    have e : pre ++ ((Tm.one v is a).words ++ post) = pre ++ (v.str :: (is.map istr ++ (a.words ++ post))) := by simp [Tm.words]
    have e2 : pre ++ (v.str :: (is.map istr ++ (a.words ++ post))) = (pre ++ [v.str]) ++ (is.map istr ++ (a.words ++ post)) := by simp
    have e3 : pre ++ (v.str :: (is.map istr ++ (a.words ++ post))) = (pre ++ (v.str :: is.map istr)) ++ (a.words ++ post) := by simp
    have le : (pre ++ (v.str :: is.map istr)).length = pre.length + 1 + v.ni := by
      rw [List.length_append, List.length_cons, List.length_map, hs.2.1]
      omega
    rw [e, readT_succ, if_neg (by omega), get_mid, Option.bind_some, W.of_str]
    simp only
    have z := take_back hb.1 (pre ++ [v.str]) (a.words ++ post)
    rw [← e2, List.length_append, List.length_singleton, hs.2.1] at z
    rw [z]
    simp only
    have y := read_back hs.2.2 hb.2 f (m + 1) (pre ++ (v.str :: is.map istr)) post (by omega) (by omega)
    rw [← e3, le] at y
    rw [hs.1]
    simp only [readKs, y, mkTm, Tm.words, List.length_cons, List.length_append, List.length_map, hs.2.1, Tm.nodes]
    rw [show pre.length + 1 + v.ni + a.words.length = pre.length + (v.ni + a.words.length + 1) by omega, show m + 1 + a.nodes = m + (a.nodes + 1) by omega]
  | .two v is a b, hs, hb, f, m, pre, post, hf, hm => by
    have hf' : max a.depth b.depth + 1 ≤ f := hf
    have hm' : m + (a.nodes + b.nodes + 1) ≤ 20 := hm
    obtain ⟨f, rfl⟩ : ∃ g, f = g + 1 := ⟨f - 1, by omega⟩
    have e : pre ++ ((Tm.two v is a b).words ++ post) = pre ++ (v.str :: (is.map istr ++ (a.words ++ (b.words ++ post)))) := by simp [Tm.words]
    have e2 : pre ++ (v.str :: (is.map istr ++ (a.words ++ (b.words ++ post)))) = (pre ++ [v.str]) ++ (is.map istr ++ (a.words ++ (b.words ++ post))) := by simp
    have e3 : pre ++ (v.str :: (is.map istr ++ (a.words ++ (b.words ++ post)))) = (pre ++ (v.str :: is.map istr)) ++ (a.words ++ (b.words ++ post)) := by simp
    have e4 : pre ++ (v.str :: (is.map istr ++ (a.words ++ (b.words ++ post)))) = (pre ++ (v.str :: (is.map istr ++ a.words))) ++ (b.words ++ post) := by simp
    have le : (pre ++ (v.str :: is.map istr)).length = pre.length + 1 + v.ni := by
      rw [List.length_append, List.length_cons, List.length_map, hs.2.1]
      omega
    have le2 : (pre ++ (v.str :: (is.map istr ++ a.words))).length = pre.length + 1 + v.ni + a.words.length := by
      rw [List.length_append, List.length_cons, List.length_append, List.length_map, hs.2.1]
      omega
    rw [e, readT_succ, if_neg (by omega), get_mid, Option.bind_some, W.of_str]
    simp only
    have z := take_back hb.1 (pre ++ [v.str]) (a.words ++ (b.words ++ post))
    rw [← e2, List.length_append, List.length_singleton, hs.2.1] at z
    rw [z]
    simp only
    have y := read_back hs.2.2.1 hb.2.1 f (m + 1) (pre ++ (v.str :: is.map istr)) (b.words ++ post) (by omega) (by omega)
    rw [← e3, le] at y
    have y2 := read_back hs.2.2.2 hb.2.2 f (m + 1 + a.nodes) (pre ++ (v.str :: (is.map istr ++ a.words))) post (by omega) (by omega)
    rw [← e4, le2] at y2
    rw [hs.1]
    simp only [readKs, y, y2, mkTm, Tm.words, List.length_cons, List.length_append, List.length_map, hs.2.1, Tm.nodes]
    rw [show pre.length + 1 + v.ni + a.words.length + b.words.length = pre.length + (v.ni + (a.words.length + b.words.length) + 1) by omega, show m + 1 + a.nodes + b.nodes = m + (a.nodes + b.nodes + 1) by omega]
theorem joinL_mem {S : List Nat} {c : Nat} : ∀ {xs : List (List Nat)}, c ∈ joinL S xs → c ∈ S ∨ ∃ x ∈ xs, c ∈ x
  | [], h => by cases h
  | [x], h => .inr ⟨x, List.mem_cons_self, h⟩
  | x :: y :: r, h => by
    have h' : c ∈ x ++ (S ++ joinL S (y :: r)) := h
    rcases List.mem_append.mp h' with h | h
    · exact .inr ⟨x, List.mem_cons_self, h⟩
    · rcases List.mem_append.mp h with h | h
      · exact .inl h
      · rcases joinL_mem h with h | ⟨z, hz, h⟩
        · exact .inl h
        · exact .inr ⟨z, List.mem_cons_of_mem _ hz, h⟩
/-- THE READ-BACK -/
theorem text_back {t : Tm} (hs : t.Sh) (hw : walk [] t = none) (hn : t.nodes ≤ 20) (hd : t.depth ≤ 21) : readR t.text = .tm t := by
  have hb := walk_small hs hw
  have no : 10 ∉ tl t.text := fun h => by
    unfold Tm.text at h
    rw [join_eq, tl_join] at h
    rcases joinL_mem h with h | ⟨x, hx, h⟩
    · have e : tl " " = [32] := by decide +kernel
      rw [e] at h
      simp at h
    · obtain ⟨y, hy, rfl⟩ := List.mem_map.mp hx
      exact (words_signs hb y hy).2 h
  have e1 : Txt.split t.text "\n" = [t.text] := by
    refine map_tl_inj ?_
    have e : tl "\n" = 10 :: [] := by decide +kernel
    rw [split_spl _ _ (by rw [e]; simp) (kind_ok (by decide +kernel)), e, spl_last1 no]
    rfl
  have e2 : Txt.split t.text " " = t.words := by
    unfold Tm.text
    exact split_join (s := 32) (S := []) (by decide +kernel) (by decide +kernel) t.words_ne fun p hp => (words_signs hb p hp).1
  have e3 : readLine t.words = .ok t := by
    have z : readT t.words 21 0 0 = .ok (t, t.words.length, t.nodes) := by simpa using read_back hs hb 21 0 [] [] hd (by omega)
    unfold readLine
    rw [z]
    simp
  unfold readR due
  rw [e1]
  show (match readLine (Txt.split t.text " ") with | .error e => Res.text 0 e | .ok t' => if 1 < [t.text].length then Res.text 1 0 else fault t') = _
  rw [e2, e3]
  simp only [List.length_singleton, Nat.lt_irrefl, if_false]
  unfold fault
  rw [hw]
end K31
end
/-! part K31BB -/
section
set_option Elab.async false
set_option linter.all false
set_option maxRecDepth 100000
set_option maxHeartbeats 4000000
/-! K31BB: _law_right. -/
namespace K31
open PySem PySem.Spec PyProof.Rows L2 TL LamX

/-! ### what stays while tables grow -/
def isTc : HO → Bool
  | .tbl _ => true
  | .ext _ => true
  | _ => false
def Ktb (H H' : Hp) : Prop := ∀ b o, H b = some o → isTc o = true → H' b = some o
theorem tabs_kt {Tt : List (Addr × Str)} {H H' : Hp} (t : Tabs Tt H) (k : Ktb H H') : Tabs Tt H' := fun p hp => by
  obtain ⟨ps, h1, h2, h3⟩ := t p hp
  refine ⟨ps, k _ _ h1 rfl, h2, fun pos cv hc => ?_⟩
  obtain ⟨c, e1, e2⟩ := h3 pos cv hc
  exact ⟨c, e1, k _ _ e2 rfl⟩
theorem Stt.kt {st lc ll : Addr} {H H' : Hp} {n t : Nat} (h : Stt st ll H H') (I : SO H st lc ll n t) : Ktb H H' := fun b o e i => by
  obtain ⟨ls, l1, l2⟩ := I.ls
  refine h b o (fun z => ?_) (fun z => ?_) e
  · rw [z, I.sd] at e
    injection e with e
    rw [← e] at i
    cases i
  · rw [z, l1] at e
    injection e with e
    rw [← e] at i
    cases i
theorem Ktb.lst {H : Hp} {p : Addr} {xs : List V} {o : HO} (h : H p = some (.lst xs)) : Ktb H (upd H p o) := fun b u e i => by
  have ne : b ≠ p := fun z => by
    rw [z, h] at e
    injection e with e
    rw [← e] at i
    cases i
  rw [upd_ne ne]
  exact e
section
variable {K : PySem.W.Frag} {H H' : Hp}
theorem ext_T {p : Addr} {xs : List V} (e : ExtN H H') (h : SqT K H p xs) : SqT K H' p xs := by
  rcases h with (h | ⟨o, h⟩) | h
  · exact .inl (.inl (e _ _ h (fun _ z => by cases z)))
  · exact .inl (.inr ⟨o, e _ _ h (fun _ z => by cases z)⟩)
  · exact .inr h
theorem ext_L {p : Addr} {xs : List V} (e : ExtN H H') (h : SqL K H p xs) : SqL K H' p xs := by
  rcases h with (h | ⟨o, h⟩) | h
  · exact .inl (.inl (e _ _ h (fun _ z => by cases z)))
  · exact .inl (.inr ⟨o, e _ _ h (fun _ z => by cases z)⟩)
  · exact .inr h
mutual
theorem ext_D (e : ExtN H H') : ∀ (d : PyData) (v : V), Dp K H v d → Dp K H' v d
  | .none, _, h => by cases h; exact .non
  | .bool b, _, h => by cases h; exact .bl b
  | .int i, _, h => by cases h; exact .int i
  | .str x, _, h => by cases h; exact .str x
  | .list ds, _, h => by
    cases h with
    | lst hs ha => exact .lst (ext_L e hs) (ext_Ds e ds _ ha)
  | .tuple ds, _, h => by
    cases h with
    | tup hs ha => exact .tup (ext_T e hs) (ext_Ds e ds _ ha)
  | .dict _, _, h => by cases h
theorem ext_Ds (e : ExtN H H') : ∀ (ds : List PyData) (vs : List V), DpAll K H vs ds → DpAll K H' vs ds
  | [], _, h => by cases h; exact .nil
  | d :: ds, _, h => by
    cases h with
    | cons h1 h2 => exact .cons (ext_D e d _ h1) (ext_Ds e ds _ h2)
end
end
theorem SO.ext {H H' : Hp} {st lc ll : Addr} {n t : Nat} (I : SO H st lc ll n t) (e : ExtN H H') : SO H' st lc ll n t := by
  obtain ⟨cs, c1, c2⟩ := I.cs
  obtain ⟨ls, l1, l2⟩ := I.ls
  exact ⟨e _ _ I.sd (fun _ z => by cases z), ⟨cs, e _ _ c1 (fun _ z => by cases z), c2⟩, ⟨ls, e _ _ l1 (fun _ z => by cases z), l2⟩, I.pos, I.few, I.ne⟩
theorem SO.lst {H : Hp} {st lc ll : Addr} {n t : Nat} (I : SO H st lc ll n t) {p : Addr} {xs : List V} {o : HO} (h : H p = some (.lst xs)) (n1 : p ≠ ll) (n2 : p ≠ lc) : SO (upd H p o) st lc ll n t := by
  obtain ⟨cs, c1, c2⟩ := I.cs
  obtain ⟨ls, l1, l2⟩ := I.ls
  have n3 : st ≠ p := fun z => by
    rw [← z, I.sd] at h
    cases h
  exact ⟨by rw [upd_ne n3]; exact I.sd, ⟨cs, by rw [upd_ne (Ne.symm n2)]; exact c1, c2⟩, ⟨ls, by rw [upd_ne (Ne.symm n1)]; exact l1, l2⟩, I.pos, I.few, I.ne⟩
/-! ### two shown texts -/
theorem shows_two {d : PyData} (h : Shows d) : (PyData.list [d, d]).showable = true ∧ (PyData.list [d, d]).hasDict = false ∧ (PyData.list [d, d]).depth ≤ 90 ∧ (PyData.list [d, d]).shown.length ≤ sizeLine := by
  refine ⟨?_, ?_, ?_, ?_⟩
  · show (d.showable && (d.showable && true)) = true
    rw [h.sh]
    rfl
  · show (d.hasDict || (d.hasDict || false)) = false
    rw [h.nd]
    rfl
  · show PyData.depthAll [d, d] + 1 ≤ 90
    simp only [PyData.depthAll]
    have := h.dp
    omega
  · have z := listText_len_le (PyData.shownAll [d, d])
    show (listText (PyData.shownAll [d, d])).length ≤ _
    have : sizeLine = 16777216 := rfl
    have := h.ln
    simp only [PyData.shownAll, List.map_cons, List.map_nil, List.sum_cons, List.sum_nil, List.length_cons, List.length_nil] at z ⊢
    omega
theorem word_low (v : W) : ∀ c ∈ tl v.str, c < 128 := by cases v <;> decide +kernel
theorem int_low {i : Int} (h : i.natAbs ≤ 1000) : ∀ c ∈ tl (istr i), c < 128 := by
  have a : ∀ n : Fin 1001, (∀ c ∈ tl (istr ((n.val : Nat) : Int)), c < 128) ∧ (∀ c ∈ tl (istr (-((n.val : Nat) : Int))), c < 128) := by decide +kernel
  have z := a ⟨i.natAbs, by omega⟩
  simp only at z
  rcases Int.natAbs_eq i with e | e
  · rw [← e] at z
    exact z.1
  · rw [← e] at z
    exact z.2
theorem words_low : ∀ {t : Tm}, t.Small → ∀ x ∈ t.words, ∀ c ∈ tl x, c < 128
  | .leaf v is, h, x, m => by
    rcases List.mem_cons.mp m with rfl | m
    · exact word_low v
    · obtain ⟨i, hi, rfl⟩ := List.mem_map.mp m
      exact int_low (h i hi)
  | .one v is a, h, x, m => by
    rcases List.mem_cons.mp m with rfl | m
    · exact word_low v
    · rcases List.mem_append.mp m with m | m
      · obtain ⟨i, hi, rfl⟩ := List.mem_map.mp m
        exact int_low (h.1 i hi)
      · exact words_low h.2 x m
  | .two v is a b, h, x, m => by
    rcases List.mem_cons.mp m with rfl | m
    · exact word_low v
    · rcases List.mem_append.mp m with m | m
      · obtain ⟨i, hi, rfl⟩ := List.mem_map.mp m
        exact int_low (h.1 i hi)
      · rcases List.mem_append.mp m with m | m
        · exact words_low h.2.1 x m
        · exact words_low h.2.2 x m
theorem text_low {t : Tm} (h : t.Small) : ∀ c ∈ tl t.text, c < 128 := fun c hc => by
  unfold Tm.text at hc
  rw [join_eq, tl_join] at hc
  rcases joinL_mem hc with hc | ⟨x, hx, hc⟩
  · have e : tl " " = [32] := by decide +kernel
    rw [e] at hc
    rw [List.mem_singleton.mp hc]
    decide
  · obtain ⟨y, hy, rfl⟩ := List.mem_map.mp hx
    exact words_low h y hy c hc
theorem small_bd : ∀ {t : Tm}, t.Small → t.Bd
  | .leaf v is, h => fun i hi => by have := h i hi; omega
  | .one v is a, h => ⟨fun i hi => by have := h.1 i hi; omega, small_bd h.2⟩
  | .two v is a b, h => ⟨fun i hi => by have := h.1 i hi; omega, small_bd h.2.1, small_bd h.2.2⟩
theorem shows_three {t : Tm} (hs : t.Sh) (hb : t.Small) (hn : t.nodes ≤ 20) : (PyData.list [.str t.text, t.data, .str t.text]).showable = true ∧ (PyData.list [.str t.text, t.data, .str t.text]).hasDict = false ∧ (PyData.list [.str t.text, t.data, .str t.text]).depth ≤ 90 ∧
    (PyData.list [.str t.text, t.data, .str t.text]).shown.length ≤ sizeLine := by
  obtain ⟨y1, y2⟩ := show_tm hs (small_bd hb)
  have dn := t.depth_le_nodes
  have xl : (PyData.str t.text).shown.length ≤ 15 * 480 + 13 := by
    have lv : (PyData.str t.text).leavesShort 13 = true := by
      show (t.text.cps.toList.all fun c => decide (c < 16 ^ 8)) = true
      rw [List.all_eq_true]
      intro c hc
      have := text_low hb c hc
      exact decide_eq_true (by omega)
    have z := PyData.shown_le 13 (by decide) (.str t.text) lv
    have w : (PyData.str t.text).weight = t.text.length := rfl
    have l := text_len hs hb
    rw [w] at z
    omega
  refine ⟨?_, ?_, ?_, ?_⟩
  · show (t.data.showable && true) = true
    rw [y2]
    rfl
  · show (t.data.hasDict || false) = false
    rw [PyData.hasDict_of_canLay _ (data_canLay t)]
    rfl
  · show PyData.depthAll [.str t.text, t.data, .str t.text] + 1 ≤ 90
    simp only [PyData.depthAll, data_depth, PyData.depth]
    omega
  · have z := listText_len_le (PyData.shownAll [.str t.text, t.data, .str t.text])
    show (listText (PyData.shownAll [.str t.text, t.data, .str t.text])).length ≤ _
    have : sizeLine = 16777216 := rfl
    simp only [PyData.shownAll, List.map_cons, List.map_nil, List.sum_cons, List.sum_nil, List.length_cons, List.length_nil] at z ⊢
    omega

/-! ### the walk -/
structure Rt (K : PySem.W.Frag) (mg : Str → Option Value) (gH gR gL : Addr) (cdH : Value) (cR cL pR pL : Addr) : Prop where
  LH : Lk K mg "_law_heard" (top 68) gH cdH ["call"]
  LR : Lk K mg "_law_right" (top 69) gR (.ref cR) ["state"]
  LL : Lk K mg "law" (top 70) gL (.ref cL) ["script"]
  ne : pR ≠ pL
def lamQ (x : Str) : Str := (x ++ ".<locals>.") ++ "<lambda>"
def tabT (pR pL : Addr) : List (Addr × Str) := [(pR, lamQ "_law_right"), (pL, lamQ "law")]
def shL (x : Str) : List Str := [x, x ++ " ", x ++ "\n", " " ++ x, Txt.mul "short " 8 ++ x, Txt.mul "short " 19 ++ "cash 1", Txt.mul "short " 20 ++ "cash 1"]
theorem mul8 : PySem.MulOk "short " 8 ∧ (Txt.mul "short " 8).length = 48 := by
  refine ⟨⟨by decide, fun _ _ => by decide +kernel, fun _ _ => by decide +kernel⟩, by decide +kernel⟩
theorem mul19 : PySem.MulOk "short " 19 ∧ (Txt.mul "short " 19).length = 114 := by
  refine ⟨⟨by decide, fun _ _ => by decide +kernel, fun _ _ => by decide +kernel⟩, by decide +kernel⟩
theorem mul20 : PySem.MulOk "short " 20 ∧ (Txt.mul "short " 20).length = 120 := by
  refine ⟨⟨by decide, fun _ _ => by decide +kernel, fun _ _ => by decide +kernel⟩, by decide +kernel⟩
theorem cash_len : (Str.length "cash 1") = 6 := by decide +kernel
theorem nl_len : (Str.length "\n") = 1 := by decide +kernel
section
variable {P : Program} {w : World} {K : PySem.W.Frag} {mg : Str → Option Value} {base : Heap} {a : Ad} {gH gR gL : Addr} {cdH : Value} {cR cL pR pL : Addr}
def spRight (Tt : List (Addr × Str)) : Sp := fun vs H Q _ => ∃ (st lc ll : Addr) (n t : Nat), vs = [.ref st] ∧ SO H st lc ll n t ∧ t ≤ 100000 ∧ Tabs Tt H ∧
  ∀ H' (t' : Nat), SO H' st lc ll n t' → t ≤ t' → t' ≤ t + 300 → Tabs Tt H' → Q (.bl true) H'
theorem sc69 : FnScope ["state", "term", "line", "sheets", "k", "sheet", "heard"] ["state"] (defScope (top 69)) := ⟨rfl, rfl, rfl, by decide +kernel, rfl, by decide +kernel, by decide +kernel⟩
theorem right_ok (T : Tx K mg w a) (R : Rt K mg gH gR gL cdH cR cL pR pL) (TB : TabB base mg cR pR) : FnG P w K mg base L2.CX0 70 gR (spRight (tabT pR pL)) := by
  obtain ⟨dV0, kV0, doc0, pm0, ct0, oc0, an0, od0, osl0, lk, hb⟩ := R.LR.ob
  refine fnG_of (k := 69) lk R.LR.cd sc69 hb (fun vs H Q E h => ?_) fun A outer s H vs Q E gd hr h => ?_
  · obtain ⟨st, lc, ll, n, t, rfl, _⟩ := h
    rfl
  · obtain ⟨st, lc, ll, n, t, rfl, I, ht, hT, q⟩ := h
    have hu100 : (A.deeper (envOfC "_law_right" (defScope (top 69)) s.heap.objs.size gR (.ref cR))).units + 100 < cLine := by
      have := hr.un
      omega
    have gd : (A.deeper (envOfC "_law_right" (defScope (top 69)) s.heap.objs.size gR (.ref cR))).guards = some [] := gd
    generalize hTt : tabT pR pL = Tt at *
    have hm1 : (pR, lamQ "_law_right") ∈ Tt := by
      rw [← hTt]
      exact List.mem_cons_self
    have hu : ∀ q ∈ Tt, q.1 = pR → q.2 = lamQ "_law_right" := fun q hq e => by
      rw [← hTt] at hq
      rcases List.mem_cons.mp hq with rfl | hq
      · rfl
      · rw [List.mem_singleton.mp hq] at e
        exact absurd e.symm R.ne
    refine ⟨_, PSs.nox (pss_cons (ps_set (i := 1) sc69.nd rfl (Or.inl rfl) (pe_cl (cl58 T 5) (hr.mono (by decide)) rfl passL (pa_cons (pv 0) (pa_cons pe_int pa_nil))))
      (pss_cons (ps_set (i := 2) sc69.nd rfl (Or.inl rfl) (pe_cl (cl57 T 4) (hr.mono (by decide)) rfl passL (pa_cons (pv 1) pa_nil)))
      (pss_cons (ps_if (pt_cmpR op_ne (pe_callB (op_repr gd hu100) (by rfl) T.nRepr boot_repr (pa_cons (pe_lst (pa_cons (pe_cl (cl41 T) (hr.mono (by decide)) rfl passL (pa_cons (pv 1) pa_nil)) (pa_cons (pe_cl (cl47 T) (hr.mono (by decide)) rfl passL (pa_cons (pv 2) pa_nil)) (pa_cons (pe_cl (cl41 T) (hr.mono (by decide)) rfl passL (pa_cons (pv 1) pa_nil)) pa_nil)))) pa_nil)) (pe_callB (op_repr gd hu100) (by rfl) T.nRepr boot_repr (pa_cons (pe_lst (pa_cons (pv 2) (pa_cons (pv 1) (pa_cons (pv 2) pa_nil)))) pa_nil)) (nomark _)) (pss_one (ps_ret pe_bl)) pss_nil)
      (pss_cons (ps_set (i := 3) sc69.nd rfl (Or.inl rfl) (pe_lst (pa_cons (pv 2) (pa_cons (pe_op op_add_str (pv 2) pe_str) (pa_cons (pe_op op_add_str (pv 2) pe_str) (pa_cons (pe_op op_add_str pe_str (pv 2)) (pa_cons (pe_op op_add_str (pe_op op_mul_str pe_str pe_int) (pv 2)) (pa_cons (pe_op op_add_str (pe_op op_mul_str pe_str pe_int) pe_str) pa_nil))))))))
      (pss_cons (ps_expr (pe_bm PySem.F.plainAttrs_list PySem.F.slot_list_append PySem.F.type_list_append mt_append (pv 3) (pa_cons (pe_op op_add_str (pe_op op_mul_str pe_str pe_int) pe_str) pa_nil)))
      (pss_cons (ps_for PassesOwn.never rfl (pi_range1 rfl T.nRange (pa_cons pe_int pa_nil)) (pg_name (i := 4) sc69.nd rfl (Or.inl rfl)) (pss_one (ps_expr (pe_bm PySem.F.plainAttrs_list PySem.F.slot_list_append PySem.F.type_list_append mt_append (pv 3) (pa_cons (pe_cl (cl67 T) (hr.mono (by decide)) rfl passL (pa_cons (pv 0) (pa_cons (pv 2) pa_nil))) pa_nil)))))
      (pss_cons (ps_for PassesOwn.never rfl (pi_list (pv 3)) (pg_name (i := 5) sc69.nd rfl (Or.inr rfl)) (pss_cons (ps_set (i := 6) sc69.nd rfl (Or.inl rfl) (pe_lst (pa_cons (pe_heard (Tt := Tt) (i := 5) (nm := "sheet") T R.LH rfl TB rfl hm1 hu (hr.mono (by decide)) (by exact ⟨rfl, rfl, rfl, by decide +kernel, by decide +kernel, rfl, rfl⟩) (by exact .plain (fun _ => rfl) (fun _ _ _ _ _ _ _ => rfl)) rfl rfl) (pa_cons (pe_heard (Tt := Tt) (i := 5) (nm := "sheet") T R.LH rfl TB rfl hm1 hu (hr.mono (by decide)) (by exact ⟨rfl, rfl, rfl, by decide +kernel, by decide +kernel, rfl, rfl⟩) (by exact .dflt 0 _ _ "own" rfl rfl rfl (fun _ _ _ _ _ _ _ _ => ⟨_, rfl, fun _ => rfl⟩)) rfl rfl) pa_nil))))
      (pss_one (ps_if (pt_cmpR op_ne (pe_callB (op_repr gd hu100) (by rfl) T.nRepr boot_repr (pa_cons (pv 6) pa_nil)) (pe_callB (op_repr gd hu100) (by rfl) T.nRepr boot_repr (pa_cons (pe_op op_rep (pe_lst (pa_cons (pe_cl (cl66 T) (hr.mono (by decide)) rfl passL (pa_cons (pv 5) pa_nil)) pa_nil)) pe_int) pa_nil)) (nomark _)) (pss_one (ps_ret pe_bl)) pss_nil))))
      (pss_one (ps_ret pe_bl))))))))), ?_⟩
    -- term, line
    refine ⟨_, rfl, st, lc, ll, n, t, 4, rfl, by decide, by decide, I, by omega, fun tm v H1 t1 s1 I1 b1 b2 hv N => ?_⟩
    have nod : tm.nodes + 1 ≤ 16 := N.nod
    have dep : tm.depth ≤ 4 := N.dep
    have hS := N.sh
    have hW : walk [] tm = none := own_walk N.own (by show tm.depth + 0 ≤ 8; omega)
    have hM := walk_small hS hW
    have back := text_back hS hW (by omega) (by omega)
    have xl := text_len hS hM
    have T1 : Tabs Tt H1 := tabs_kt hT (s1.kt I)
    refine ⟨_, rfl, v, tm, rfl, hv, hS, hM, dep, by omega, fun H2 s2 => ?_⟩
    -- repr([..]) != repr([..])
    refine ⟨_, rfl, v, tm, rfl, TV.mono s2 hv, hS, by omega, by omega, hW, fun H3 s3 => ?_⟩
    refine ⟨_, rfl, tm.text, rfl, by omega, fun t' et v4 H4 s4 hv4 => ?_, fun l w' et => (by rw [back] at et; cases et), fun p et => (by rw [back] at et; cases et)⟩
    obtain rfl : t' = tm := by
      rw [back] at et
      injection et with et
      exact et.symm
    refine ⟨_, rfl, v, t', rfl, TV.mono (s2.trans (s3.trans s4)) hv, hS, by omega, by omega, hW, fun H5 s5 => ⟨(by show 3 ≤ sizeLine; decide), fun l6 hl6 => ?_⟩⟩
    have s6 := same_upd (o := HO.lst [V.str t'.text, v4, V.str t'.text]) hl6
    have s26 := s2.trans (s3.trans (s4.trans (s5.trans s6)))
    obtain ⟨z1, z2, z3, z4⟩ := shows_three hS hM (by omega)
    refine ⟨l6, .list [.str t'.text, t'.data, .str t'.text], rfl, .lst (SqL.of upd_same) (.cons (.str _) (.cons (TV.mono (s5.trans s6) hv4) (.cons (.str _) .nil))), z1, z2, z3, z4, ?_⟩
    refine ⟨_, rfl, _, rfl, _, rfl, (by show 3 ≤ sizeLine; decide), fun l7 hl7 => ?_⟩
    have s7 := same_upd (o := HO.lst [V.str t'.text, v, V.str t'.text]) hl7
    have s27 := s26.trans s7
    refine ⟨l7, .list [.str t'.text, t'.data, .str t'.text], rfl, .lst (SqL.of upd_same) (.cons (.str _) (.cons (TV.mono s27 hv) (.cons (.str _) .nil))), z1, z2, z3, z4, rfl, _, rfl, ?_⟩
    rw [decide_eq_true rfl]
    refine iteF ?_
    generalize upd (upd H5 l6 (.lst [V.str t'.text, v4, V.str t'.text])) l7 (.lst [V.str t'.text, v, V.str t'.text]) = H7 at *
    -- sheets
    have sl : sizeLine = 16777216 := rfl
    refine ⟨_, rfl, _, rfl, _, _, rfl, rfl, ?_, _, rfl, _, _, rfl, rfl, ?_, _, rfl, _, _, rfl, rfl, ?_, _, _, rfl, rfl, mul8.1, _, rfl, _, _, rfl, rfl, ?_, _, _, rfl, rfl, mul19.1, _, _, rfl, rfl, ?_, (by show 6 ≤ sizeLine; decide), fun sh hsh => ?_⟩
    · rw [blank_len]
      omega
    · rw [nl_len]
      omega
    · rw [blank_len]
      omega
    · rw [mul8.2]
      omega
    · rw [mul19.2, cash_len]
      decide
    have I7 := I1.same s27
    have fsh := I7.fresh hsh
    have fc : sh ≠ lc := fun z => by
      obtain ⟨cs, c1, _⟩ := I7.cs
      rw [z, c1] at hsh
      cases hsh
    have s8 := same_upd (o := HO.lst [V.str t'.text, V.str (t'.text ++ " "), V.str (t'.text ++ "\n"), V.str (" " ++ t'.text), V.str (Txt.mul "short " 8 ++ t'.text), V.str (Txt.mul "short " 19 ++ "cash 1")]) hsh
    refine ⟨_, rfl, .inl ⟨rfl, _, SqL.of upd_same⟩, _, _, rfl, rfl, mul20.1, _, _, rfl, rfl, ?_, sh, _, _, rfl, rfl, upd_same, (by show 6 < sizeLine; decide), ?_⟩
    · rw [mul20.2, cash_len]
      decide
    have I8 := (I7.same s8).lst (o := HO.lst ([V.str t'.text, V.str (t'.text ++ " "), V.str (t'.text ++ "\n"), V.str (" " ++ t'.text), V.str (Txt.mul "short " 8 ++ t'.text), V.str (Txt.mul "short " 19 ++ "cash 1")] ++ [V.str (Txt.mul "short " 20 ++ "cash 1")])) upd_same fsh.2 fc
    have T8 : Tabs Tt _ := tabs_kt (T1.ext (s27.trans s8)) (Ktb.lst (o := HO.lst ([V.str t'.text, V.str (t'.text ++ " "), V.str (t'.text ++ "\n"), V.str (" " ++ t'.text), V.str (Txt.mul "short " 8 ++ t'.text), V.str (Txt.mul "short " 19 ++ "cash 1")] ++ [V.str (Txt.mul "short " 20 ++ "cash 1")])) upd_same)
    have h8 : upd (upd H7 sh (.lst [V.str t'.text, V.str (t'.text ++ " "), V.str (t'.text ++ "\n"), V.str (" " ++ t'.text), V.str (Txt.mul "short " 8 ++ t'.text), V.str (Txt.mul "short " 19 ++ "cash 1")])) sh (.lst ([V.str t'.text, V.str (t'.text ++ " "), V.str (t'.text ++ "\n"), V.str (" " ++ t'.text), V.str (Txt.mul "short " 8 ++ t'.text), V.str (Txt.mul "short " 19 ++ "cash 1")] ++ [V.str (Txt.mul "short " 20 ++ "cash 1")])) sh = some (.lst ((shL t'.text).map V.str)) := upd_same
    have all8 : ∀ y ∈ shL t'.text, y.length ≤ 900000 := fun y hy => by
      unfold shL at hy
      simp only [List.mem_cons, List.not_mem_nil, or_false] at hy
      rcases hy with e | e | e | e | e | e | e <;> rw [e] <;> (try rw [app_len]) <;> (try rw [blank_len]) <;> (try rw [nl_len]) <;> (try rw [mul8.2]) <;> (try rw [mul19.2]) <;> (try rw [mul20.2]) <;> (try rw [cash_len]) <;> omega
    generalize upd (upd H7 sh (.lst [V.str t'.text, V.str (t'.text ++ " "), V.str (t'.text ++ "\n"), V.str (" " ++ t'.text), V.str (Txt.mul "short " 8 ++ t'.text), V.str (Txt.mul "short " 19 ++ "cash 1")])) sh (.lst ([V.str t'.text, V.str (t'.text ++ " "), V.str (t'.text ++ "\n"), V.str (" " ++ t'.text), V.str (Txt.mul "short " 8 ++ t'.text), V.str (Txt.mul "short " 19 ++ "cash 1")] ++ [V.str (Txt.mul "short " 20 ++ "cash 1")])) = H8 at *
    clear s8 s27 s7 s26 s6 hsh hl7 hl6 hv4 s5 s4 s3 s2
    -- the bent ones
    refine ⟨6, rfl, by decide, by decide, ?_⟩
    refine for_range (lo := 0) (n := 6) (fun i σ H' => ∃ ys x4 t2, σ = [some (.ref st), some v, some (.str t'.text), some (.ref sh), x4, none, none] ∧ H' sh = some (.lst (ys.map V.str)) ∧ ys.length = 7 + i ∧ (∀ y ∈ ys, y.length ≤ 900000) ∧ SO H' st lc ll n t2 ∧ t ≤ t2 ∧ t2 ≤ t + 130 + 10 * i ∧ Tabs Tt H')
      ⟨shL t'.text, none, t1, rfl, h8, rfl, all8, I8, b1, by omega, T8⟩ (fun i σ H' hi Z => ?_) (fun σ H' Z => ?_)
    · obtain ⟨ys, x4, t2, rfl, hys, ly, ay, I9, c1, c2, T9⟩ := Z
      refine ⟨_, rfl, .inl ⟨rfl, _, SqL.of hys⟩, _, rfl, _, rfl, st, lc, ll, n, t2, t'.text, rfl, I9, by omega, by omega, fun y H10 t3 ly3 s10 I10 d1 d2 => ?_⟩
      have hys10 := s10 _ _ fsh.1 fsh.2 hys
      refine ⟨sh, _, _, rfl, rfl, hys10, ?_, ?_⟩
      · rw [List.length_map]
        omega
      refine ⟨ys ++ [y], _, t3, rfl, ?_, ?_, fun z hz => ?_, I10.lst hys10 fsh.2 fc, by omega, by omega, tabs_kt (tabs_kt T9 (s10.kt I9)) (Ktb.lst hys10)⟩
      · rw [upd_same, List.map_append]
        rfl
      · rw [List.length_append, List.length_singleton]
        omega
      · rcases List.mem_append.mp hz with hz | hz
        · exact ay z hz
        · rw [List.mem_singleton.mp hz]
          exact ly3
    obtain ⟨ys, x4, t2, rfl, hys, ly, ay, I9, c1, c2, T9⟩ := Z
    -- each sheet
    refine ⟨_, rfl, sh, rfl, ⟨_, SqL.of hys⟩, ?_⟩
    refine for_list (xs := ys.map V.str) (fun i σ H' => ∃ x5 x6, σ = [some (.ref st), some v, some (.str t'.text), some (.ref sh), x4, x5, x6] ∧ SqL K H' sh (ys.map V.str) ∧ SO H' st lc ll n t2 ∧ Tabs Tt H')
      ⟨none, none, rfl, SqL.of hys, I9, T9⟩ (fun i σ H' _ Z => ?_) (fun i x σ H' hx Z => ?_) (fun σ H' Z => ?_)
    · obtain ⟨_, _, _, h, _⟩ := Z
      exact h
    · obtain ⟨x5, x6, rfl, hq, I10, T10⟩ := Z
      rw [List.getElem?_map, Option.map_eq_some_iff] at hx
      obtain ⟨y, hy, rfl⟩ := hx
      have ly2 := ay y (List.mem_of_getElem? hy)
      have SH := shows_res (x := y) (by omega)
      have S2 := shows_two SH
      refine ⟨T10, y, rfl, by omega, fun v1 H11 e1 T11 d1 => ⟨T11, y, rfl, by omega, fun v2 H12 e2 T12 d2 => ⟨(by show 2 ≤ sizeLine; decide), fun hl hhl => ?_⟩⟩⟩
      have s13 := same_upd (o := HO.lst [V.ref 0]) hhl
      have s13 := same_upd (o := HO.lst [v1, v2]) hhl
      have e13 : ExtN H' (upd H12 hl (.lst [v1, v2])) := e1.trans (e2.trans (ExtN.of s13))
      have T13 := T12.ext s13
      have dd : Dp K (upd H12 hl (.lst [v1, v2])) (.ref hl) (.list [(readR y).data, (readR y).data]) := .lst (SqL.of upd_same) (.cons (ext_D (e2.trans (ExtN.of s13)) _ _ d1) (.cons (dp_mono s13 _ _ d2) .nil))
      refine ⟨_, rfl, hl, _, rfl, dd, S2.1, S2.2.1, S2.2.2.1, S2.2.2.2, ?_⟩
      refine ⟨_, rfl, y, rfl, by omega, fun v3 H14 s14 d3 => ⟨(by show 1 ≤ sizeLine; decide), fun l15 hl15 => ?_⟩⟩
      have s15 := same_upd (o := HO.lst [v3]) hl15
      refine ⟨l15, 2, [v3], rfl, rfl, upd_same, by decide, by decide, (by show 1 * 2 ≤ sizeLine; decide), fun l16 hl16 => ?_⟩
      have s16 := same_upd (o := HO.lst (List.replicate (2 : Int).toNat [v3]).flatten) hl16
      refine ⟨l16, .list [(readR y).data, (readR y).data], rfl, .lst (xs := [v3, v3]) (SqL.of upd_same) (.cons (dp_mono (s15.trans s16) _ _ d3) (.cons (dp_mono (s15.trans s16) _ _ d3) .nil)), S2.1, S2.2.1, S2.2.2.1, S2.2.2.2, rfl, _, rfl, ?_⟩
      rw [decide_eq_true rfl]
      have ef : ExtN H' _ := e13.trans (ExtN.of (s14.trans (s15.trans s16)))
      exact iteF ⟨_, _, rfl, ext_L ef hq, I10.ext ef, T13.ext (s14.trans (s15.trans s16))⟩
    · obtain ⟨x5, x6, rfl, hq, I10, T10⟩ := Z
      exact q H' t2 I10 c1 (by omega) T10
end
end K31
end
/-! part K31CC -/
section
set_option Elab.async false
set_option linter.all false
set_option maxRecDepth 100000
set_option maxHeartbeats 4000000
/-! K31CC: law. -/
namespace K31
open PySem PySem.Spec PyProof.Rows L2 TL LamX
def tmX : Tm := .two .ifw [1, -3] (.one .times [-4] (.leaf .at_ [2])) (.two .both [] (.leaf .cash [0]) (.leaf .above [0, 5]))
theorem y1 : readR "cash 01" = .text 0 1 := by decide +kernel
theorem y2 : readR (Txt.mul "short " 8 ++ "cash 1") = .path [] := by decide +kernel
theorem y3 : tmX.text = "if 1 -3 times -4 at 2 both cash 0 above 0 5" := by decide +kernel
theorem y4 : readR "if 1 -3 times -4 at 2 both cash 0 above 0 5" = .tm tmX := by decide +kernel
theorem y5 : walk [] tmX = none := by decide +kernel
theorem y6 : tmX.Sh := ⟨rfl, rfl, ⟨rfl, rfl, rfl, rfl⟩, rfl, rfl, ⟨rfl, rfl⟩, rfl, rfl⟩
section
variable {P : Program} {w : World} {K : PySem.W.Frag} {mg : Str → Option Value} {base : Heap} {a : Ad} {gH gR gL : Addr} {cdH : Value} {cR cL pR pL : Addr}
def spLaw (K : PySem.W.Frag) (Tt : List (Addr × Str)) : Sp := fun vs H Q _ => ∃ (p : Addr) (ns : List Int), vs = [.ref p] ∧ SqL K H p (ns.map V.int) ∧ ns.length ≤ 63 ∧ Tabs Tt H ∧ ∀ H', Q (.bl true) H'
theorem sc70 : FnScope ["script", "state", "turn", "line", "due", "term"] ["script"] (defScope (top 70)) := ⟨rfl, rfl, rfl, by decide +kernel, rfl, by decide +kernel, by decide +kernel⟩
theorem law_ok (T : Tx K mg w a) (R : Rt K mg gH gR gL cdH cR cL pR pL) (TB : TabB base mg cR pR) (TBL : TabB base mg cL pL) : FnG P w K mg base L2.CX0 72 gL (spLaw K (tabT pR pL)) := by
  obtain ⟨dV0, kV0, doc0, pm0, ct0, oc0, an0, od0, osl0, lk, hb⟩ := R.LL.ob
  refine fnG_of (k := 71) lk R.LL.cd sc70 hb (fun vs H Q E h => ?_) fun A outer s H vs Q E gd hr h => ?_
  · obtain ⟨p, ns, rfl, _⟩ := h
    rfl
  · obtain ⟨p, ns, rfl, hp, hn, hT, q⟩ := h
    have gd : (A.deeper (envOfC "law" (defScope (top 70)) s.heap.objs.size gL (.ref cL))).guards = some [] := gd
    have hm2 : (pL, lamQ "law") ∈ tabT pR pL := List.mem_cons_of_mem _ List.mem_cons_self
    have hu2 : ∀ q ∈ tabT pR pL, q.1 = pL → q.2 = lamQ "law" := fun q hq e => by
      rcases List.mem_cons.mp hq with rfl | hq
      · exact absurd e R.ne
      · rw [List.mem_singleton.mp hq]
    generalize hTt : tabT pR pL = Tt at hm2 hu2 hT
    refine ⟨_, PSs.nox (pss_cons (ps_set (i := 1) sc70.nd rfl (Or.inl rfl) (pe_cl (cl50 T) (hr.mono (by decide)) rfl passL (pa_cons (pv 0) pa_nil)))
      (pss_cons (ps_for PassesOwn.never rfl (pi_range1 rfl T.nRange (pa_cons (pe_op op_add pe_int (pe_callB (call_min2 rfl) (by rfl) T.nMin boot_min (pa_cons (pe_callB call_len (by rfl) T.nLen PySem.boot_len (pa_cons (pv 0) pa_nil)) (pa_cons pe_int pa_nil)))) pa_nil)) (pg_name (i := 2) sc70.nd rfl (Or.inl rfl)) (pss_one (ps_if (pt_not (pt_val (pe_callG gd (right_ok T R TB) (hr.mono (by decide)) rfl R.LR.gl R.LR.kp L2.pass0 (pa_cons (pv 1) pa_nil)))) (pss_one (ps_ret pe_bl)) pss_nil)))
      (pss_cons (ps_for PassesOwn.never rfl (pi_tup (pe_tup (pa_cons (pe_tup (pa_cons pe_str (pa_cons (pe_tup (pa_cons pe_str (pa_cons pe_int (pa_cons pe_int pa_nil)))) pa_nil))) (pa_cons (pe_tup (pa_cons (pe_op op_add_str (pe_op op_mul_str pe_str pe_int) pe_str) (pa_cons (pe_tup (pa_cons pe_str (pa_cons (pe_tup pa_nil) pa_nil))) pa_nil))) pa_nil)))) (pg_tup rfl (pgs_cons (pg_name (i := 3) sc70.nd rfl (Or.inr rfl)) (pgs_cons (pg_name (i := 4) sc70.nd rfl (Or.inl rfl)) pgs_nil))) (pss_one (ps_if (pt_cmpR (op_neD (hu64 hr)) (pe_heard (Tt := Tt) (i := 3) (nm := "line") T R.LH rfl TBL rfl hm2 hu2 (hr.mono (by decide)) (by exact ⟨rfl, rfl, rfl, by decide +kernel, by decide +kernel, rfl, rfl⟩) (by exact .plain (fun _ => rfl) (fun _ _ _ _ _ _ _ => rfl)) rfl rfl) (pv 4) (nomark _)) (pss_one (ps_ret pe_bl)) pss_nil)))
      (pss_cons (ps_set (i := 5) sc70.nd rfl (Or.inl rfl) (pe_tup (pa_cons pe_str (pa_cons pe_int (pa_cons (pe_un un_neg pe_int) (pa_cons (pe_tup (pa_cons pe_str (pa_cons (pe_tup (pa_cons pe_str (pa_cons pe_int pa_nil))) (pa_cons (pe_un un_neg pe_int) pa_nil)))) (pa_cons (pe_tup (pa_cons pe_str (pa_cons (pe_tup (pa_cons pe_str (pa_cons pe_int pa_nil))) (pa_cons (pe_tup (pa_cons pe_str (pa_cons pe_int (pa_cons pe_int pa_nil)))) pa_nil)))) pa_nil)))))))
      (pss_cons (ps_set (i := 3) sc70.nd rfl (Or.inr rfl) pe_str)
      (pss_one (ps_ret (pe_and (pe_cmpR op_eq (pe_cl (cl41 T) (hr.mono (by decide)) rfl passL (pa_cons (pv 5) pa_nil)) (pv 3) (nomark _)) (pe_one (pe_cmpR (op_eqD (hu64 hr)) (pe_cl (cl47 T) (hr.mono (by decide)) rfl passL (pa_cons (pv 3) pa_nil)) (pv 5) (nomark _))))))))))), ?_⟩
    subst hTt
    -- state
    refine ⟨_, rfl, p, ns, rfl, hp, by omega, fun st lc ll n H1 s1 _ _ I1 => ?_⟩
    have T1 := hT.ext s1
    -- the turns
    refine ⟨_, rfl, _, _, rfl, .inl ⟨_, s1.seq hp, rfl⟩, _, _, rfl, _, _, rfl, rfl, _, rfl, ?_, ?_, ?_⟩
    · show -(2 ^ 62) ≤ 3 + (if (7 : Int) < (((ns.map V.int).length : Nat) : Int) then (7 : Int) else (((ns.map V.int).length : Nat) : Int))
      split <;> omega
    · show 3 + (if (7 : Int) < (((ns.map V.int).length : Nat) : Int) then (7 : Int) else (((ns.map V.int).length : Nat) : Int)) < 2 ^ 62
      split <;> omega
    obtain ⟨c, hc1, hc2⟩ : ∃ c : Nat, ((fun i j => V.int (i + j)) 3 (if (7 : Int) < (((ns.map V.int).length : Nat) : Int) then (7 : Int) else (((ns.map V.int).length : Nat) : Int)) = V.int ((c : Nat) : Int)) ∧ c ≤ 10 := by
      refine ⟨(3 + (if (7 : Int) < (((ns.map V.int).length : Nat) : Int) then (7 : Int) else (((ns.map V.int).length : Nat) : Int))).toNat, ?_, ?_⟩
      · show V.int _ = V.int _
        congr 1
        split <;> omega
      · split <;> omega
    have hc3 : (3 + (if (7 : Int) < (((ns.map V.int).length : Nat) : Int) then (7 : Int) else (((ns.map V.int).length : Nat) : Int))).toNat ≤ 10 := by split <;> omega
    generalize hn0 : (3 + (if (7 : Int) < (((ns.map V.int).length : Nat) : Int) then (7 : Int) else (((ns.map V.int).length : Nat) : Int))) = z0 at *
    refine for_range (lo := 0) (n := z0.toNat) (fun i σ H' => ∃ x2 t, σ = [some (.ref p), some (.ref st), x2, none, none, none] ∧ SO H' st lc ll n t ∧ t ≤ 300 * i ∧ Tabs (tabT pR pL) H') ⟨none, 0, rfl, I1, Nat.le_refl _, T1⟩ (fun i σ H' hi Z => ?_) (fun σ H2 Z => ?_)
    · obtain ⟨x2, t, rfl, I2, ht, T2⟩ := Z
      exact ⟨_, rfl, st, lc, ll, n, t, rfl, I2, by omega, T2, fun H3 t' I3 _ ht' T3 => ⟨_, rfl, iteF ⟨_, t', rfl, I3, by omega, T3⟩⟩⟩
    obtain ⟨x2, t, rfl, I2, ht, T2⟩ := Z
    clear hc1 hc2
    -- two texts that are refused
    refine ⟨(by show 3 ≤ sizeLine; decide), fun d1 hd1 => ⟨(by show 2 ≤ sizeLine; decide), fun p1 hp1 => ?_⟩⟩
    have a1 := same_upd (o := HO.tup [V.str "text", V.int 0, V.int 1]) hd1
    have a2 := same_upd (o := HO.tup [V.str "cash 01", V.ref d1]) hp1
    refine ⟨_, _, rfl, rfl, mul8.1, _, _, rfl, rfl, ?_, Nat.zero_le _, fun d3 hd3 => ⟨(by show 2 ≤ sizeLine; decide), fun d2 hd2 => ⟨(by show 2 ≤ sizeLine; decide), fun p2 hp2 => ⟨(by show 2 ≤ sizeLine; decide), fun pp hpp => ?_⟩⟩⟩⟩
    · rw [mul8.2, cash_len]
      decide
    have a3 := same_upd (o := HO.tup []) hd3
    have a4 := same_upd (o := HO.tup [V.str "term", V.ref d3]) hd2
    have a5 := same_upd (o := HO.tup [V.str (Txt.mul "short " 8 ++ "cash 1"), V.ref d2]) hp2
    have a6 := same_upd (o := HO.tup [V.ref p1, V.ref p2]) hpp
    have k1 := SqT.of (K := K) ((a2.trans (a3.trans (a4.trans (a5.trans a6)))) _ _ upd_same)
    have k2 := SqT.of (K := K) ((a3.trans (a4.trans (a5.trans a6))) _ _ upd_same)
    have k3 := SqT.of (K := K) ((a4.trans (a5.trans a6)) _ _ upd_same)
    have k4 := SqT.of (K := K) ((a5.trans a6) _ _ upd_same)
    have k5 := SqT.of (K := K) (a6 _ _ upd_same)
    have k6 : SqT K (upd (upd (upd (upd (upd (upd H2 d1 (.tup [V.str "text", V.int 0, V.int 1])) p1 (.tup [V.str "cash 01", V.ref d1])) d3 (.tup [])) d2 (.tup [V.str "term", V.ref d3])) p2 (.tup [V.str (Txt.mul "short " 8 ++ "cash 1"), V.ref d2])) pp (.tup [V.ref p1, V.ref p2])) pp [V.ref p1, V.ref p2] := SqT.of upd_same
    have T3 := T2.ext (a1.trans (a2.trans (a3.trans (a4.trans (a5.trans a6)))))
    generalize upd (upd (upd (upd (upd (upd H2 d1 (.tup [V.str "text", V.int 0, V.int 1])) p1 (.tup [V.str "cash 01", V.ref d1])) d3 (.tup [])) d2 (.tup [V.str "term", V.ref d3])) p2 (.tup [V.str (Txt.mul "short " 8 ++ "cash 1"), V.ref d2])) pp (.tup [V.ref p1, V.ref p2]) = H9 at *
    refine ⟨pp, rfl, ⟨_, k6⟩, ?_⟩
    refine for_tup (xs := [V.ref p1, V.ref p2]) (fun i σ H' => ∃ x3 x4, σ = [some (.ref p), some (.ref st), x2, x3, x4, none] ∧ ExtN H9 H' ∧ Tabs (tabT pR pL) H') ⟨none, none, rfl, ExtN.refl _, T3⟩ (fun i σ H' _ Z => ?_) (fun i x σ H' hx Z => ?_) (fun σ H' Z => ?_)
    · obtain ⟨_, _, _, e, _⟩ := Z
      exact ext_T e k6
    · obtain ⟨x3', x4', rfl, e, T4⟩ := Z
      obtain ⟨py, dv, y, d, rfl, hpy, hy, hdv, er, sh, ev⟩ : ∃ (py dv : Addr) (y : Str) (d : PyData), x = .ref py ∧ SqT K H' py [V.str y, V.ref dv] ∧ y.length ≤ 1000000 ∧ Dp K H' (.ref dv) d ∧ (readR y).data = d ∧ SeqAt.shaped d = true ∧ PyData.eqv d d = true := by
        match i, hx with
        | 0, hx =>
          cases hx
          exact ⟨p1, d1, "cash 01", .tuple [.str "text", .int 0, .int 1], rfl, ext_T e k2, by decide +kernel, .tup (ext_T e k1) (.cons (.str _) (.cons (.int _) (.cons (.int _) .nil))), by rw [y1]; rfl, by decide +kernel, by decide +kernel⟩
        | 1, hx =>
          cases hx
          exact ⟨p2, d2, Txt.mul "short " 8 ++ "cash 1", .tuple [.str "term", .tuple []], rfl, ext_T e k5, by rw [app_len, mul8.2, cash_len]; decide, .tup (ext_T e k4) (.cons (.str _) (.cons (.tup (ext_T e k3) .nil) .nil)), by rw [y2]; rfl, by decide +kernel, by decide +kernel⟩
        | i + 2, hx => cases hx
      refine ⟨py, _, rfl, hpy, rfl, _, _, rfl, _, _, rfl, rfl, ?_⟩
      refine ⟨T4, y, rfl, hy, fun v H5 e5 T5 dv5 => ⟨_, rfl, d, d, er ▸ dv5, ext_D e5 _ _ hdv, sh, sh, _, rfl, ?_⟩⟩
      rw [ev]
      exact iteF ⟨_, _, rfl, e.trans e5, T5⟩
    obtain ⟨x3', x4', rfl, e, T4⟩ := Z
    clear k6 k5 k4 k3 k2 k1
    -- one paper
    refine ⟨3, rfl, (by show 2 ≤ sizeLine; decide), fun b1 h1 => ⟨4, rfl, (by show 3 ≤ sizeLine; decide), fun b2 h2 => ⟨(by show 2 ≤ sizeLine; decide), fun b3 h3 => ⟨(by show 3 ≤ sizeLine; decide), fun b4 h4 => ⟨(by show 3 ≤ sizeLine; decide), fun b5 h5 => ⟨(by show 5 ≤ sizeLine; decide), fun b6 h6 => ?_⟩⟩⟩⟩⟩⟩
    have c1 := same_upd (o := HO.tup [V.str "at", V.int 2]) h1
    have c2 := same_upd (o := HO.tup [V.str "times", V.ref b1, V.int (-4)]) h2
    have c3 := same_upd (o := HO.tup [V.str "cash", V.int 0]) h3
    have c4 := same_upd (o := HO.tup [V.str "above", V.int 0, V.int 5]) h4
    have c5 := same_upd (o := HO.tup [V.str "both", V.ref b3, V.ref b4]) h5
    have c6 := same_upd (o := HO.tup [V.str "if", V.int 1, V.int (-3), V.ref b2, V.ref b5]) h6
    have tv : TV K (upd (upd (upd (upd (upd (upd H' b1 (.tup [V.str "at", V.int 2])) b2 (.tup [V.str "times", V.ref b1, V.int (-4)])) b3 (.tup [V.str "cash", V.int 0])) b4 (.tup [V.str "above", V.int 0, V.int 5])) b5 (.tup [V.str "both", V.ref b3, V.ref b4])) b6 (.tup [V.str "if", V.int 1, V.int (-3), V.ref b2, V.ref b5])) (.ref b6) tmX :=
      .tup (SqT.of upd_same) (.cons (.str _) (.cons (.int _) (.cons (.int _) (.cons
        (.tup (SqT.of ((c3.trans (c4.trans (c5.trans c6))) _ _ upd_same)) (.cons (.str _) (.cons (.tup (SqT.of ((c2.trans (c3.trans (c4.trans (c5.trans c6)))) _ _ upd_same)) (.cons (.str _) (.cons (.int _) .nil))) (.cons (.int _) .nil))))
        (.cons (.tup (SqT.of (c6 _ _ upd_same)) (.cons (.str _) (.cons (.tup (SqT.of ((c4.trans (c5.trans c6)) _ _ upd_same)) (.cons (.str _) (.cons (.int _) .nil))) (.cons (.tup (SqT.of ((c5.trans c6) _ _ upd_same)) (.cons (.str _) (.cons (.int _) (.cons (.int _) .nil)))) .nil)))) .nil)))))
    generalize upd (upd (upd (upd (upd (upd H' b1 (.tup [V.str "at", V.int 2])) b2 (.tup [V.str "times", V.ref b1, V.int (-4)])) b3 (.tup [V.str "cash", V.int 0])) b4 (.tup [V.str "above", V.int 0, V.int 5])) b5 (.tup [V.str "both", V.ref b3, V.ref b4])) b6 (.tup [V.str "if", V.int 1, V.int (-3), V.ref b2, V.ref b5]) = H6 at *
    refine ⟨_, rfl, .ref b6, tmX, rfl, tv, y6, by decide, by decide, y5, fun H7 s7 => ⟨_, rfl, rfl, _, rfl, ?_⟩⟩
    rw [decide_eq_true (show V.str tmX.text = V.str "if 1 -3 times -4 at 2 both cash 0 above 0 5" by rw [y3])]
    refine iteT ⟨_, rfl, _, rfl, by decide +kernel, fun t et v H8 s8 hv => ?_, fun l w' et => (by rw [y4] at et; cases et), fun pt et => (by rw [y4] at et; cases et)⟩
    obtain rfl : tmX = t := by
      rw [y4] at et
      injection et
    refine ⟨_, rfl, tmX.data, tmX.data, hv, TV.mono (s7.trans s8) tv, data_shaped (by decide), data_shaped (by decide), ?_⟩
    rw [show PyData.eqv tmX.data tmX.data = true by decide +kernel]
    exact q _
end
end K31
end
/-! part K31Top -/
section
set_option Elab.async false
set_option maxRecDepth 100000
set_option maxHeartbeats 0
open PySem PySem.W PyProof.Rows
open_top hdK31 for PySem.Challenge.rw_curtainsteps_k31_whole_texts_of_terms
end
/-! part K31DD -/
section
set_option Elab.async false
set_option linter.all false
set_option maxRecDepth 1000000
set_option maxHeartbeats 0
/-! K31DD: what the top leaves, told of the head's heap. -/
namespace K31
open PySem PySem.Spec PyProof.Rows L2 TL LamX
section
variable {K : PySem.W.Frag} {h : Heap} {mg : Str → Option Value}
theorem df_mk {x : Str} {st : Stmt} {f : Addr} {oc : Value} {od an : Option Addr} {osl : Array (Option Value)} {kV doc pm cdv ct : Value} (X : K.In h) (G : h.Ns mainGlobals mg) (n : PySem.W.nsIn K mainGlobals x = some (some (.ref f)))
    (l : K.lookup f = some ⟨oc, od, .func (PySem.W.fnOf x x (defArgs st) (defBody st) (defScope st) .none kV doc pm an cdv ct), osl⟩) (c : PySem.W.codeIn K cdv x = true) (k : PySem.W.keepIn K (.ref f) = true) : Df K mg x st := ⟨f, _, fun_mk l c k, PySem.W.mg_of X G n⟩
theorem dm_mk {C : Addr} {x qual : Str} {st : Stmt} {f : Addr} {oc : Value} {od an : Option Addr} {osl : Array (Option Value)} {kV doc pm cdv ct : Value} (n : PySem.W.findIn K (.ref C) x = some (some (.ref f)))
    (l : K.lookup f = some ⟨oc, od, .func (PySem.W.fnOf x qual (defArgs st) (defBody st) (defScope st) .none kV doc pm an cdv ct), osl⟩) (c : PySem.W.codeIn K cdv qual = true) (k : PySem.W.keepIn K (.ref f) = true) (i : PySem.W.isFn K (.ref f) = true) : Dm K C x qual st := ⟨f, _, fun_mk l c k, ⟨n, i, k⟩⟩
theorem gc_int {x : Str} {i : Int} {t : Tok} (X : K.In h) (G : h.Ns mainGlobals mg) (n : PySem.W.nsIn K mainGlobals x = some (some (.int i t))) : GC mg x (.int i) := ⟨_, PySem.W.mg_of X G n, t, rfl⟩
theorem gc_str {x y : Str} {t : Tok} (X : K.In h) (G : h.Ns mainGlobals mg) (n : PySem.W.nsIn K mainGlobals x = some (some (.str y t))) : GC mg x (.str y) := ⟨_, PySem.W.mg_of X G n, t, rfl⟩
end
noncomputable abbrev KX (P : Params) : PySem.W.Frag := hdK31.heap_39 P

section
variable {P : Params} {h : Heap} {mg : Str → Option Value} (X : (KX P).In h) (G : h.Ns mainGlobals mg)
include X G

theorem fd6 : Df (KX P) mg "is_integer" (top 6) := df_mk X G rfl rfl rfl rfl
theorem fd26 : Df (KX P) mg "is_mark" (top 26) := df_mk X G rfl rfl rfl rfl
theorem fd27 : Df (KX P) mg "is_day_number" (top 27) := df_mk X G rfl rfl rfl rfl
theorem fd28 : Df (KX P) mg "are_own" (top 28) := df_mk X G rfl rfl rfl rfl
theorem fd29 : Df (KX P) mg "is_form" (top 29) := df_mk X G rfl rfl rfl rfl
theorem fd30 : Df (KX P) mg "places_in" (top 30) := df_mk X G rfl rfl rfl rfl
theorem fd31 : Df (KX P) mg "paths_to" (top 31) := df_mk X G rfl rfl rfl rfl
theorem fd32 : Df (KX P) mg "need_term" (top 32) := df_mk X G rfl rfl rfl rfl
theorem fd40 : Df (KX P) mg "words_in" (top 40) := df_mk X G rfl rfl rfl rfl
theorem fd41 : Df (KX P) mg "term_text" (top 41) := df_mk X G rfl rfl rfl rfl
theorem fd42 : Df (KX P) mg "integer_in" (top 42) := df_mk X G rfl rfl rfl rfl
theorem fd44 : Df (KX P) mg "lines_of" (top 44) := df_mk X G rfl rfl rfl rfl
theorem fd45 : Df (KX P) mg "need_one" (top 45) := df_mk X G rfl rfl rfl rfl
theorem fd46 : Df (KX P) mg "term_in" (top 46) := df_mk X G rfl rfl rfl rfl
theorem fd47 : Df (KX P) mg "read_term" (top 47) := df_mk X G rfl rfl rfl rfl
theorem fd49 : Df (KX P) mg "_law_mixed" (top 49) := df_mk X G rfl rfl rfl rfl
theorem fd50 : Df (KX P) mg "_law_begin" (top 50) := df_mk X G rfl rfl rfl rfl
theorem fd51 : Df (KX P) mg "_law_draw" (top 51) := df_mk X G rfl rfl rfl rfl
theorem fd52 : Df (KX P) mg "_law_of" (top 52) := df_mk X G rfl rfl rfl rfl
theorem fd53 : Df (KX P) mg "_law_paper_words" (top 53) := df_mk X G rfl rfl rfl rfl
theorem fd54 : Df (KX P) mg "_law_joined" (top 54) := df_mk X G rfl rfl rfl rfl
theorem fd55 : Df (KX P) mg "_law_integers" (top 55) := df_mk X G rfl rfl rfl rfl
theorem fd56 : Df (KX P) mg "_law_kids" (top 56) := df_mk X G rfl rfl rfl rfl
theorem fd57 : Df (KX P) mg "_law_line_of" (top 57) := df_mk X G rfl rfl rfl rfl
theorem fd58 : Df (KX P) mg "_law_paper" (top 58) := df_mk X G rfl rfl rfl rfl
theorem fd59 : Df (KX P) mg "_law_bounds_of" (top 59) := df_mk X G rfl rfl rfl rfl
theorem fd60 : Df (KX P) mg "_law_are_good" (top 60) := df_mk X G rfl rfl rfl rfl
theorem fd61 : Df (KX P) mg "_law_places" (top 61) := df_mk X G rfl rfl rfl rfl
theorem fd62 : Df (KX P) mg "_law_fault" (top 62) := df_mk X G rfl rfl rfl rfl
theorem fd63 : Df (KX P) mg "_law_integer" (top 63) := df_mk X G rfl rfl rfl rfl
theorem fd64 : Df (KX P) mg "_law_take" (top 64) := df_mk X G rfl rfl rfl rfl
theorem fd65 : Df (KX P) mg "_law_read_line" (top 65) := df_mk X G rfl rfl rfl rfl
theorem fd66 : Df (KX P) mg "_law_term_due" (top 66) := df_mk X G rfl rfl rfl rfl
theorem fd67 : Df (KX P) mg "_law_bent_text" (top 67) := df_mk X G rfl rfl rfl rfl
end
section
variable {P : Params}
theorem fmRefuse : Dm (KX P) 224 "refuse" "Words.refuse" (inClass (top 43) 1) := dm_mk rfl rfl rfl rfl rfl
theorem fmNext : Dm (KX P) 224 "next_word" "Words.next_word" (inClass (top 43) 2) := dm_mk rfl rfl rfl rfl rfl
theorem fmWord : Dm (KX P) 224 "word_of" "Words.word_of" (inClass (top 43) 3) := dm_mk rfl rfl rfl rfl rfl
theorem fmTold : Dm (KX P) 224 "told" "Words.told" (inClass (top 43) 4) := dm_mk rfl rfl rfl rfl rfl
theorem fmInteger : Dm (KX P) 224 "integer" "Words.integer" (inClass (top 43) 5) := dm_mk rfl rfl rfl rfl rfl
theorem fmEnd : Dm (KX P) 224 "end" "Words.end" (inClass (top 43) 7) := dm_mk rfl rfl rfl rfl rfl
theorem fmTerm : Dm (KX P) 224 "term" "Words.term" (inClass (top 43) 8) := dm_mk rfl rfl rfl rfl rfl
end
section
variable {P : Params} {w : World} {h : Heap} {mg : Str → Option Value}
theorem midS : MidC (KX P) 31 := ⟨rfl, rfl, rfl⟩
theorem oexT : OexC (KX P) 51 := ⟨⟨_, _, _, _, _, _, _, _, _, _, _, _, _, _, _, rfl, by decide +kernel⟩, rfl, rfl, rfl, rfl⟩
theorem oexB : OexC (KX P) 70 := ⟨⟨_, _, _, _, _, _, _, _, _, _, _, _, _, _, _, rfl, by decide +kernel⟩, rfl, rfl, rfl, rfl⟩
theorem xfT : XfC (KX P) 51 := ⟨rfl, rfl, rfl, rfl⟩
theorem xfBt : XfC (KX P) 70 := ⟨rfl, rfl, rfl, rfl⟩
theorem iniT : ∃ (fT : Addr) (dT : FuncData), PySem.W.findIn (KX P) (.ref 51) "__init__" = some (some (.ref fT)) ∧ PySem.W.typeIn (KX P) (.ref fT) = some (.type "function") ∧ Fun (KX P) "__init__" "BadTerm.__init__" sBadTermI fT dT := ⟨_, _, rfl, rfl, fun_mk rfl rfl rfl⟩
theorem iniB : ∃ (fB : Addr) (dB : FuncData), PySem.W.findIn (KX P) (.ref 70) "__init__" = some (some (.ref fB)) ∧ PySem.W.typeIn (KX P) (.ref fB) = some (.type "function") ∧ Fun (KX P) "__init__" "BadText.__init__" sBadTextI fB dB := ⟨_, _, rfl, rfl, fun_mk rfl rfl rfl⟩
theorem exmTT : PySem.W.exmOne (KX P) (.ref 51) (.ref 51) = some true := rfl
theorem exmBB : PySem.W.exmOne (KX P) (.ref 70) (.ref 70) = some true := rfl
theorem exmTB : PySem.W.exmOne (KX P) (.ref 51) (.ref 70) = some false := rfl
theorem fldP : PySem.W.findIn (KX P) (.ref 51) "path" = some none := rfl
theorem fldL : PySem.W.findIn (KX P) (.ref 70) "line" = some none := rfl
theorem fldW : PySem.W.findIn (KX P) (.ref 70) "word" = some none := rfl
theorem clsWd : Cls (KX P) 224 := ⟨rfl, rfl, rfl, rfl⟩
theorem noWd : NoAttr (KX P) 224 "all_words" ∧ NoAttr (KX P) 224 "row" ∧ NoAttr (KX P) 224 "at" ∧ NoAttr (KX P) 224 "terms_read" := ⟨rfl, rfl, rfl, rfl⟩
theorem iniW : ∃ f fd, Fun (KX P) "__init__" "Words.__init__" (inClass (top 43) 0) f fd ∧ Mk (KX P) 224 f := ⟨_, _, fun_mk rfl rfl rfl, ⟨rfl, rfl, rfl, rfl⟩⟩
theorem kdLen : KD (KX w.params) w 80 lenK := by
  refine ⟨⟨_, _, rfl, ?_, ?_⟩, by decide +kernel, by decide, by decide⟩
  · exact ⟨⟨_, _, rfl, rfl⟩, ⟨⟨_, _, rfl, rfl⟩, ⟨⟨_, _, rfl, rfl⟩, ⟨⟨_, _, rfl, rfl⟩, ⟨⟨_, _, rfl, rfl⟩, ⟨⟨_, _, rfl, rfl⟩, ⟨⟨_, _, rfl, rfl⟩, ⟨⟨_, _, rfl, rfl⟩, ⟨⟨_, _, rfl, rfl⟩, ⟨⟨_, _, rfl, rfl⟩, ⟨⟨_, _, rfl, rfl⟩, ⟨⟨_, _, rfl, rfl⟩, trivial⟩⟩⟩⟩⟩⟩⟩⟩⟩⟩⟩⟩
  · exact .cons ⟨⟨_, rfl⟩, ⟨_, rfl⟩⟩ (.cons ⟨⟨_, rfl⟩, ⟨_, rfl⟩⟩ (.cons ⟨⟨_, rfl⟩, ⟨_, rfl⟩⟩ (.cons ⟨⟨_, rfl⟩, ⟨_, rfl⟩⟩ (.cons ⟨⟨_, rfl⟩, ⟨_, rfl⟩⟩ (.cons ⟨⟨_, rfl⟩, ⟨_, rfl⟩⟩ (.cons ⟨⟨_, rfl⟩, ⟨_, rfl⟩⟩ (.cons ⟨⟨_, rfl⟩, ⟨_, rfl⟩⟩ (.cons ⟨⟨_, rfl⟩, ⟨_, rfl⟩⟩ (.cons ⟨⟨_, rfl⟩, ⟨_, rfl⟩⟩ (.cons ⟨⟨_, rfl⟩, ⟨_, rfl⟩⟩ (.cons ⟨⟨_, rfl⟩, ⟨_, rfl⟩⟩ (.nil))))))))))))
def plX : W → Addr
  | .both => 82
  | .short => 83
  | .times => 84
  | .lesser => 85
  | .greater => 86
  | .ifw => 87
  | _ => 0
theorem kdPlc : KD (KX w.params) w 81 (plcK plX) := by
  refine ⟨⟨_, _, rfl, ?_, ?_⟩, by decide +kernel, by decide, by decide⟩
  · exact ⟨⟨_, _, rfl, rfl⟩, ⟨⟨_, _, rfl, rfl⟩, ⟨⟨_, _, rfl, rfl⟩, ⟨⟨_, _, rfl, rfl⟩, ⟨⟨_, _, rfl, rfl⟩, ⟨⟨_, _, rfl, rfl⟩, trivial⟩⟩⟩⟩⟩⟩
  · exact .cons ⟨⟨_, rfl⟩, rfl⟩ (.cons ⟨⟨_, rfl⟩, rfl⟩ (.cons ⟨⟨_, rfl⟩, rfl⟩ (.cons ⟨⟨_, rfl⟩, rfl⟩ (.cons ⟨⟨_, rfl⟩, rfl⟩ (.cons ⟨⟨_, rfl⟩, rfl⟩ (.nil))))))
theorem plsX : ∀ v : W, v.nk ≠ 0 → ∀ H, SqT (KX P) H (plX v) ((pz v.pl).map V.int) := by
  intro v hv H
  cases v <;> first
    | exact absurd rfl hv
    | exact .inr ⟨_, _, _, rfl, rfl, rfl, by decide, .cons ⟨_, rfl⟩ .nil⟩
    | exact .inr ⟨_, _, _, rfl, rfl, rfl, by decide, .cons ⟨_, rfl⟩ (.cons ⟨_, rfl⟩ .nil)⟩
def adX (fT fB : Addr) (dT dB : FuncData) : Ad := ⟨31, 51, 70, fT, fB, 224, dT, dB, 80, 81, plX⟩
theorem txX (X : (KX w.params).In h) (G : h.Ns mainGlobals mg) : ∃ a : Ad, Tx (KX w.params) mg w a := by
  obtain ⟨fT, dT, i1, i2, i3⟩ := iniT (P := w.params)
  obtain ⟨fB, dB, j1, j2, j3⟩ := iniB (P := w.params)
  refine ⟨adX fT fB dT dB, ?_⟩
  exact { errs := ⟨midS, PySem.W.mg_of X G rfl, PySem.W.mg_of X G rfl, PySem.W.mg_of X G rfl, oexT, oexB, fldP, fldL, fldW, i1, j1, i2, j2, i3, j3, xfT, xfBt, exmTT, exmBB, exmTB⟩
          len := kdLen
          plc := kdPlc
          pls := plsX
          gLEN := PySem.W.mg_of X G rfl
          gPLC := PySem.W.mg_of X G rfl
          cW := clsWd
          gW := PySem.W.mg_of X G rfl
          nAll := noWd.1
          nRow := noWd.2.1
          nAt := noWd.2.2.1
          nRead := noWd.2.2.2
          cDAYS := gc_int X G rfl
          cWORDS := gc_int X G rfl
          cDEEP := gc_int X G rfl
          cMARK := gc_int X G rfl
          cCASH := gc_str X G rfl
          cAT := gc_str X G rfl
          cABOVE := gc_str X G rfl
          cBELOW := gc_str X G rfl
          cLOWEST := gc_str X G rfl
          cHIGHEST := gc_str X G rfl
          cTIMES := gc_str X G rfl
          cIF := gc_str X G rfl
          cNEWLINE := gc_str X G rfl
          cBLANK := gc_str X G rfl
          cMINUS := gc_str X G rfl
          cNAUGHT := gc_str X G rfl
          cFIGURES := gc_str X G rfl
          cMOSTF := gc_int X G rfl
          nIsi := PySem.W.mg_none_of X G rfl
          nInt := PySem.W.mg_none_of X G rfl
          nBool := PySem.W.mg_none_of X G rfl
          nStr := PySem.W.mg_none_of X G rfl
          nTuple := PySem.W.mg_none_of X G rfl
          nList := PySem.W.mg_none_of X G rfl
          nDict := PySem.W.mg_none_of X G rfl
          nLen := PySem.W.mg_none_of X G rfl
          nRange := PySem.W.mg_none_of X G rfl
          nAllB := PySem.W.mg_none_of X G rfl
          nZip := PySem.W.mg_none_of X G rfl
          nEnum := PySem.W.mg_none_of X G rfl
          nMin := PySem.W.mg_none_of X G rfl
          nRepr := PySem.W.mg_none_of X G rfl
          d6 := fd6 X G
          d26 := fd26 X G
          d27 := fd27 X G
          d28 := fd28 X G
          d29 := fd29 X G
          d30 := fd30 X G
          d31 := fd31 X G
          d32 := fd32 X G
          d40 := fd40 X G
          d41 := fd41 X G
          d42 := fd42 X G
          d44 := fd44 X G
          d45 := fd45 X G
          d46 := fd46 X G
          d47 := fd47 X G
          d49 := fd49 X G
          d50 := fd50 X G
          d51 := fd51 X G
          d52 := fd52 X G
          d53 := fd53 X G
          d54 := fd54 X G
          d55 := fd55 X G
          d56 := fd56 X G
          d57 := fd57 X G
          d58 := fd58 X G
          d59 := fd59 X G
          d60 := fd60 X G
          d61 := fd61 X G
          d62 := fd62 X G
          d63 := fd63 X G
          d64 := fd64 X G
          d65 := fd65 X G
          d66 := fd66 X G
          d67 := fd67 X G
          mInit := iniW
          mRefuse := fmRefuse
          mNext := fmNext
          mWord := fmWord
          mTold := fmTold
          mInteger := fmInteger
          mEnd := fmEnd
          mTerm := fmTerm }
theorem lkH (X : (KX P).In h) (G : h.Ns mainGlobals mg) : ∃ cd, Lk (KX P) mg "_law_heard" (top 68) 382 cd ["call"] :=
  ⟨_, ⟨_, _, _, _, _, _, _, _, _, rfl, Binds.all fun us hl => match us, hl with | [_], _ => rfl⟩, rfl, PySem.W.mg_of X G rfl, rfl⟩
theorem lkR (X : (KX P).In h) (G : h.Ns mainGlobals mg) : Lk (KX P) mg "_law_right" (top 69) 389 (.ref 388) ["state"] :=
  ⟨⟨_, _, _, _, _, _, _, _, _, rfl, Binds.all fun us hl => match us, hl with | [_], _ => rfl⟩, rfl, PySem.W.mg_of X G rfl, rfl⟩
theorem lkL (X : (KX P).In h) (G : h.Ns mainGlobals mg) : Lk (KX P) mg "law" (top 70) 396 (.ref 395) ["script"] :=
  ⟨⟨_, _, _, _, _, _, _, _, _, rfl, Binds.all fun us hl => match us, hl with | [_], _ => rfl⟩, rfl, PySem.W.mg_of X G rfl, rfl⟩
end
end K31
end
/-! part K31Final -/
section
set_option maxRecDepth 1000000
set_option maxHeartbeats 0
open PySem PySem.W PyProof.Rows
theorem PySem.Challenge.cw_curtainsteps_k31_whole_texts_of_terms_holds : PySem.Challenge.rw_curtainsteps_k31_whole_texts_of_terms.Holds := by
  refine hdK31 ?_
  refine K31.walk_ofG (l := PySem.Challenge.rw_curtainsteps_k31_whole_texts_of_terms) (n := 63) (k := 75) (K := hdK31.heap_39) (CX := fun _ => L2.CX0) rfl (by decide) (by rfl) ⟨rfl, by decide, by decide⟩ (fun w h Y => PySem.W.km_in_of Y) ?F (fun _ _ _ _ _ z => z)
  intro w mg fa h Y KX G hmg
  have e0 : mg "law" = some (Value.ref 396) := PySem.W.mg_of KX G rfl
  have e := e0.symm.trans hmg
  cases e
  obtain ⟨a, T⟩ := K31.txX KX G
  obtain ⟨cdH, rH⟩ := K31.lkH KX G
  have R : K31.Rt (hdK31.heap_39 w.params) mg 382 389 396 cdH 388 395 384 391 := ⟨rH, K31.lkR KX G, K31.lkL KX G, by decide⟩
  refine ⟨[(388, 384), (395, 391)], K31.spLaw (hdK31.heap_39 w.params) (K31.tabT 384 391), ?_, ?_, ?_, ?_, ?_⟩
  · intro p hp
    simp only [List.mem_cons, List.not_mem_nil, or_false] at hp
    rcases hp with rfl | rfl
    · exact PySem.W.km_tabs_of Y 384 (List.mem_cons_self ..)
    · exact PySem.W.km_tabs_of Y 391 (List.mem_cons_of_mem _ (List.mem_cons_self ..))
  · intro p hp
    simp only [List.mem_cons, List.not_mem_nil, or_false] at hp
    rcases hp with rfl | rfl <;> rfl
  · intro p hp
    simp only [List.mem_cons, List.not_mem_nil, or_false] at hp
    rcases hp with rfl | rfl
    · exact PySem.W.codeHd_of_K KX rfl
    · exact PySem.W.codeHd_of_K KX rfl
  · intro H a ns hn ht hS
    refine ⟨a, ns, rfl, hS, hn, ?_, fun _ => rfl⟩
    intro p hp
    simp only [K31.tabT, List.mem_cons, List.not_mem_nil, or_false] at hp
    rcases hp with rfl | rfl
    · exact LamX.TabS.nil (ht _ (List.mem_cons_self ..))
    · exact LamX.TabS.nil (ht _ (List.mem_cons_of_mem _ (List.mem_cons_self ..)))
  · intro base B N TB
    exact (K31.law_ok T R (TB _ (List.mem_cons_self ..)) (TB _ (List.mem_cons_of_mem _ (List.mem_cons_self ..)))).mono (by decide)
end
