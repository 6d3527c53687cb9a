import PyProof.Rows.All
import HandS.ForMost
import HandS.Zip
import HandS.IsInst
import HandS.Deep
import HandS.TupAny
import HandS.TupMul
import HandS.Conv
import HandS.Lambda
import HandS.Exc
import HandS.ExcOwn
import HandS.ExcCtx
import KE.KeyNested
import KE.KDictCopyH
import HandS.SetFor
import KE.DataMinMax
import PyProof.ReprRoads
import KE.GoesNew
import PyProof.Rows.TupTab
import HandS.Star
import HandS.Strs
import HandS.Style
import KE.KDictZip
import HandS.TupSets
import PyProof.RulesMatchSeq
import PyProof.Rows.MatchSeqLen
import Lean
import KE.KStateDown
import HandS.Words
import HandS.Defaults
import HandS.Head0
import HandS.Head1
import HandS.Head2
import HandS.HeadEnd
import HandS.HeadHook1
import HandS.HeadHook2
import HandS.HeadHook3
import HandS.HeadHook4
import HandS.DictComp
import HandS.GenBody
import HandS.GenYield
import HandS.GenCall
import HandS.GenList
import KE.KTupSum
import PyProof.SeqRoads2
import PySem.Challenge.RW_rolluplevels_k19_whole_answers_of_cells
set_option Elab.async false
set_option linter.all false
set_option maxRecDepth 100000
set_option maxHeartbeats 4000000
set_option autoImplicit false
namespace Mn
open PySem PySem.Spec PyProof.Rows L2

/-! data without addresses; mutable things by their place -/
inductive D where
  | non
  | bl (b : Bool)
  | int (i : Int)
  | str (x : Str)
  | tup (ds : List D)
  | lst (ds : List D)
  | scr (ds : List D)
  | ref (a : Addr)
  /-- a tuple that zip or enumerate made: unpacked, or read by its place -/
  | pair (ds : List D)
  /-- a dict whose keys are tuples, and that is never changed -/
  | dct (ks : List NestedKey) (ds : List D)
inductive MO where
  | lst (ds : List D)
  /-- a dict whose keys are tuples -/
  | dN (kvs : List (NestedKey × D))
  /-- an empty dict that stays so -/
  | dE
  /-- a dict with one entry, its key an int, that stays so -/
  | dI (k : Int) (d : D)
  /-- an instance of the class of this name; its own dict's place; its fields -/
  | ins (c : Str) (dx : Addr) (fs : List (Str × D))
  /-- the own dict of the instance at a -/
  | own (a : Addr)
  /-- the own dict of an exception: its fields -/
  | xd (fs : List (Str × D))
/-- the tables of code objects that the law's lambdas are kept in, with the lambdas' names -/
class Tbs where
  T : List (Addr × Str)
/-- the written part, the world, the tables -/
structure KF where
  fr : PySem.W.Frag
  wd : World
  tabs : List (Addr × Str)
instance : Coe KF PySem.W.Frag := ⟨KF.fr⟩
variable [Tbs]
abbrev _root_.L2.Cx.kf (X : Cx) : KF := ⟨X.K, X.w, Tbs.T⟩
/-- the class of a name -/
def KF.cls (K : KF) (c : Str) (C : Addr) : Prop := PySem.W.nsIn K.fr mainGlobals c = some (some (.ref C))
/-- a plain tuple, known to its object -/
def TpG (G : Hp) (a : Addr) (vs : List V) : Prop := ∃ o : Obj, o.dict = none ∧ G a = some (.frz o (.tup vs))
theorem TpG.same {G G' : Hp} (e : Same G G') {a : Addr} {vs : List V} (h : TpG G a vs) : TpG G' a vs := let ⟨o, d, q⟩ := h; ⟨o, d, e _ _ q⟩
theorem TpG.sq {G H : Hp} {a : Addr} {vs : List V} (h : TpG G a vs) (e : Same G H) (K : PySem.W.Frag) : SqT K H a vs := let ⟨o, _, q⟩ := h; .inl (.inr ⟨o, e _ _ q⟩)
abbrev Mu := Addr → Option MO
def up (m : Mu) (a : Addr) (o : MO) : Mu := fun b => if b = a then some o else m b
theorem up_same {m : Mu} {a : Addr} {o : MO} : up m a o a = some o := by unfold up; rw [if_pos rfl]
theorem up_ne {m : Mu} {a b : Addr} {o : MO} (h : b ≠ a) : up m a o b = m b := by unfold up; rw [if_neg h]
theorem up_up {m : Mu} {a : Addr} {o u : MO} : up (up m a o) a u = up m a u := by
  funext b; unfold up; split <;> rfl
/-- a place forgotten -/
def er (m : Mu) (a : Addr) : Mu := fun b => if b = a then none else m b
theorem er_same {m : Mu} {a : Addr} : er m a a = none := by unfold er; rw [if_pos rfl]
theorem er_ne {m : Mu} {a b : Addr} (h : b ≠ a) : er m a b = m b := by unfold er; rw [if_neg h]
theorem er_up {m : Mu} {a : Addr} {o : MO} (h : m a = none) : er (up m a o) a = m := by
  funext b; unfold er up
  by_cases e : b = a
  · rw [if_pos e, e, h]
  · rw [if_neg e, if_neg e]

mutual
/-- a key as data -/
def keyD : NestedKey → D
  | .none => .non
  | .num i => .int i
  | .text x => .str x
  | .tup ks => .tup (keyDs ks)
def keyDs : List NestedKey → List D
  | [] => []
  | k :: ks => keyD k :: keyDs ks
end
def entN (wd : World) (x : NestedKey × Addr × Value) : DictEntry := ⟨x.1.hash wd, .ref x.2.1, x.2.2⟩
/-- the dict at a has these entries -/
def dictAt (wd : World) (a : Addr) (xs : List (NestedKey × Addr × V)) (h : Heap) : Prop := ∃ vs : List (NestedKey × Addr × Value), Paired (fun (p : NestedKey × Addr × V) (q : NestedKey × Addr × Value) => p.1 = q.1 ∧ p.2.1 = q.2.1 ∧ RelV p.2.2 q.2.2) xs vs ∧
  ∃ o es ep, h.get? a = some o ∧ o.ExactDict ∧ o.data = .dict es ep ∧ es.toList = vs.map (entN wd)
mutual
inductive Rp (K : KF) (G : Hp) : D → V → Prop
  | non : Rp K G .non .non
  | bl (b : Bool) : Rp K G (.bl b) (.bl b)
  | int (i : Int) : Rp K G (.int i) (.int i)
  | str (x : Str) : Rp K G (.str x) (.str x)
  | tup {a : Addr} {ds : List D} {vs : List V} : TpG G a vs → RpL K G ds vs → ds.length ≤ sizeLine → Rp K G (.tup ds) (.ref a)
  | pair {a : Addr} {ds : List D} {vs : List V} : G a = some (.tup vs) → RpL K G ds vs → ds.length ≤ sizeLine → Rp K G (.pair ds) (.ref a)
  | lst {a : Addr} {ds : List D} {vs : List V} : G a = some (.lst vs) → RpL K G ds vs → ds.length ≤ sizeLine → Rp K G (.lst ds) (.ref a)
  | scr {a : Addr} {ds : List D} {vs : List V} : SqL K G a vs → RpL K G ds vs → ds.length ≤ sizeLine → Rp K G (.scr ds) (.ref a)
  | ref (a : Addr) : Rp K G (.ref a) (.ref a)
  | dct {a : Addr} {o : Obj} {ks : List NestedKey} {ds : List D} {xs : List (NestedKey × Addr × V)} : G a = some (.frz o (.ext (dictAt K.wd a xs))) → (a == sysModules) = false → ks = xs.map (·.1) → ks.Nodup → RpL K G ds (xs.map (·.2.2)) → RpL K G (ks.map keyD) (xs.map fun x => V.ref x.2.1) → (∀ k ∈ ks, k.depth ≤ 8) → ks.length ≤ sizeLine → Rp K G (.dct ks ds) (.ref a)
inductive RpL (K : KF) (G : Hp) : List D → List V → Prop
  | nil : RpL K G [] []
  | cons {d : D} {v : V} {ds : List D} {vs : List V} : Rp K G d v → RpL K G ds vs → RpL K G (d :: ds) (v :: vs)
end
mutual
theorem Rp.same {K : KF} {G G' : Hp} (e : Same G G') : ∀ {d : D} {v : V}, Rp K G d v → Rp K G' d v
  | _, _, .non => .non
  | _, _, .bl b => .bl b
  | _, _, .int i => .int i
  | _, _, .str x => .str x
  | _, _, .tup h r z => .tup (h.same e) (RpL.same e r) z
  | _, _, .pair h r z => .pair (e _ _ h) (RpL.same e r) z
  | _, _, .lst h r z => .lst (e _ _ h) (RpL.same e r) z
  | _, _, .scr h r z => .scr (e.seq h) (RpL.same e r) z
  | _, _, .ref a => .ref a
  | _, _, .dct h1 h2 h3 h4 h5 h6 h7 h8 => .dct (e _ _ h1) h2 h3 h4 (RpL.same e h5) (RpL.same e h6) h7 h8
theorem RpL.same {K : KF} {G G' : Hp} (e : Same G G') : ∀ {ds : List D} {vs : List V}, RpL K G ds vs → RpL K G' ds vs
  | _, _, .nil => .nil
  | _, _, .cons h r => .cons (Rp.same e h) (RpL.same e r)
end
section
variable {K : KF} {G : Hp}
theorem RpL.len : ∀ {ds : List D} {vs : List V}, RpL K G ds vs → ds.length = vs.length
  | _, _, .nil => rfl
  | _, _, .cons _ r => by rw [List.length_cons, List.length_cons, r.len]
theorem RpL.get : ∀ {ds : List D} {vs : List V} {i : Nat} {d : D}, RpL K G ds vs → ds[i]? = some d → ∃ v, vs[i]? = some v ∧ Rp K G d v
  | _, _, _, _, .nil, e => by simp at e
  | _, _, 0, _, .cons h _, e => by simp at e; subst e; exact ⟨_, rfl, h⟩
  | _, _, i + 1, d, .cons _ r, e => by
    obtain ⟨v, h1, h2⟩ := RpL.get (i := i) (d := d) r (by simpa using e)
    exact ⟨v, by simpa using h1, h2⟩
theorem RpL.app : ∀ {ds es : List D} {vs ws : List V}, RpL K G ds vs → RpL K G es ws → RpL K G (ds ++ es) (vs ++ ws)
  | _, _, _, _, .nil, s => s
  | _, _, _, _, .cons h r, s => .cons h (RpL.app r s)
theorem RpL.take : ∀ {ds : List D} {vs : List V} (n : Nat), RpL K G ds vs → RpL K G (ds.take n) (vs.take n)
  | _, _, 0, _ => by simpa using RpL.nil
  | _, _, _ + 1, .nil => .nil
  | _, _, n + 1, .cons h r => .cons h (RpL.take n r)
theorem RpL.drop : ∀ {ds : List D} {vs : List V} (n : Nat), RpL K G ds vs → RpL K G (ds.drop n) (vs.drop n)
  | _, _, 0, r => r
  | _, _, _ + 1, .nil => .nil
  | _, _, n + 1, .cons h r => RpL.drop n r
theorem RpL.set {d : D} {v : V} (h : Rp K G d v) : ∀ {ds : List D} {vs : List V} (n : Nat), RpL K G ds vs → RpL K G (ds.set n d) (vs.set n v)
  | _, _, _, .nil => .nil
  | _, _, 0, .cons _ r => .cons h r
  | _, _, n + 1, .cons q r => .cons q (RpL.set h n r)
theorem RpL.erase : ∀ {ds : List D} {vs : List V} (n : Nat), RpL K G ds vs → RpL K G (ds.eraseIdx n) (vs.eraseIdx n)
  | _, _, _, .nil => .nil
  | _, _, 0, .cons _ r => r
  | _, _, n + 1, .cons q r => .cons q (RpL.erase n r)
theorem RpL.ints : ∀ {ns : List Int} {vs : List V}, RpL K G (ns.map D.int) vs → vs = ns.map V.int
  | [], _, .nil => rfl
  | n :: ns, _, .cons h r => by cases h; rw [RpL.ints r]; rfl
theorem RpL.bls : ∀ {ns : List Bool} {vs : List V}, RpL K G (ns.map D.bl) vs → vs = ns.map V.bl
  | [], _, .nil => rfl
  | n :: ns, _, .cons h r => by cases h; rw [RpL.bls r]; rfl
theorem RpL.ofInts : ∀ (ns : List Int), RpL K G (ns.map D.int) (ns.map V.int)
  | [] => .nil
  | n :: ns => .cons (.int n) (RpL.ofInts ns)
end

/-- what is known of the class of an instance -/
structure InsC (K : PySem.W.Frag) (C : Addr) : Prop where
  cl : Cls K C
  ha : PySem.W.findIn K (.ref C) "__class__" = some (some (.builtin "object.__class__"))
  hn : PySem.W.specialIn K (.builtin "object.__class__") "__get__" = some (some (.builtin "getset_descriptor.__get__"))
  htk : PySem.W.takesIn K (.builtin "object.__class__") = some true
  hm : PySem.W.mroIn K C (.type "object") = some true
  no : ∀ T ∈ ["bool", "int", "str", "tuple", "list", "dict"], PySem.W.kitOne K (.ref C) (.type T) = some false
/-- what a mutable thing is in the abstract heap -/
def RpM (K : KF) (G : Hp) (a : Addr) : MO → HO → Prop
  | .lst ds, o => ∃ vs, o = .lst vs ∧ RpL K G ds vs ∧ ds.length ≤ sizeLine
  | .dN kvs, o => ∃ xs : List (NestedKey × Addr × V), o = .ext (dictAt K.wd a xs) ∧ (a == sysModules) = false ∧ (xs.map (·.1)).Nodup ∧ kvs.map (·.1) = xs.map (·.1) ∧ RpL K G (kvs.map (·.2)) (xs.map (·.2.2)) ∧
      (∀ x ∈ xs, Rp K G (keyD x.1) (.ref x.2.1) ∧ x.1.depth ≤ 8) ∧ kvs.length ≤ sizeLine
  | .dE, o => o = .dT []
  | .dI k d, o => ∃ v, o = .dK [(Sum.inl k, v)] ∧ Rp K G d v
  | .ins c dx fs, o => ∃ C vs, K.cls c C ∧ InsC K C ∧ o = .ins C dx ((fs.map (·.1)).zip vs) ∧ RpL K G (fs.map (·.2)) vs
  | .own y, o => o = .own y
  | .xd fs, o => ∃ vs, o = .xd ((fs.map (·.1)).zip vs) ∧ RpL K G (fs.map (·.2)) vs
theorem RpM.same {K : KF} {G G' : Hp} (e : Same G G') {a : Addr} {m : MO} {o : HO} (h : RpM K G a m o) : RpM K G' a m o := by
  cases m with
  | lst ds => obtain ⟨vs, e1, r, z⟩ := h; exact ⟨vs, e1, r.same e, z⟩
  | dN kvs => obtain ⟨xs, e1, sm, nd, k, r, ky, z⟩ := h; exact ⟨xs, e1, sm, nd, k, r.same e, fun x hx => ⟨(ky x hx).1.same e, (ky x hx).2⟩, z⟩
  | dE => exact h
  | dI k d => obtain ⟨v, e1, r⟩ := h; exact ⟨v, e1, r.same e⟩
  | ins c dx fs => obtain ⟨C, vs, e1, e0, e2, r⟩ := h; exact ⟨C, vs, e1, e0, e2, r.same e⟩
  | own y => exact h
  | xd fs => obtain ⟨vs, e1, r⟩ := h; exact ⟨vs, e1, r.same e⟩

/-- the table at P tells code objects of the name q, which nothing else holds -/
def TbAt (H : Hp) (m : Mu) (P : Addr) (q : Str) : Prop := ∃ ps : Array Value, H P = some (.tbl ps) ∧ TriplesOk ps.toList ∧ ∀ (pos : Pos) (cv : Value), codeAmong pos ps.toList = some cv → ∃ c, cv = .ref c ∧ H c = some (LamX.CodeO c q) ∧ m c = none
/-- G: what never changes; m: what may; both stand in H -/
structure Rl (K : KF) (G H : Hp) (m : Mu) : Prop where
  sub : Same G H
  mu : ∀ a o, m a = some o → G a = none ∧ ∃ u, H a = some u ∧ RpM K G a o u
  tab : ∀ t ∈ K.tabs, G t.1 = none ∧ m t.1 = none ∧ TbAt H m t.1 t.2
  nt : ∀ a ps, G a ≠ some (.tbl ps)
  tt : ∀ a ps, H a = some (.tbl ps) → ∃ q, (a, q) ∈ K.tabs
theorem RpM.nt {K : KF} {G : Hp} {a : Addr} {m : MO} {o : HO} (h : RpM K G a m o) (ps : Array Value) : o ≠ .tbl ps := by
  cases m with
  | lst ds => obtain ⟨vs, e1, _⟩ := h; subst e1; intro z; cases z
  | dN kvs => obtain ⟨xs, e1, _⟩ := h; subst e1; intro z; cases z
  | dE => have e : o = .dT [] := h; subst e; intro z; cases z
  | dI k d => obtain ⟨v, e1, _⟩ := h; subst e1; intro z; cases z
  | ins c dx fs => obtain ⟨C, vs, _, _, e2, _⟩ := h; subst e2; intro z; cases z
  | own y => have e : o = .own y := h; subst e; intro z; cases z
  | xd fs => obtain ⟨vs, e1, _⟩ := h; subst e1; intro z; cases z
theorem Rl.ttU {K : KF} {G H : Hp} {m : Mu} (r : Rl K G H m) {p : Addr} {o : HO} (hn : ∀ ps, o ≠ .tbl ps) (a : Addr) (ps : Array Value) (e : upd H p o a = some (.tbl ps)) : ∃ q, (a, q) ∈ K.tabs := by
  by_cases ha : a = p
  · subst ha; rw [upd_same] at e; exact absurd (Option.some.inj e) (hn ps)
  · rw [upd_ne ha] at e; exact r.tt a ps e
theorem Rl.free {K : KF} {G H : Hp} {m : Mu} (r : Rl K G H m) {p : Addr} (h : H p = none) : G p = none ∧ m p = none := by
  constructor
  · exact r.sub.free h
  · cases e : m p with
    | none => rfl
    | some o => obtain ⟨_, u, q, _⟩ := r.mu p o e; rw [h] at q; cases q
structure Stp (G H : Hp) (m : Mu) (G' H' : Hp) (m' : Mu) : Prop where
  g : Same G G'
  fr : ∀ b o, H b = some o → G b = none → m b = none → (∀ ps, o ≠ .tbl ps) → H' b = some o ∧ G' b = none ∧ m' b = none
  up : ∀ b o, H b = some o → ∃ o', H' b = some o'
theorem Stp.refl {G H : Hp} {m : Mu} : Stp G H m G H m := ⟨Same.refl _, fun b o h g m _ => ⟨h, g, m⟩, fun b o h => ⟨o, h⟩⟩
theorem Stp.trans {G H G1 H1 G2 H2 : Hp} {m m1 m2 : Mu} (a : Stp G H m G1 H1 m1) (b : Stp G1 H1 m1 G2 H2 m2) : Stp G H m G2 H2 m2 :=
  ⟨a.g.trans b.g, fun c o h g q n => let ⟨h1, g1, q1⟩ := a.fr c o h g q n; b.fr c o h1 g1 q1 n, fun c o h => let ⟨o1, h1⟩ := a.up c o h; b.up c o1 h1⟩
theorem Stp.free {G H G' H' : Hp} {m m' : Mu} (s : Stp G H m G' H' m') {p : Addr} (h : H' p = none) : H p = none := by
  cases e : H p with
  | none => rfl
  | some o => obtain ⟨o', q⟩ := s.up p o e; rw [h] at q; cases q

/-! slots -/
abbrev Ro := List (Option D)
structure RpS (K : KF) (G : Hp) (r : Ro) (s : L2.St) : Prop where
  len : r.length = s.length
  get : ∀ (i : Nat) (d : D), r[i]? = some (some d) → ∃ v, s[i]? = some (some v) ∧ Rp K G d v
theorem RpS.same {K : KF} {G G' : Hp} (e : Same G G') {r : Ro} {s : L2.St} (h : RpS K G r s) : RpS K G' r s :=
  ⟨h.len, fun i d q => let ⟨v, a, b⟩ := h.get i d q; ⟨v, a, b.same e⟩⟩
theorem RpS.set {K : KF} {G : Hp} {r : Ro} {s : L2.St} {d : D} {v : V} (h : RpS K G r s) (q : Rp K G d v) (i : Nat) : RpS K G (r.set i (some d)) (s.set i (some v)) := by
  refine ⟨by rw [List.length_set, List.length_set, h.len], fun j e hj => ?_⟩
  by_cases hi : i = j
  · subst hi
    by_cases hl : i < r.length
    · rw [List.getElem?_set_self hl] at hj
      cases hj
      exact ⟨v, by rw [List.getElem?_set_self (by rw [← h.len]; exact hl)], q⟩
    · rw [List.getElem?_eq_none (by rw [List.length_set]; omega)] at hj; cases hj
  · rw [List.getElem?_set_ne hi] at hj ⊢
    exact h.get j e hj
theorem RpS.forget {K : KF} {G : Hp} {r : Ro} {s : L2.St} (h : RpS K G r s) (i : Nat) (x : Option V) : RpS K G (r.set i none) (s.set i x) := by
  refine ⟨by rw [List.length_set, List.length_set, h.len], fun j e hj => ?_⟩
  by_cases hi : i = j
  · subst hi
    by_cases hl : i < r.length
    · rw [List.getElem?_set_self hl] at hj; cases hj
    · rw [List.getElem?_eq_none (by rw [List.length_set]; omega)] at hj; cases hj
  · rw [List.getElem?_set_ne hi] at hj ⊢
    exact h.get j e hj

/-! readings over data -/
abbrev DK := D → Mu → Prop
abbrev DT := Ro → Mu → DK → Prop
abbrev DB := Ro → Mu → (Bool → Mu → Prop) → Prop
abbrev DA := Ro → Mu → (List D → Mu → Prop) → Prop
/-- an exception: its class, its fields -/
structure XD where
  c : Str
  fs : List (Str × D)
structure DE where
  nx : Ro → Mu → Prop
  rt : DK
  bk : Ro → Mu → Prop := fun _ _ => False
  ct : Ro → Mu → Prop := fun _ _ => False
  ex : XD → Mu → Prop := fun _ _ => False
abbrev DS := DE → Ro → Mu → Prop

/-- the wish at the heap's level, from one over data -/
def WV (K : KF) (G H : Hp) (m : Mu) (Q : DK) (Qv : VK) : Prop :=
  ∀ v H' G' m' d, Stp G H m G' H' m' → Rl K G' H' m' → Rp K G' d v → Q d m' → Qv v H'
def lf (K : KF) (t : DT) : TE := fun s H Qv => ∃ G r m Q, RpS K G r s ∧ Rl K G H m ∧ t r m Q ∧ WV K G H m Q Qv
def lfB (K : KF) (t : DB) : TT := fun s H Qv => ∃ G r m Q, RpS K G r s ∧ Rl K G H m ∧ t r m Q ∧
  ∀ b H' G' m', Stp G H m G' H' m' → Rl K G' H' m' → Q b m' → Qv b H'
def lfA (K : KF) (t : DA) : TA := fun s H Qv => ∃ G r m Q, RpS K G r s ∧ Rl K G H m ∧ t r m Q ∧
  ∀ vs H' G' m' ds, Stp G H m G' H' m' → Rl K G' H' m' → RpL K G' ds vs → Q ds m' → Qv vs H'
/-- where the fields of an exception stand: its dict, under no name -/
def xfs (dx : Addr) : List (Str × D) := [(("" : Str), D.ref dx)]
/-- the exception x: its class, its dict -/
def RX (K : KF) (x : XD) (cls : Value) (d : Option Addr) : Prop := ∃ C, cls = .ref C ∧ K.cls x.c C ∧ ((x.fs = [] ∧ d = none) ∨ ∃ dx : Addr, x.fs = xfs dx ∧ d = some dx)
/-- what a context takes -/
def _root_.L2.Cx.wx (X : Cx) : WX := fun cls d σ H => ∀ u s', L2.XE X (fun c' d' σ' H' => c' = cls ∧ d' = d ∧ σ' = σ ∧ H' = H) u s' → X.xe u s'
structure WS (K : KF) (xw : WX) (G H : Hp) (m : Mu) (De : DE) (E : Ends) : Prop where
  nx : ∀ s' H' G' r' m', Stp G H m G' H' m' → RpS K G' r' s' → Rl K G' H' m' → De.nx r' m' → E.nx s' H'
  rt : WV K G H m De.rt E.rt
  bk : ∀ s' H' G' r' m', Stp G H m G' H' m' → RpS K G' r' s' → Rl K G' H' m' → De.bk r' m' → E.bk s' H'
  ct : ∀ s' H' G' r' m', Stp G H m G' H' m' → RpS K G' r' s' → Rl K G' H' m' → De.ct r' m' → E.ct s' H'
  ex : ∀ s' H' G' r' m' x cls d, Stp G H m G' H' m' → RpS K G' r' s' → Rl K G' H' m' → RX K x cls d → De.ex x m' → xw cls d s' H'
def lfS (K : KF) (xw : WX) (t : DS) : TS := fun E s H => ∃ G r m De, RpS K G r s ∧ Rl K G H m ∧ t De r m ∧ WS K xw G H m De E

def PD (X : Cx) (e : Expr) (t : DT) : Prop := PE X e (lf X.kf t)
def PDT (X : Cx) (e : Expr) (t : DB) : Prop := PT X e (lfB X.kf t)
def PDA (X : Cx) (es : List Expr) (t : DA) : Prop := PA X es (lfA X.kf t)
def PDS (X : Cx) (s : Stmt) (t : DS) : Prop := PS X s (lfS X.kf X.wx t)
def PDSs (X : Cx) (s : List Stmt) (t : DS) : Prop := PSs X s (lfS X.kf X.wx t)

section
variable {X : Cx} {e : Expr} {es : List Expr}
theorem peM {t t' : TE} (h : PE X e t) (i : ∀ s H Q, t' s H Q → t s H Q) : PE X e t' := ⟨fun pins s σ H Q I q => h.run pins s σ H Q I (i _ _ _ q)⟩
theorem ptM {t t' : TT} (h : PT X e t) (i : ∀ s H Q, t' s H Q → t s H Q) : PT X e t' := ⟨fun pins s σ H Q I q => h.run pins s σ H Q I (i _ _ _ q)⟩
theorem paM {t t' : TA} (h : PA X es t) (i : ∀ s H Q, t' s H Q → t s H Q) : PA X es t' := ⟨fun pos pins s σ H Q I q => h.run pos pins s σ H Q I (i _ _ _ q)⟩
theorem psM {st : Stmt} {t t' : TS} (h : PS X st t) (i : ∀ E s H, t' E s H → t E s H) : PS X st t' := ⟨fun pins s σ H D I q => h.run pins s σ H D I (i _ _ _ q)⟩
theorem pssM {st : List Stmt} {t t' : TS} (h : PSs X st t) (i : ∀ E s H, t' E s H → t E s H) : PSs X st t' := ⟨fun pins s σ H D I q => h.run pins s σ H D I (i _ _ _ q)⟩
end
section
variable {K : KF} {G H : Hp} {m : Mu}
/-- a wish behind a step -/
theorem WV.after {G1 H1 : Hp} {m1 : Mu} {Q : DK} {Qv : VK} (w : WV K G H m Q Qv) (s : Stp G H m G1 H1 m1) : WV K G1 H1 m1 Q Qv :=
  fun v H' G' m' d s' r h q => w v H' G' m' d (s.trans s') r h q
theorem WV.now {Q : DK} {Qv : VK} (w : WV K G H m Q Qv) {d : D} {v : V} (r : Rl K G H m) (h : Rp K G d v) (q : Q d m) : Qv v H := w v H G m d Stp.refl r h q
theorem WS.after {xw : WX} {G1 H1 : Hp} {m1 : Mu} {De : DE} {E : Ends} (w : WS K xw G H m De E) (s : Stp G H m G1 H1 m1) : WS K xw G1 H1 m1 De E :=
  ⟨fun s' H' G' r' m' a b c d => w.nx s' H' G' r' m' (s.trans a) b c d, w.rt.after s, fun s' H' G' r' m' a b c d => w.bk s' H' G' r' m' (s.trans a) b c d, fun s' H' G' r' m' a b c d => w.ct s' H' G' r' m' (s.trans a) b c d, fun s' H' G' r' m' x cl dd a b c d e => w.ex s' H' G' r' m' x cl dd (s.trans a) b c d e⟩
theorem TbAt.of {H H' : Hp} {m m' : Mu} {P : Addr} {q : Str} (t : TbAt H m P q) (hP : ∀ o, H P = some o → H' P = some o) (hc : ∀ c, H c = some (LamX.CodeO c q) → m c = none → H' c = some (LamX.CodeO c q) ∧ m' c = none) : TbAt H' m' P q := by
  obtain ⟨ps, h1, h2, h3⟩ := t
  refine ⟨ps, hP _ h1, h2, fun pos cv e => ?_⟩
  obtain ⟨c, e1, e2, e3⟩ := h3 pos cv e
  exact ⟨c, e1, (hc c e2 e3).1, (hc c e2 e3).2⟩
theorem TbAt.at_ {H : Hp} {m : Mu} {P : Addr} {q : Str} (t : TbAt H m P q) : ∃ o, H P = some o := let ⟨_, h, _⟩ := t; ⟨_, h⟩
/-- a new place is told -/
theorem TbAt.new {H : Hp} {m : Mu} {P p : Addr} {q : Str} {o : HO} (t : TbAt H m P q) (h : H p = none) : TbAt (upd H p o) m P q :=
  t.of (fun u e => by rw [upd_ne (ne_of_none e h)]; exact e) fun c e1 e2 => ⟨by rw [upd_ne (ne_of_none e1 h)]; exact e1, e2⟩
/-- a new thing that never changes -/
theorem Rl.new (r : Rl K G H m) {p : Addr} (h : H p = none) (o : HO) (hn : ∀ ps, o ≠ .tbl ps := by intro _ z; cases z) : Rl K (upd G p o) (upd H p o) m ∧ Stp G H m (upd G p o) (upd H p o) m := by
  obtain ⟨g, q⟩ := r.free h
  refine ⟨⟨fun b u e => ?_, fun a u e => ?_, fun t ht => ?_, fun b ps e => ?_, fun b ps e => ?_⟩, ⟨fun b u e => ?_, fun b u e1 e2 e3 _ => ?_, fun b u e => ?_⟩⟩
  · by_cases hb : b = p
    · subst hb; rw [upd_same] at e ⊢; exact e
    · rw [upd_ne hb] at e ⊢; exact r.sub b u e
  · obtain ⟨ga, w, hw, rw'⟩ := r.mu a u e
    have na : a ≠ p := fun z => by subst z; rw [q] at e; cases e
    refine ⟨by rw [upd_ne na]; exact ga, w, by rw [upd_ne na]; exact hw, rw'.same fun b z ez => ?_⟩
    rw [upd_ne (ne_of_none ez g)]; exact ez
  · obtain ⟨t1, t2, t3⟩ := r.tab t ht
    obtain ⟨o2, e2⟩ := t3.at_
    exact ⟨by rw [upd_ne (ne_of_none e2 h)]; exact t1, t2, t3.new h⟩
  · by_cases hb : b = p
    · subst hb; rw [upd_same] at e; exact hn ps (Option.some.inj e)
    · rw [upd_ne hb] at e; exact r.nt b ps e
  · exact r.ttU hn b ps e
  · rw [upd_ne (ne_of_none e g)]; exact e
  · have nb : b ≠ p := ne_of_none e1 h
    rw [upd_ne nb, upd_ne nb]; exact ⟨e1, e2, e3⟩
  · exact ⟨u, by rw [upd_ne (ne_of_none e h)]; exact e⟩
/-- a new mutable thing -/
theorem Rl.newM (r : Rl K G H m) {p : Addr} (h : H p = none) {o : HO} {u : MO} (q : RpM K G p u o) : Rl K G (upd H p o) (up m p u) ∧ Stp G H m G (upd H p o) (up m p u) := by
  obtain ⟨g, z⟩ := r.free h
  refine ⟨⟨fun b w e => ?_, fun a w e => ?_, fun t ht => ?_, r.nt, r.ttU q.nt⟩, ⟨Same.refl _, fun b w e1 e2 e3 _ => ?_, fun b w e => ?_⟩⟩
  · rw [upd_ne (ne_of_none e g)]; exact r.sub b w e
  · by_cases ha : a = p
    · subst ha; rw [up_same] at e; cases e; exact ⟨g, o, upd_same, q⟩
    · rw [up_ne ha] at e
      obtain ⟨ga, x, hx, rx⟩ := r.mu a w e
      exact ⟨ga, x, by rw [upd_ne ha]; exact hx, rx⟩
  · obtain ⟨t1, t2, t3⟩ := r.tab t ht
    obtain ⟨o2, e2⟩ := t3.at_
    exact ⟨t1, by rw [up_ne (ne_of_none e2 h)]; exact t2, t3.of (fun u e => by rw [upd_ne (ne_of_none e h)]; exact e) fun c e1 e2 => ⟨by rw [upd_ne (ne_of_none e1 h)]; exact e1, by rw [up_ne (ne_of_none e1 h)]; exact e2⟩⟩
  · have nb : b ≠ p := ne_of_none e1 h
    rw [upd_ne nb, up_ne nb]; exact ⟨e1, e2, e3⟩
  · exact ⟨w, by rw [upd_ne (ne_of_none e h)]; exact e⟩
/-- a mutable thing changed -/
theorem Rl.put (r : Rl K G H m) {p : Addr} {u0 : MO} (h : m p = some u0) {o : HO} {u : MO} (q : RpM K G p u o) : Rl K G (upd H p o) (up m p u) ∧ Stp G H m G (upd H p o) (up m p u) := by
  obtain ⟨g, x0, hx0, _⟩ := r.mu p u0 h
  refine ⟨⟨fun b w e => ?_, fun a w e => ?_, fun t ht => ?_, r.nt, r.ttU q.nt⟩, ⟨Same.refl _, fun b w e1 e2 e3 _ => ?_, fun b w e => ?_⟩⟩
  · rw [upd_ne (ne_of_none e g)]; exact r.sub b w e
  · by_cases ha : a = p
    · subst ha; rw [up_same] at e; cases e; exact ⟨g, o, upd_same, q⟩
    · rw [up_ne ha] at e
      obtain ⟨ga, x, hx, rx⟩ := r.mu a w e
      exact ⟨ga, x, by rw [upd_ne ha]; exact hx, rx⟩
  · obtain ⟨t1, t2, t3⟩ := r.tab t ht
    have ne : ∀ c, m c = none → c ≠ p := fun c e z => by subst z; rw [h] at e; cases e
    exact ⟨t1, by rw [up_ne (ne _ t2)]; exact t2, t3.of (fun u e => by rw [upd_ne (ne _ t2)]; exact e) fun c e1 e2 => ⟨by rw [upd_ne (ne _ e2)]; exact e1, by rw [up_ne (ne _ e2)]; exact e2⟩⟩
  · have nb : b ≠ p := fun z => by subst z; rw [h] at e3; cases e3
    rw [upd_ne nb, up_ne nb]; exact ⟨e1, e2, e3⟩
  · by_cases hb : b = p
    · exact ⟨o, by rw [hb]; exact upd_same⟩
    · exact ⟨w, by rw [upd_ne hb]; exact e⟩
/-- a mutable thing that is never changed again -/
theorem Rl.fix (r : Rl K G H m) {p : Addr} {u0 : MO} (h : m p = some u0) : ∃ x0, H p = some x0 ∧ RpM K G p u0 x0 ∧ Same G (upd G p x0) ∧ Rl K (upd G p x0) H (er m p) ∧ Stp G H m (upd G p x0) H (er m p) := by
  obtain ⟨g, x0, hx0, rp⟩ := r.mu p _ h
  have sm : Same G (upd G p x0) := fun b w e => by rw [upd_ne (ne_of_none e g)]; exact e
  refine ⟨x0, hx0, rp, sm, ⟨fun b w e => ?_, fun a w e => ?_, fun t ht => ?_, fun b ps e => by
    by_cases hb : b = p
    · subst hb; rw [upd_same] at e; exact rp.nt ps (Option.some.inj e)
    · rw [upd_ne hb] at e; exact r.nt b ps e, r.tt⟩, ⟨sm, fun b w e1 e2 e3 _ => ?_, fun b w e => ⟨w, e⟩⟩⟩
  · by_cases hb : b = p
    · subst hb; rw [upd_same] at e; cases e; exact hx0
    · rw [upd_ne hb] at e; exact r.sub b w e
  · have ha : a ≠ p := fun z => by subst z; rw [er_same] at e; cases e
    rw [er_ne ha] at e
    obtain ⟨ga, x, hx, rx⟩ := r.mu a w e
    exact ⟨by rw [upd_ne ha]; exact ga, x, hx, rx.same sm⟩
  · obtain ⟨t1, t2, t3⟩ := r.tab t ht
    have ne : ∀ c, m c = none → c ≠ p := fun c e z => by subst z; rw [h] at e; cases e
    exact ⟨by rw [upd_ne (ne _ t2)]; exact t1, by rw [er_ne (ne _ t2)]; exact t2, t3.of (fun u e => e) fun c e1 e2 => ⟨e1, by rw [er_ne (ne _ e2)]; exact e2⟩⟩
  · have nb : b ≠ p := fun z => by subst z; rw [h] at e3; cases e3
    rw [upd_ne nb, er_ne nb]; exact ⟨e1, e2, e3⟩
/-- a mutable list that is never changed again -/
theorem Rl.freeze (r : Rl K G H m) {p : Addr} {ds : List D} (h : m p = some (.lst ds)) : ∃ G', Rl K G' H (er m p) ∧ Stp G H m G' H (er m p) ∧ Rp K G' (.lst ds) (.ref p) := by
  obtain ⟨x0, hx0, ⟨vs, e0, rv, z⟩, sm, rl, st⟩ := r.fix h
  subst e0
  exact ⟨_, rl, st, .lst upd_same (rv.same sm) z⟩
theorem RpL.refs {K : KF} {G : Hp} : ∀ {xs : List (NestedKey × Addr × V)}, (∀ x ∈ xs, Rp K G (keyD x.1) (.ref x.2.1)) → RpL K G ((xs.map (·.1)).map keyD) (xs.map fun x => V.ref x.2.1)
  | [], _ => .nil
  | x :: xs, h => .cons (h x List.mem_cons_self) (RpL.refs fun y hy => h y (List.mem_cons_of_mem _ hy))
/-- a list that nothing tells -/
theorem Rl.hid (r : Rl K G H m) {p : Addr} (g : G p = none) (q : m p = none) (h : H p = none ∨ ∃ us, H p = some (.lst us)) (o : HO) (hn : ∀ ps, o ≠ .tbl ps := by intro _ z; cases z) : Rl K G (upd H p o) m := by
  refine ⟨fun b w e => ?_, fun a w e => ?_, fun t ht => ?_, r.nt, r.ttU hn⟩
  · rw [upd_ne (ne_of_none e g)]; exact r.sub b w e
  · obtain ⟨ga, x, hx, rx⟩ := r.mu a w e
    exact ⟨ga, x, by rw [upd_ne (fun z => by subst z; rw [q] at e; cases e)]; exact hx, rx⟩
  · obtain ⟨t1, t2, t3⟩ := r.tab t ht
    have nT : t.1 ≠ p := fun z => by
      obtain ⟨ps, e, _⟩ := t3
      rw [z] at e
      rcases h with h | ⟨us, h⟩ <;> rw [h] at e <;> cases e
    have nC : ∀ c q', H c = some (LamX.CodeO c q') → c ≠ p := fun c q' e z => by
      rw [z] at e
      rcases h with h | ⟨us, h⟩ <;> rw [h] at e <;> cases e
    exact ⟨t1, t2, t3.of (fun u e => by rw [upd_ne nT]; exact e) fun c e1 e2 => ⟨by rw [upd_ne (nC _ _ e1)]; exact e1, e2⟩⟩
theorem tab_ne {P : Addr} {q : Str} {D : Addr} {us : List V} (t : TbAt H m P q) (h : H D = some (.lst us)) : P ≠ D ∧ ∀ c, H c = some (LamX.CodeO c q) → c ≠ D := by
  obtain ⟨ps, e, _⟩ := t
  refine ⟨fun z => ?_, fun c e2 z => ?_⟩
  · rw [z, h] at e; cases e
  · rw [z, h] at e2; cases e2
theorem Rl.hidG (r : Rl K G H m) {D : Addr} {us : List V} (h : H D = some (.lst us)) (g : G D = none) (q : m D = none) : Rl K (upd G D (.lst us)) H m := by
  have sm : Same G (upd G D (.lst us)) := fun b o e => by rw [upd_ne (ne_of_none e g)]; exact e
  refine ⟨fun b o e => ?_, fun a o e => ?_, fun t ht => ?_, fun b ps e => by
    by_cases hb : b = D
    · subst hb; rw [upd_same] at e; cases e
    · rw [upd_ne hb] at e; exact r.nt b ps e, r.tt⟩
  · by_cases hb : b = D
    · subst hb; rw [upd_same] at e; cases e; exact h
    · rw [upd_ne hb] at e; exact r.sub b o e
  · obtain ⟨h1, u, h2, h3⟩ := r.mu a o e
    have na : a ≠ D := fun z => by subst z; rw [q] at e; cases e
    exact ⟨by rw [upd_ne na]; exact h1, u, h2, h3.same sm⟩
  · obtain ⟨t1, t2, t3⟩ := r.tab t ht
    exact ⟨by rw [upd_ne (tab_ne t3 h).1]; exact t1, t2, t3⟩
/-- fewer mutable things are told -/
theorem Rl.less (r : Rl K G H m) {m' : Mu} (h : ∀ a o, m' a = some o → m a = some o) : Rl K G H m' := by
  have no : ∀ a, m a = none → m' a = none := fun a e => by
    cases q : m' a with
    | none => rfl
    | some u => rw [h a u q] at e; cases e
  exact ⟨r.sub, fun a o e => r.mu a o (h a o e), fun t ht => let ⟨t1, t2, t3⟩ := r.tab t ht; ⟨t1, no _ t2, t3.of (fun _ e => e) fun c e1 e2 => ⟨e1, no c e2⟩⟩, r.nt, r.tt⟩
theorem Stp.less {G' H' : Hp} {m1 m' : Mu} (s : Stp G H m G' H' m1) (h : ∀ a o, m' a = some o → m1 a = some o) : Stp G H m G' H' m' := by
  refine ⟨s.g, fun b o e1 e2 e3 n => ?_, s.up⟩
  obtain ⟨h1, h2, h3⟩ := s.fr b o e1 e2 e3 n
  refine ⟨h1, h2, ?_⟩
  cases e : m' b with
  | none => rfl
  | some u => rw [h b u e] at h3; cases h3
end
end Mn

set_option Elab.async false
set_option linter.all false
set_option maxRecDepth 100000
set_option maxHeartbeats 4000000
set_option autoImplicit false
namespace Mn
open PySem PySem.Spec PyProof.Rows L2
variable [Tbs]
/-! new tuples, known to their objects -/
section
variable {X : Cx} {es : List Expr} {pos : Pos}
def NewT (H : Hp) (xs : List V) (Q : VK) : Prop := ∀ (p : Addr) (o : Obj), o.dict = none → H p = none → Q (.ref p) (upd H p (.frz o (.tup xs)))
def tTupF (t : TA) : TE := fun σ H Q => t σ H fun xs H1 => xs.length ≤ sizeLine ∧ NewT H1 xs Q
theorem pe_tupF {x1} {t : TA} (h : PA X es t) : PE X (.Tuple es x1 pos) (tTupF t) := by
  refine ⟨fun pins s σ H Q I hq => ?_⟩
  refine wpAny_Tuple_spliced (thn (h.run pos pins s σ H _ I hq) fun us s1 ⟨xs, H1, I1, r, z, q⟩ => ⟨by rw [← r.length]; exact z, ?_⟩)
  have hf : H1 s1.heap.objs.size = none := I1.hok.fresh (Nat.le_refl _)
  refine ⟨.ref s1.heap.objs.size, _, I1.laid (o := .frz { cls := .type "tuple", data := .seq us.toArray } (.tup xs)) (t' := s1.toks) (fun b u e => Heap.get?_push_of_some _ e) (Nat.le_refl _) ?_, rfl, q _ _ rfl hf⟩
  exact ⟨Heap.get?_push_size _ rfl, z, us, r, ⟨_, Heap.get?_push_size _ rfl, rfl, _, rfl⟩⟩
theorem call_tuple_ofF : CallR X (.type "tuple") (fun xs H Q => ∃ p ys, xs = [.ref p] ∧ ((SqL X.K H p ys ∧ NewT H ys Q) ∨ (SqT X.K H p ys ∧ Q (.ref p) H))) := by
  intro pins s σ H xs us Q I r h
  obtain ⟨p, ys, rfl, h⟩ := h
  obtain ⟨u, rfl, rx⟩ := vals1 r
  cases rx
  rcases h with ⟨hq, q⟩ | ⟨hq, q⟩
  · obtain ⟨its, r', pl, hz⟩ := I.list hq
    have hlen := r'.length
    refine call_tuple_list pl.isList (fun h' kp => ?_) (by simp only [List.size_toArray] <;> omega)
    have I1 : Inv X pins σ H { s with heap := h' } := I.kept (t' := s.toks) kp
    have I2 : Inv X pins σ (upd H h'.objs.size (.frz { cls := .type "tuple", data := .seq its.toArray } (.tup ys))) { s with heap := h'.push { cls := .type "tuple", data := .seq its.toArray } } :=
      I1.laid (t' := s.toks) (fun b o e => Heap.get?_push_of_some _ e) (Nat.le_refl _) (show ObjOk X.prog X.w _ _ _ (.frz _ (.tup ys)) from ⟨Heap.get?_push_size _ rfl, hz, its, r', IsTup.new _ _⟩)
    exact ⟨.ref h'.objs.size, _, I2, rfl, q _ _ rfl (I1.hok.fresh (Nat.le_refl _))⟩
  · exact call_tupleT pins s σ H _ _ Q I r ⟨p, ys, rfl, hq, q⟩
/-- t + u -/
def rCatF (K : PySem.W.Frag) : R2 := fun x y H Q => ∃ a b xs ys, x = .ref a ∧ y = .ref b ∧ SqT K H a xs ∧ SqT K H b ys ∧ xs.length + ys.length ≤ sizeLine ∧
  (xs = [] → Q (.ref b) H) ∧ (xs ≠ [] → ys = [] → Q (.ref a) H) ∧ (xs ≠ [] → ys ≠ [] → NewT H (xs ++ ys) Q)
theorem op_catF : OpR X (binaryOp .Add) (rCatF X.K) := by
  intro pins s σ H x y v u Q I rx ry h
  obtain ⟨a, b, xs, ys, rfl, rfl, ha, hb, hz, q0, q1, q2⟩ := h
  cases rx
  cases ry
  obtain ⟨its, r1, p1, _⟩ := I.tuple ha
  obtain ⟨its2, r2, p2, _⟩ := I.tuple hb
  by_cases hx : xs = []
  · subst hx
    cases r1
    exact cat_tup0 p1 p2 ⟨.ref b, H, I, rfl, q0 rfl⟩
  · refine HT.cat_tup p1 p2 (fun z => hx (r1.nil_iff.mp z)) (fun z => ⟨.ref a, H, I, rfl, q1 hx (r2.nil_iff.mp z)⟩) (fun z => ?_) (by rw [← r1.length, ← r2.length]; exact hz)
    refine ⟨.ref s.heap.objs.size, _, I.laid (t' := s.toks) (o := .frz { cls := .type "tuple", data := .seq (its ++ its2).toArray } (.tup (xs ++ ys))) (fun b ob q => Heap.get?_push_of_some _ q) (Nat.le_refl _) ?_, rfl, q2 hx (fun w => z (r2.nil_iff.mpr w)) _ _ rfl (I.hok.fresh (Nat.le_refl _))⟩
    exact ⟨by first | exact Heap.get?_push_size _ rfl | (rw [List.append_toArray]; exact Heap.get?_push_size _ rfl), by rw [List.length_append]; exact hz, _, r1.append r2, IsTup.new _ _⟩
/-- t[lo:hi]: the whole of it is t itself -/
def rSlF (K : PySem.W.Frag) : V → Option Int → Option Int → Hp → VK → Prop := fun x lo hi H Q => ∃ a xs, x = .ref a ∧ SqT K H a xs ∧
  (HT.sIx xs.length 0 lo = 0 ∧ HT.sIx xs.length xs.length hi = xs.length → Q (.ref a) H) ∧ (¬ (HT.sIx xs.length 0 lo = 0 ∧ HT.sIx xs.length xs.length hi = xs.length) → NewT H (cutV xs lo hi) Q)
theorem sl_tupF : SlR X (rSlF X.K) := by
  intro pins s σ H x v vl vu lo hi sl Q I rx hs pl pu h
  obtain ⟨a, xs, rfl, hx, q1, q2⟩ := h
  by_cases hw : HT.sIx xs.length 0 lo = 0 ∧ HT.sIx xs.length xs.length hi = xs.length
  · cases rx
    obtain ⟨its, r, ht, hz⟩ := I.tuple hx
    have hlen : its.toArray.size = xs.length := by rw [List.size_toArray]; exact r.length.symm
    refine ⟨"tuple", _, PyProof.Rows.slot_tuple_getitem.lookup, ht.typeIs, ?_⟩
    exact getItem_tuple_whole ht hs pl pu (by rw [hlen]; exact hw) ⟨.ref a, H, I, rfl, q1 hw⟩
  · cases rx
    obtain ⟨its, r, ht, hz⟩ := I.tuple hx
    have hlen : its.toArray.size = xs.length := by rw [List.size_toArray]; exact r.length.symm
    refine ⟨"tuple", _, PyProof.Rows.slot_tuple_getitem.lookup, ht.typeIs, ?_⟩
    refine HT.getItem_tuple_cut ht hs pl pu (by rw [hlen]; exact hw) ?_ (by rw [hlen]; exact hz)
    rw [hlen]
    refine ⟨.ref s.heap.objs.size, _, I.laid (t' := s.toks) (o := .frz { cls := .type "tuple", data := .seq (List.take (HT.sIx xs.length xs.length hi - HT.sIx xs.length 0 lo) (List.drop (HT.sIx xs.length 0 lo) its.toArray.toList)).toArray } (.tup (cutV xs lo hi))) (fun b ob q => Heap.get?_push_of_some _ q) (Nat.le_refl _) ?_, rfl, q2 hw _ _ rfl (I.hok.fresh (Nat.le_refl _))⟩
    exact ⟨Heap.get?_push_size _ rfl, Nat.le_trans (cutV_length xs lo hi) hz, _, (r.drop (HT.sIx xs.length 0 lo)).take (HT.sIx xs.length xs.length hi - HT.sIx xs.length 0 lo), IsTup.new _ _⟩
/-- t * k -/
def rRepF (K : PySem.W.Frag) : R2 := fun x y H Q => ∃ l k xs, x = .ref l ∧ y = .int k ∧ SqT K H l xs ∧ xs ≠ [] ∧ 2 ≤ k ∧ k ≤ 1000 ∧ xs.length ≤ 1000 ∧ NewT H (List.replicate k.toNat xs).flatten Q
theorem op_repF : OpR X (binaryOp .Mult) (rRepF X.K) := by
  intro pins s σ H x y v u Q I rx ry h
  obtain ⟨l, k, xs, rfl, rfl, hT, hne, h1, h2, hz, q⟩ := h
  cases rx
  obtain ⟨t, rfl⟩ := ry
  obtain ⟨its, r, ⟨⟨cls, dd, data, sl⟩, ho, hc, n, hd⟩, hs⟩ := I.tuple hT
  simp only at hc hd
  subst hc hd
  have hle : its.length = xs.length := r.length.symm
  have hn : its ≠ [] := fun e => hne (by
    rw [e] at hle
    exact List.eq_nil_of_length_eq_zero hle.symm)
  have hi : its.toArray.isEmpty = false := by
    cases its with
    | nil => exact absurd rfl hn
    | cons a b => rfl
  have hsz0 : its.toArray.size = xs.length := by rw [List.size_toArray, hle]
  have hm : ((its.toArray.size : Nat) : Int) * k ≤ 1000000 := by
    rw [hsz0]
    have a1 : ((xs.length : Nat) : Int) * k ≤ 1000 * k := Int.mul_le_mul_of_nonneg_right (by omega) (by omega)
    omega
  have flen : (List.replicate k.toNat its).flatten.length ≤ sizeLine := by
    rw [PyProof.Rows.lm_len_rep_flat, hle, sizeLine_eq]
    have a1 : k.toNat * xs.length ≤ 1000 * 1000 := Nat.mul_le_mul (by omega) hz
    omega
  have c0 : (decide (k < -(2 ^ 63)) || decide (k ≥ 2 ^ 63)) = false := by
    rw [decide_eq_false (by omega), decide_eq_false (by omega)] <;> rfl
  have c1 : (its.toArray.isEmpty || k == 1) = false := by
    rw [hi, Bool.false_or]
    exact beq_eq_false_iff_ne.mpr (by omega)
  have c2 : (decide (k ≤ 0) || its.toArray.isEmpty) = false := by
    rw [hi, Bool.or_false]
    exact decide_eq_false (by omega)
  have c4 : Builtin.Tuple.tupleTooMany (((its.toArray.size : Nat) : Int) * k) = false := by
    unfold Builtin.Tuple.tupleTooMany
    rw [sizeLine_eq]
    exact decide_eq_false (by omega)
  refine wpAny_binaryOp_repeat_ref (T := "tuple") (U := "int") (by decide) ⟨_, ho, rfl⟩ (fun s' => typeIs_int s' k t) noFill_tuple_mul F.fills_int_mul F.slot_int_rmul repeat_tuple F.slot_int_index.lookup
    (call_meets F.slot_int_rmul (typeIs_int s k t) F.entry_int_rmul (F.args_int_rmul_2 _ _) (int_rmul_tuple k t l its.toArray n dd sl)
      ⟨ho, rfl, ⟨_, ho, rfl⟩, call_meets F.slot_tuple_mul ⟨_, ho, rfl⟩ F.entry_tuple_mul (F.args_tuple_mul_2 _ _) (tuple_mulW l its.toArray n dd sl k t c0 c1 c2 (by omega) c4 (by rw [size_rep, List.size_toArray]; exact flen)) ⟨ho, ?_⟩⟩)
  rw [size_rep]
  refine ⟨.ref s.heap.objs.size, _, I.laid (t' := s.toks) (o := .frz { cls := .type "tuple", data := .seq (List.replicate k.toNat its).flatten.toArray } (.tup (List.replicate k.toNat xs).flatten)) (fun b ob q => Heap.get?_push_of_some _ q) (Nat.le_refl _) ?_, rfl, q _ _ rfl (I.hok.fresh (Nat.le_refl _))⟩
  exact ⟨Heap.get?_push_size _ rfl, by rw [PyProof.Rows.lm_len_rep_flat, sizeLine_eq]; have a1 : k.toNat * xs.length ≤ 1000 * 1000 := Nat.mul_le_mul (by omega) hz; omega, _, r.rep k.toNat, IsTup.new _ _⟩
end
end Mn

set_option Elab.async false
set_option linter.all false
set_option maxRecDepth 100000
set_option maxHeartbeats 4000000
set_option autoImplicit false
namespace Mn
open PySem PySem.Spec PyProof.Rows L2
variable [Tbs]

/-! expressions -/
def dVar (i : Nat) : DT := fun r m Q => ∃ d, r[i]? = some (some d) ∧ Q d m
def dC (d : D) : DT := fun _ m Q => Q d m
section
variable {X : Cx} {a b c : Expr} {es : List Expr} {ta tb tc : DT} {pos : Pos}
/-- a value that is the same whatever the state -/
theorem pd_of {e : Expr} {v : V} {d : D} (h : PE X e (tC v)) (r : ∀ G, Rp X.kf G d v) : PD X e (dC d) :=
  peM h fun s H Q ⟨G, ro, m, Qd, hs, hr, q, w⟩ => w.now hr (r G) q
theorem pd_var {i : Nat} {x : Str} (h : PE X (.Name x pos) (tVar i)) : PD X (.Name x pos) (dVar i) :=
  peM h fun s H Q ⟨G, ro, m, Qd, hs, hr, ⟨d, e, q⟩, w⟩ => let ⟨v, e1, rv⟩ := hs.get i d e; ⟨v, e1, w.now hr rv q⟩
theorem pd_int {i j} : PD X (.Constant (.int i) j pos) (dC (.int i)) := pd_of pe_int fun _ => .int i
theorem pd_bl {k j} : PD X (.Constant (.bool k) j pos) (dC (.bl k)) := pd_of pe_bl fun _ => .bl k
theorem pd_str {x j} : PD X (.Constant (.str x) j pos) (dC (.str x)) := pd_of pe_str fun _ => .str x

/-! two in a row -/
theorem lf2 {K : KF} {s : L2.St} {H : Hp} {R : V → V → Hp → Prop} {G : Hp} {r : Ro} {m : Mu} {P : D → D → Mu → Prop} (hs : RpS K G r s) (hr : Rl K G H m)
    (h : ta r m fun x m1 => tb r m1 fun y m2 => P x y m2)
    (w : ∀ x y dx dy H' G' m', Stp G H m G' H' m' → Rl K G' H' m' → Rp K G' dx x → Rp K G' dy y → P dx dy m' → R x y H') :
    lf K ta s H fun x H1 => lf K tb s H1 fun y H2 => R x y H2 := by
  refine ⟨G, r, m, _, hs, hr, h, fun v H1 G1 m1 d s1 r1 h1 q1 => ?_⟩
  refine ⟨G1, r, m1, _, hs.same s1.g, r1, q1, fun u H2 G2 m2 d2 s2 r2 h2 q2 => ?_⟩
  exact w v u d d2 H2 G2 m2 (s1.trans s2) r2 (h1.same s2.g) h2 q2
abbrev DR2 := D → D → Mu → DK → Prop
def C2 (K : KF) (r : R2) (dr : DR2) : Prop := ∀ (G H : Hp) (m : Mu) (x y : V) (dx dy : D) (Q : DK) (Qv : VK), Rl K G H m → Rp K G dx x → Rp K G dy y → dr dx dy m Q → WV K G H m Q Qv → r x y H Qv
def dOp (dr : DR2) (ta tb : DT) : DT := fun r m Q => ta r m fun x m1 => tb r m1 fun y m2 => dr x y m2 Q
theorem lfOp {r : R2} {dr : DR2} (hc : C2 X.kf r dr) {s : L2.St} {H : Hp} {Q : VK} (h : lf X.kf (dOp dr ta tb) s H Q) : tOp r (lf X.kf ta) (lf X.kf tb) s H Q := by
  obtain ⟨G, ro, m, Qd, hs, hr, q, w⟩ := h
  exact lf2 hs hr q fun x y dx dy H' G' m' st rl rx ry p => hc G' H' m' x y dx dy Qd Q rl rx ry p (w.after st)
theorem pd_op {op : Operator} {r : R2} {dr : DR2} (ho : OpR X (binaryOp op) r) (hc : C2 X.kf r dr) (ha : PD X a ta) (hb : PD X b tb) : PD X (.BinOp a op b pos) (dOp dr ta tb) :=
  peM (pe_op ho ha hb) fun _ _ _ h => lfOp hc h
theorem pd_cmp {op : CmpOp} {r : R2} {dr : DR2} (ho : OpR X (compareOp op) r) (hc : C2 X.kf r dr) (ha : PD X a ta) (hb : PD X b tb) (hm : behindInMarks op b = false) : PD X (.Compare a [op] [b] pos) (dOp dr ta tb) :=
  peM (pe_cmpR ho ha hb hm) fun _ _ _ h => lfOp hc h
/-- tests from values -/
def dTest (t : DT) : DB := fun r m Q => t r m fun d m1 => ∃ k, d = .bl k ∧ Q k m1
theorem lfTest {t : DT} {s : L2.St} {H : Hp} {Q : Bool → Hp → Prop} (h : lfB X.kf (dTest t) s H Q) : lf X.kf t s H fun x H1 => ∃ k, x = .bl k ∧ Q k H1 := by
  obtain ⟨G, ro, m, Qd, hs, hr, q, w⟩ := h
  refine ⟨G, ro, m, _, hs, hr, q, fun v H1 G1 m1 d s1 r1 h1 ⟨k, e, q1⟩ => ?_⟩
  subst e
  cases h1
  exact ⟨k, rfl, w k H1 G1 m1 s1 r1 q1⟩
theorem pdt_val {t : DT} (h : PD X a t) (he : ∀ whole, isTrue a X.env whole = (do let v ← whole; standAt a.pos; holding [v] (truthy v)) := by intro _; rfl) : PDT X a (dTest t) :=
  ptM (pt_val h he) fun _ _ _ h => lfTest h
theorem pdt_cmp {op : CmpOp} {r : R2} {dr : DR2} (ho : OpR X (compareOp op) r) (hc : C2 X.kf r dr) (ha : PD X a ta) (hb : PD X b tb) (hm : behindInMarks op b = false) : PDT X (.Compare a [op] [b] pos) (dTest (dOp dr ta tb)) := by
  refine ptM (pt_cmpR ho ha hb hm) fun s H Q h => ?_
  have h2 := lfTest h
  exact lfOp hc h2
/-- x op y op' z -/
def dChain (dr dr' : DR2) (ta tb tc : DT) : DT := fun r m Q => ta r m fun x m1 => tb r m1 fun y m2 => dr x y m2 fun k m3 => ∃ c, k = .bl c ∧ if c = true then tc r m3 fun z m4 => dr' y z m4 Q else Q (.bl false) m3
theorem lfChain {r r' : R2} {dr dr' : DR2} (hc : C2 X.kf r dr) (hc' : C2 X.kf r' dr') {s : L2.St} {H : Hp} {Q : VK} (h : lf X.kf (dChain dr dr' ta tb tc) s H Q) : tChain r r' (lf X.kf ta) (lf X.kf tb) (lf X.kf tc) s H Q := by
  obtain ⟨G, ro, m, Qd, hs, hr, q, w⟩ := h
  refine lf2 hs hr q fun x y dx dy H' G' m' st rl rx ry p => ?_
  refine hc G' H' m' x y dx dy _ _ rl rx ry p fun v H2 G2 m2 d s2 r2 h2 ⟨c, e, q2⟩ => ?_
  subst e
  cases h2
  refine ⟨c, rfl, ?_⟩
  cases c with
  | false => exact w _ _ _ _ _ (st.trans s2) r2 (.bl false) q2
  | true =>
    refine ⟨G2, ro, m2, _, (hs.same st.g).same s2.g, r2, q2, fun v3 H3 G3 m3 d3 s3 r3 h3 q3 => ?_⟩
    exact hc' G3 H3 m3 y v3 dy d3 Qd Q r3 ((ry.same s2.g).same s3.g) h3 q3 (w.after ((st.trans s2).trans s3))
theorem pd_chain {op op' : CmpOp} {r r' : R2} {dr dr' : DR2} (ho : OpR X (compareOp op) r) (ho' : OpR X (compareOp op') r') (hc : C2 X.kf r dr) (hc' : C2 X.kf r' dr') (ha : PD X a ta) (hb : PD X b tb) (hz : PD X c tc)
    (h1 : lastMarks [op, op'] [b, c] = false := by rfl) : PD X (.Compare a [op, op'] [b, c] pos) (dChain dr dr' ta tb tc) :=
  peM (pe_chain ho ho' ha hb hz h1) fun _ _ _ h => lfChain hc hc' h
theorem pdt_chain {op op' : CmpOp} {r r' : R2} {dr dr' : DR2} (ho : OpR X (compareOp op) r) (ho' : OpR X (compareOp op') r') (hc : C2 X.kf r dr) (hc' : C2 X.kf r' dr') (ha : PD X a ta) (hb : PD X b tb) (hz : PD X c tc)
    (h1 : lastMarks [op, op'] [b, c] = false := by rfl) : PDT X (.Compare a [op, op'] [b, c] pos) (dTest (dChain dr dr' ta tb tc)) := by
  refine ptM (pt_chain ho ho' ha hb hz h1) fun s H Q h => ?_
  have h2 := lfTest h
  exact lfChain hc hc' h2

/-! and, or, not -/
def dAndV (ta tb : DT) : DT := fun r m Q => ta r m fun x m1 => ∃ k, x = .bl k ∧ if k = true then tb r m1 Q else Q (.bl false) m1
def dOrV (ta tb : DT) : DT := fun r m Q => ta r m fun x m1 => ∃ k, x = .bl k ∧ if k = true then Q (.bl true) m1 else tb r m1 Q
def dNotV (ta : DT) : DT := fun r m Q => ta r m fun x m1 => ∃ k, x = .bl k ∧ Q (.bl (!k)) m1
variable {rest : List Expr}
theorem pd_one {op} (h : PD X a ta) : PD X (.BoolOp op [a] pos) ta := pe_one h
theorem pd_and (ha : PD X a ta) (hb : PD X (.BoolOp .And (b :: rest) pos) tb) : PD X (.BoolOp .And (a :: b :: rest) pos) (dAndV ta tb) := by
  refine peM (pe_and ha hb) fun s H Q ⟨G, ro, m, Qd, hs, hr, q, w⟩ => ?_
  refine ⟨G, ro, m, _, hs, hr, q, fun v H1 G1 m1 d s1 r1 h1 ⟨k, e, q1⟩ => ?_⟩
  subst e
  cases h1
  refine ⟨k, rfl, ?_⟩
  cases k with
  | true => exact ⟨G1, ro, m1, Qd, hs.same s1.g, r1, q1, w.after s1⟩
  | false => exact w _ _ _ _ _ s1 r1 (.bl false) q1
theorem pd_or (ha : PD X a ta) (hb : PD X (.BoolOp .Or (b :: rest) pos) tb) : PD X (.BoolOp .Or (a :: b :: rest) pos) (dOrV ta tb) := by
  refine peM (pe_or ha hb) fun s H Q ⟨G, ro, m, Qd, hs, hr, q, w⟩ => ?_
  refine ⟨G, ro, m, _, hs, hr, q, fun v H1 G1 m1 d s1 r1 h1 ⟨k, e, q1⟩ => ?_⟩
  subst e
  cases h1
  refine ⟨k, rfl, ?_⟩
  cases k with
  | false => exact ⟨G1, ro, m1, Qd, hs.same s1.g, r1, q1, w.after s1⟩
  | true => exact w _ _ _ _ _ s1 r1 (.bl true) q1
theorem pd_not (ha : PD X a ta) : PD X (.UnaryOp .Not a pos) (dNotV ta) := by
  refine peM (pe_not ha) fun s H Q ⟨G, ro, m, Qd, hs, hr, q, w⟩ => ?_
  refine ⟨G, ro, m, _, hs, hr, q, fun v H1 G1 m1 d s1 r1 h1 ⟨k, e, q1⟩ => ?_⟩
  subst e
  cases h1
  exact ⟨k, rfl, w _ _ _ _ _ s1 r1 (.bl (!k)) q1⟩
def dAnd (ta tb : DB) : DB := fun r m Q => ta r m fun k m1 => if k = true then tb r m1 Q else Q false m1
def dOr (ta tb : DB) : DB := fun r m Q => ta r m fun k m1 => if k = true then Q true m1 else tb r m1 Q
def dNot (ta : DB) : DB := fun r m Q => ta r m fun k m1 => Q (!k) m1
variable {ua ub : DB}
def PDW (X : Cx) (e : Expr) (t : DB) : Prop := PW X e (lfB X.kf t)
theorem pwM {e : Expr} {t t' : TT} (h : PW X e t) (i : ∀ s H Q, t' s H Q → t s H Q) : PW X e t' := ⟨fun wh pins s σ H Q I q => h.run wh pins s σ H Q I (i _ _ _ q)⟩
theorem pdt_w {e : Expr} {t : DB} (h : PDW X e t) : PDT X e t := PW.pt h
theorem pdw_and1 (h : PDT X a ua) : PDW X (.BoolOp .And [a] pos) ua := pw_and1 h
theorem pdw_or1 (h : PDT X a ua) : PDW X (.BoolOp .Or [a] pos) ua := pw_or1 h
theorem pdw_and (ha : PDT X a ua) (hb : PDW X (.BoolOp .And (b :: rest) pos) ub) : PDW X (.BoolOp .And (a :: b :: rest) pos) (dAnd ua ub) := by
  refine pwM (pw_and ha hb) fun s H Q ⟨G, ro, m, Qd, hs, hr, q, w⟩ => ?_
  refine ⟨G, ro, m, _, hs, hr, q, fun k H1 G1 m1 s1 r1 q1 => ?_⟩
  cases k with
  | true => exact ⟨G1, ro, m1, Qd, hs.same s1.g, r1, q1, fun b H' G' m' s' r' q' => w b H' G' m' (s1.trans s') r' q'⟩
  | false => exact w _ _ _ _ s1 r1 q1
theorem pdw_or (ha : PDT X a ua) (hb : PDW X (.BoolOp .Or (b :: rest) pos) ub) : PDW X (.BoolOp .Or (a :: b :: rest) pos) (dOr ua ub) := by
  refine pwM (pw_or ha hb) fun s H Q ⟨G, ro, m, Qd, hs, hr, q, w⟩ => ?_
  refine ⟨G, ro, m, _, hs, hr, q, fun k H1 G1 m1 s1 r1 q1 => ?_⟩
  cases k with
  | false => exact ⟨G1, ro, m1, Qd, hs.same s1.g, r1, q1, fun b H' G' m' s' r' q' => w b H' G' m' (s1.trans s') r' q'⟩
  | true => exact w _ _ _ _ s1 r1 q1
theorem pdt_not (ha : PDT X a ua) : PDT X (.UnaryOp .Not a pos) (dNot ua) := by
  refine ptM (pt_not ha) fun s H Q ⟨G, ro, m, Qd, hs, hr, q, w⟩ => ?_
  exact ⟨G, ro, m, _, hs, hr, q, fun k H1 G1 m1 s1 r1 q1 => w _ _ _ _ s1 r1 q1⟩
/-- a if t else b -/
def dIf (t : DB) (ta tb : DT) : DT := fun r m Q => t r m fun k m1 => if k = true then ta r m1 Q else tb r m1 Q
theorem pd_if (hc : PDT X c ua) (ha : PD X a ta) (hb : PD X b tb) : PD X (.IfExp c a b pos) (dIf ua ta tb) := by
  refine peM (pe_ifExp hc ha hb) fun s H Q ⟨G, ro, m, Qd, hs, hr, q, w⟩ => ?_
  refine ⟨G, ro, m, _, hs, hr, q, fun k H1 G1 m1 s1 r1 q1 => ?_⟩
  cases k with
  | true => exact ⟨G1, ro, m1, Qd, hs.same s1.g, r1, q1, w.after s1⟩
  | false => exact ⟨G1, ro, m1, Qd, hs.same s1.g, r1, q1, w.after s1⟩

/-! argument lists, displays -/
def dNil : DA := fun _ m Q => Q [] m
def dCons (ta : DT) (tr : DA) : DA := fun r m Q => ta r m fun x m1 => tr r m1 fun xs m2 => Q (x :: xs) m2
variable {tr : DA}
theorem pda_nil : PDA X [] dNil := paM pa_nil fun s H Q ⟨G, ro, m, Qd, hs, hr, q, w⟩ => w _ _ _ _ _ Stp.refl hr .nil q
theorem pda_cons (ha : PD X a ta) (hr : PDA X es tr) (hs : starEach (a :: es) X.env = (false, eval a X.env) :: starEach es X.env := by rfl) : PDA X (a :: es) (dCons ta tr) := by
  refine paM (pa_cons ha hr hs) fun s H Q ⟨G, ro, m, Qd, hs, hr, q, w⟩ => ?_
  refine ⟨G, ro, m, _, hs, hr, q, fun v H1 G1 m1 d s1 r1 h1 q1 => ?_⟩
  exact ⟨G1, ro, m1, _, hs.same s1.g, r1, q1, fun vs H2 G2 m2 ds s2 r2 h2 q2 => w _ _ _ _ _ (s1.trans s2) r2 (.cons (h1.same s2.g) h2) q2⟩
def dTup (t : DA) : DT := fun r m Q => t r m fun ds m1 => ds.length ≤ sizeLine ∧ Q (.tup ds) m1
def dLst (t : DA) : DT := fun r m Q => t r m fun ds m1 => ds.length ≤ sizeLine ∧ Q (.lst ds) m1
/-- a display whose list is to change -/
def dLstM (t : DA) : DT := fun r m Q => t r m fun ds m1 => ds.length ≤ sizeLine ∧ ∀ p, m1 p = none → Q (.ref p) (up m1 p (.lst ds))
theorem Rl.newTup {K : KF} {G H : Hp} {m : Mu} {Q : DK} {Qv : VK} {vs : List V} {ds : List D} (w : WV K G H m Q Qv) (r : Rl K G H m) (h : RpL K G ds vs) (z : ds.length ≤ sizeLine) (q : Q (.tup ds) m) : NewT H vs Qv := fun p o ho hp => by
  obtain ⟨r2, s2⟩ := r.new hp (.frz o (.tup vs))
  exact w _ _ _ _ _ s2 r2 (.tup ⟨o, ho, upd_same⟩ (h.same s2.g) z) q
theorem Rl.newLst {K : KF} {G H : Hp} {m : Mu} {Q : DK} {Qv : VK} {vs : List V} {ds : List D} (w : WV K G H m Q Qv) (r : Rl K G H m) (h : RpL K G ds vs) (z : ds.length ≤ sizeLine) (q : Q (.lst ds) m) : ∀ p, H p = none → Qv (.ref p) (upd H p (.lst vs)) := fun p hp => by
  obtain ⟨r2, s2⟩ := r.new hp (.lst vs)
  exact w _ _ _ _ _ s2 r2 (.lst upd_same (h.same s2.g) z) q
theorem Rl.newLstM {K : KF} {G H : Hp} {m : Mu} {Q : DK} {Qv : VK} {vs : List V} {ds : List D} (w : WV K G H m Q Qv) (r : Rl K G H m) (h : RpL K G ds vs) (z : ds.length ≤ sizeLine) (q : ∀ p, m p = none → Q (.ref p) (up m p (.lst ds))) : ∀ p, H p = none → Qv (.ref p) (upd H p (.lst vs)) := fun p hp => by
  obtain ⟨r2, s2⟩ := r.newM hp (o := .lst vs) (u := .lst ds) ⟨vs, rfl, h, z⟩
  exact w _ _ _ _ _ s2 r2 (.ref p) (q p (r.free hp).2)
theorem pd_tup {x1} (h : PDA X es tr) : PD X (.Tuple es x1 pos) (dTup tr) := by
  refine peM (pe_tupF h) fun s H Q ⟨G, ro, m, Qd, hs, hr, q, w⟩ => ?_
  exact ⟨G, ro, m, _, hs, hr, q, fun vs H1 G1 m1 ds s1 r1 h1 ⟨z, q1⟩ => ⟨by rw [← h1.len]; exact z, Rl.newTup (w.after s1) r1 h1 z q1⟩⟩
theorem pd_lst (h : PDA X es tr) : PD X (.List es pos) (dLst tr) := by
  refine peM (pe_lst h) fun s H Q ⟨G, ro, m, Qd, hs, hr, q, w⟩ => ?_
  exact ⟨G, ro, m, _, hs, hr, q, fun vs H1 G1 m1 ds s1 r1 h1 ⟨z, q1⟩ => ⟨by rw [← h1.len]; exact z, Rl.newLst (w.after s1) r1 h1 z q1⟩⟩
theorem pd_lstM (h : PDA X es tr) : PD X (.List es pos) (dLstM tr) := by
  refine peM (pe_lst h) fun s H Q ⟨G, ro, m, Qd, hs, hr, q, w⟩ => ?_
  exact ⟨G, ro, m, _, hs, hr, q, fun vs H1 G1 m1 ds s1 r1 h1 ⟨z, q1⟩ => ⟨by rw [← h1.len]; exact z, Rl.newLstM (w.after s1) r1 h1 z q1⟩⟩

/-! calls of what is built in -/
abbrev DRL := List D → Mu → DK → Prop
def CL (K : KF) (r : List V → Hp → VK → Prop) (dr : DRL) : Prop := ∀ (G H : Hp) (m : Mu) (vs : List V) (ds : List D) (Q : DK) (Qv : VK), Rl K G H m → RpL K G ds vs → dr ds m Q → WV K G H m Q Qv → r vs H Qv
def dCB (dr : DRL) (t : DA) : DT := fun r m Q => t r m fun ds m1 => dr ds m1 Q
theorem lfCB {r : List V → Hp → VK → Prop} {dr : DRL} (hc : CL X.kf r dr) {s : L2.St} {H : Hp} {Q : VK} (h : lf X.kf (dCB dr tr) s H Q) : tCB r (lfA X.kf tr) s H Q := by
  obtain ⟨G, ro, m, Qd, hs, hr, q, w⟩ := h
  exact ⟨G, ro, m, _, hs, hr, q, fun vs H1 G1 m1 ds s1 r1 h1 q1 => hc G1 H1 m1 vs ds Qd Q r1 h1 q1 (w.after s1)⟩
theorem pd_callB {x : Str} {id : String} {r : List V → Hp → VK → Prop} {dr : DRL} {p : Pos} (hcr : CallR X (.builtin id) r) (hc : CL X.kf r dr) (hg : Gl X x) (hm : X.mg x = none) (hv : bootBuiltins x = some (.builtin id)) (ha : PDA X (a :: es) tr) (hn : x ≠ "__name__" := by decide) (hdb : (x == ("__debug__" : Str)) = false := by decide)
    (he : starEach (a :: es) X.env = (false, eval a X.env) :: starEach es X.env := by rfl) (hpl : (backTo pos (starEach es X.env)).any (·.1) = false := by rfl) : PD X (.Call (.Name x p) (a :: es) [] pos) (dCB dr tr) :=
  peM (pe_callB hcr hg hm hv ha hn hdb he hpl) fun _ _ _ h => lfCB hc h
theorem pd_callTy {x : Str} {T : String} {r : List V → Hp → VK → Prop} {dr : DRL} {p : Pos} (hcr : CallR X (.type T) r) (hc : CL X.kf r dr) (hg : Gl X x) (hm : X.mg x = none) (hv : bootBuiltins x = some (.type T)) (ha : PDA X (a :: es) tr) (hn : x ≠ "__name__" := by decide) (hdb : (x == ("__debug__" : Str)) = false := by decide)
    (he : starEach (a :: es) X.env = (false, eval a X.env) :: starEach es X.env := by rfl) (hpl : (backTo pos (starEach es X.env)).any (·.1) = false := by rfl) : PD X (.Call (.Name x p) (a :: es) [] pos) (dCB dr tr) :=
  peM (pe_callTy hcr hg hm hv ha hn hdb he hpl) fun _ _ _ h => lfCB hc h
theorem callR_or {f : Value} {r r' : List V → Hp → VK → Prop} (h : CallR X f r) (h' : CallR X f r') : CallR X f (fun xs H Q => r xs H Q ∨ r' xs H Q) := by
  intro pins s σ H xs us Q I rv q
  rcases q with q | q
  · exact h pins s σ H xs us Q I rv q
  · exact h' pins s σ H xs us Q I rv q
end

/-! what a value is as a sequence -/
def seqOf (d : D) (m : Mu) : Option (List D) :=
  match d with
  | .lst ds => some ds
  | .tup ds => some ds
  | .pair ds => some ds
  | .scr ds => some ds
  | .ref a => match m a with
    | some (.lst ds) => some ds
    | _ => none
  | _ => none
def lstOf (d : D) (m : Mu) : Option (List D) :=
  match d with
  | .lst ds => some ds
  | .scr ds => some ds
  | .ref a => match m a with
    | some (.lst ds) => some ds
    | _ => none
  | _ => none
section
variable {K : KF} {G H : Hp} {m : Mu}
theorem lst_is {d : D} {v : V} {ds : List D} (r : Rl K G H m) (h : Rp K G d v) (e : lstOf d m = some ds) : ∃ a vs, v = .ref a ∧ SqL K H a vs ∧ RpL K G ds vs ∧ ds.length ≤ sizeLine := by
  cases h with
  | lst hq hr z => cases e; exact ⟨_, _, rfl, .inl (.inl (r.sub _ _ hq)), hr, z⟩
  | scr hq hr z => cases e; exact ⟨_, _, rfl, r.sub.seq hq, hr, z⟩
  | ref a =>
    simp only [lstOf] at e
    cases em : m a with
    | none => rw [em] at e; cases e
    | some o =>
      rw [em] at e
      cases o with
      | dN kvs => cases e
      | dE => cases e
      | dI k d => cases e
      | ins c dx fs => cases e
      | own y => cases e
      | xd fs => cases e
      | lst es =>
        cases e
        obtain ⟨_, u, hu, vs, e1, rv, z⟩ := r.mu a _ em
        subst e1
        exact ⟨a, vs, rfl, .inl (.inl hu), rv, z⟩
  | non => cases e
  | bl b => cases e
  | int i => cases e
  | str x => cases e
  | tup hq hr z => cases e
  | pair hq hr z => cases e
  | dct => cases e
theorem seq_is {d : D} {v : V} {ds : List D} (r : Rl K G H m) (h : Rp K G d v) (e : seqOf d m = some ds) : ∃ a vs, v = .ref a ∧ (SqL K H a vs ∨ SqT K H a vs) ∧ RpL K G ds vs ∧ ds.length ≤ sizeLine := by
  cases h with
  | tup hq hr z => cases e; exact ⟨_, _, rfl, .inr (hq.sq r.sub _), hr, z⟩
  | pair hq hr z => cases e; exact ⟨_, _, rfl, .inr (.inl (.inl (r.sub _ _ hq))), hr, z⟩
  | lst hq hr z => cases e; exact ⟨_, _, rfl, .inl (.inl (.inl (r.sub _ _ hq))), hr, z⟩
  | scr hq hr z => cases e; exact ⟨_, _, rfl, .inl (r.sub.seq hq), hr, z⟩
  | ref a =>
    obtain ⟨b, vs, e1, h1, h2, h3⟩ := lst_is r (Rp.ref a) (show lstOf (.ref a) m = some ds from e)
    exact ⟨b, vs, e1, .inl h1, h2, h3⟩
  | non => cases e
  | bl b => cases e
  | int i => cases e
  | str x => cases e
  | dct => cases e
end
end Mn

set_option Elab.async false
set_option linter.all false
set_option maxRecDepth 100000
set_option maxHeartbeats 4000000
set_option autoImplicit false
namespace Mn
open PySem PySem.Spec PyProof.Rows L2
variable [Tbs]

/-! data as the library's -/
mutual
def py : D → PyData
  | .non => .none
  | .bl b => .bool b
  | .int i => .int i
  | .str x => .str x
  | .tup ds => .tuple (pyL ds)
  | .pair ds => .tuple (pyL ds)
  | .lst ds => .list (pyL ds)
  | .scr ds => .list (pyL ds)
  | .ref _ => .none
  | .dct _ _ => .none
def pyL : List D → List PyData
  | [] => []
  | d :: ds => py d :: pyL ds
end
mutual
def pur : D → Bool
  | .non => true
  | .bl _ => true
  | .int _ => true
  | .str _ => true
  | .tup ds => purL ds
  | .pair ds => purL ds
  | .lst ds => purL ds
  | .scr ds => purL ds
  | .ref _ => false
  | .dct _ _ => false
def purL : List D → Bool
  | [] => true
  | d :: ds => pur d && purL ds
end
theorem pyL_map : ∀ ds : List D, pyL ds = ds.map py
  | [] => rfl
  | d :: ds => by rw [pyL, pyL_map ds]; rfl
section
variable {K : KF} {G H : Hp} {m : Mu}
mutual
theorem Rp.dp (r : Same G H) : ∀ {d : D} {v : V}, Rp K G d v → pur d = true → Dp K H v (py d)
  | _, _, .non, _ => by rw [py]; exact .non
  | _, _, .bl b, _ => by rw [py]; exact .bl b
  | _, _, .int i, _ => by rw [py]; exact .int i
  | _, _, .str x, _ => by rw [py]; exact .str x
  | _, _, .tup h q z, p => by rw [py]; rw [pur] at p; exact .tup (h.sq r _) (RpL.dp r q p)
  | _, _, .pair h q z, p => by rw [py]; rw [pur] at p; exact .tup (.inl (.inl (r _ _ h))) (RpL.dp r q p)
  | _, _, .lst h q z, p => by rw [py]; rw [pur] at p; exact .lst (.inl (.inl (r _ _ h))) (RpL.dp r q p)
  | _, _, .scr h q z, p => by rw [py]; rw [pur] at p; exact .lst (r.seq h) (RpL.dp r q p)
  | _, _, .ref a, p => by rw [pur] at p; cases p
  | _, _, .dct _ _ _ _ _ _ _ _, p => by rw [pur] at p; cases p
theorem RpL.dp (r : Same G H) : ∀ {ds : List D} {vs : List V}, RpL K G ds vs → purL ds = true → DpAll K H vs (pyL ds)
  | _, _, .nil, _ => by rw [pyL]; exact .nil
  | _, _, .cons h q, p => by
    rw [purL, Bool.and_eq_true] at p
    rw [pyL]
    exact .cons (Rp.dp r h p.1) (RpL.dp r q p.2)
end
end
/-- a mutable list is looked through -/
def pyM (d : D) (m : Mu) : PyData := match d with
  | .ref a => match m a with
    | some (.lst ds) => .list (pyL ds)
    | _ => .none
  | d => py d
def purM (d : D) (m : Mu) : Bool := match d with
  | .ref a => match m a with
    | some (.lst ds) => purL ds
    | _ => false
  | d => pur d
theorem Rp.dpM {K : KF} {G H : Hp} {m : Mu} (r : Rl K G H m) {d : D} {v : V} (h : Rp K G d v) (p : purM d m = true) : Dp K H v (pyM d m) := by
  cases d with
  | ref a =>
    cases h
    simp only [purM, pyM] at p ⊢
    cases e : m a with
    | none => rw [e] at p; cases p
    | some o =>
      rw [e] at p
      cases o with
      | dN kvs => cases p
      | dE => cases p
      | dI k d => cases p
      | ins c dx fs => cases p
      | own y => cases p
      | xd fs => cases p
      | lst ds =>
        obtain ⟨_, u, hu, vs, e1, rv, z⟩ := r.mu a _ e
        subst e1
        exact .lst (.inl (.inl hu)) (rv.dp r.sub p)
  | non => exact h.dp r.sub p
  | bl b => exact h.dp r.sub p
  | int i => exact h.dp r.sub p
  | str x => exact h.dp r.sub p
  | tup ds => exact h.dp r.sub p
  | pair ds => exact h.dp r.sub p
  | lst ds => exact h.dp r.sub p
  | scr ds => exact h.dp r.sub p
  | dct ks ds => exact h.dp r.sub p

/-! operators -/
/-- a list that is one of the heap's own -/
def lst1 (d : D) (m : Mu) : Option (List D) :=
  match d with
  | .lst ds => some ds
  | .ref a => match m a with
    | some (.lst ds) => some ds
    | _ => none
  | _ => none
theorem lst1_is {K : KF} {G H : Hp} {m : Mu} {d : D} {v : V} {ds : List D} (r : Rl K G H m) (h : Rp K G d v) (e : lst1 d m = some ds) : ∃ a vs, v = .ref a ∧ H a = some (.lst vs) ∧ RpL K G ds vs ∧ ds.length ≤ sizeLine := by
  cases h with
  | lst hq hr z => cases e; exact ⟨_, _, rfl, r.sub _ _ hq, hr, z⟩
  | ref a =>
    simp only [lst1] at e
    cases em : m a with
    | none => rw [em] at e; cases e
    | some o =>
      rw [em] at e
      cases o with
      | dN kvs => cases e
      | dE => cases e
      | dI k d => cases e
      | ins c dx fs => cases e
      | own y => cases e
      | xd fs => cases e
      | lst es =>
        cases e
        obtain ⟨_, u, hu, vs, e1, rv, z⟩ := r.mu a _ em
        subst e1
        exact ⟨a, vs, rfl, hu, rv, z⟩
  | non => cases e
  | bl b => cases e
  | int i => cases e
  | str x => cases e
  | tup hq hr z => cases e
  | pair hq hr z => cases e
  | dct => cases e
  | scr hq hr z => cases e
def aAdd : DR2 := fun x y m Q => match x, y with
  | .int i, .int j => Q (.int (i + j)) m
  | .str a, .str b => a.length + b.length ≤ sizeLine ∧ Q (.str (a ++ b)) m
  | .tup a, .tup b => a.length + b.length ≤ sizeLine ∧ Q (.tup (a ++ b)) m
  | x, y => ∃ a b, lst1 x m = some a ∧ lst1 y m = some b ∧ a.length + b.length ≤ sizeLine ∧ Q (.lst (a ++ b)) m
def aSub : DR2 := fun x y m Q => match x, y with
  | .int i, .int j => Q (.int (i - j)) m
  | _, _ => False
def aDiv : DR2 := fun x y m Q => match x, y with
  | .int i, .int j => CDiv i j ∧ Q (.int (i / j)) m
  | _, _ => False
def aMod : DR2 := fun x y m Q => match x, y with
  | .int i, .int j => 0 < j ∧ Q (.int (i % j)) m
  | _, _ => False
def aPow : DR2 := fun x y m Q => match x, y with
  | .int i, .int j => CPow i j ∧ Q (.int (i ^ j.toNat)) m
  | _, _ => False
def okD (d : D) (m : Mu) : Prop := purM d m = true ∧ SeqAt.shaped (pyM d m) = true
def aEq : DR2 := fun x y m Q => match x, y with
  | .str a, .str b => Q (.bl (decide (a = b))) m
  | x, y => okD x m ∧ okD y m ∧ Q (.bl (PyData.eqv (pyM x m) (pyM y m))) m
def aNe : DR2 := fun x y m Q => match x, y with
  | .str a, .str b => Q (.bl (!decide (a = b))) m
  | x, y => okD x m ∧ okD y m ∧ Q (.bl (!PyData.eqv (pyM x m) (pyM y m))) m
def aCmp (p : Int → Int → Bool) : DR2 := fun x y m Q => match x, y with
  | .int i, .int j => Q (.bl (p i j)) m
  | _, _ => False
abbrev aLt := aCmp fun i j => decide (i < j)
abbrev aLe := aCmp fun i j => decide (i ≤ j)
abbrev aGt := aCmp fun i j => decide (j < i)
abbrev aGe := aCmp fun i j => decide (j ≤ i)
section
variable {X : Cx} {K : KF}
/-- two ints under a condition -/
theorem c2I {C : Int → Int → Prop} {g : Int → Int → V} {gd : Int → Int → D} {dr : DR2} (hd : ∀ x y m Q, dr x y m Q → ∃ i j, x = .int i ∧ y = .int j ∧ C i j ∧ Q (gd i j) m) (hg : ∀ G i j, Rp K G (gd i j) (g i j)) : C2 K (rI C g) dr := by
  intro G H m x y dx dy Q Qv r rx ry q w
  obtain ⟨i, j, rfl, rfl, hc, q2⟩ := hd _ _ _ _ q
  cases rx
  cases ry
  exact ⟨i, j, rfl, rfl, hc, w.now r (hg G i j) q2⟩
theorem c2I0 {g : Int → Int → V} {gd : Int → Int → D} {dr : DR2} (hd : ∀ x y m Q, dr x y m Q → ∃ i j, x = .int i ∧ y = .int j ∧ Q (gd i j) m) (hg : ∀ G i j, Rp K G (gd i j) (g i j)) : C2 K (rI0 g) dr := by
  intro G H m x y dx dy Q Qv r rx ry q w
  obtain ⟨i, j, rfl, rfl, q2⟩ := hd _ _ _ _ q
  cases rx
  cases ry
  exact ⟨i, j, rfl, rfl, w.now r (hg G i j) q2⟩
theorem c2_sub : C2 K (rI0 fun i j => .int (i - j)) aSub := c2I0 (gd := fun i j => .int (i - j)) (fun x y m Q h => by cases x <;> cases y <;> first | exact ⟨_, _, rfl, rfl, h⟩ | exact False.elim h) fun _ _ _ => .int _
theorem c2_div : C2 K (rI CDiv fun i j => .int (i / j)) aDiv := c2I (gd := fun i j => .int (i / j)) (fun x y m Q h => by cases x <;> cases y <;> first | exact ⟨_, _, rfl, rfl, h.1, h.2⟩ | exact False.elim h) fun _ _ _ => .int _
theorem c2_mod : C2 K (rI (fun _ j => 0 < j) fun i j => .int (i % j)) aMod := c2I (gd := fun i j => .int (i % j)) (fun x y m Q h => by cases x <;> cases y <;> first | exact ⟨_, _, rfl, rfl, h.1, h.2⟩ | exact False.elim h) fun _ _ _ => .int _
theorem c2_pow : C2 K (rI CPow fun i j => .int (i ^ j.toNat)) aPow := c2I (gd := fun i j => .int (i ^ j.toNat)) (fun x y m Q h => by cases x <;> cases y <;> first | exact ⟨_, _, rfl, rfl, h.1, h.2⟩ | exact False.elim h) fun _ _ _ => .int _
theorem c2_cmp (p : Int → Int → Bool) : C2 K (rI0 fun i j => .bl (p i j)) (aCmp p) := c2I0 (gd := fun i j => .bl (p i j)) (fun x y m Q h => by cases x <;> cases y <;> first | exact ⟨_, _, rfl, rfl, h⟩ | exact False.elim h) fun _ _ _ => .bl _
def rAddA (K : KF) : R2 := fun x y H Q => rI0 (fun i j => .int (i + j)) x y H Q ∨ (∃ i j, x = .str i ∧ y = .str j ∧ i.length + j.length ≤ sizeLine ∧ Q (.str (i ++ j)) H) ∨ rCatF K x y H Q ∨ rCat x y H Q
theorem op_addA : OpR X (binaryOp .Add) (rAddA X.kf) := op_add.or (op_add_str.or (op_catF.or op_cat))
theorem rp_len {G : Hp} {ds : List D} {vs : List V} (h : RpL K G ds vs) : vs = [] ↔ ds = [] := by
  cases h with
  | nil => simp
  | cons a b => simp
theorem add_lsts {G H : Hp} {m : Mu} {x y : V} {dx dy : D} {Q : DK} {Qv : VK} (r : Rl K G H m) (rx : Rp K G dx x) (ry : Rp K G dy y) (q : ∃ a b, lst1 dx m = some a ∧ lst1 dy m = some b ∧ a.length + b.length ≤ sizeLine ∧ Q (.lst (a ++ b)) m) (w : WV K G H m Q Qv) : rCat x y H Qv := by
  obtain ⟨a, b, ea, eb, z, q⟩ := q
  obtain ⟨p1, v1, e1, h1, r1, z1⟩ := lst1_is r rx ea
  obtain ⟨p2, v2, e2, h2, r2, z2⟩ := lst1_is r ry eb
  exact ⟨p1, p2, v1, v2, e1, e2, h1, h2, by rw [← r1.len, ← r2.len]; exact z, Rl.newLst w r (r1.app r2) (by rw [List.length_append]; exact z) q⟩
theorem c2_add : C2 K (rAddA K) aAdd := by
  intro G H m x y dx dy Q Qv r rx ry q w
  have gen : (∃ a b, lst1 dx m = some a ∧ lst1 dy m = some b ∧ a.length + b.length ≤ sizeLine ∧ Q (.lst (a ++ b)) m) → rAddA K x y H Qv := fun h => .inr (.inr (.inr (add_lsts r rx ry h w)))
  cases rx with
  | int i =>
    cases ry with
    | int j => exact .inl ⟨i, j, rfl, rfl, w.now r (.int _) q⟩
    | _ => exact gen q
  | str i =>
    cases ry with
    | str j => exact .inr (.inl ⟨i, j, rfl, rfl, q.1, w.now r (.str _) q.2⟩)
    | _ => exact gen q
  | tup h1 r1 z1 =>
    cases ry with
    | tup h2 r2 z2 =>
      refine .inr (.inr (.inl ⟨_, _, _, _, rfl, rfl, h1.sq r.sub _, h2.sq r.sub _, by rw [← r1.len, ← r2.len]; exact q.1, fun e => ?_, fun _ e => ?_, fun _ _ => Rl.newTup w r (r1.app r2) (by rw [List.length_append]; exact q.1) q.2⟩))
      · have e' := (rp_len r1).mp e
        have q2 := q.2
        rw [e', List.nil_append] at q2
        exact w.now r (.tup h2 r2 z2) q2
      · have e' := (rp_len r2).mp e
        have q2 := q.2
        rw [e', List.append_nil] at q2
        exact w.now r (.tup h1 r1 z1) q2
    | _ => exact gen q
  | _ => exact gen q
def rEqA (K : KF) : R2 := fun x y H Q => rEq x y H Q ∨ rEqD K x y H Q
def rNeA (K : KF) : R2 := fun x y H Q => rNe x y H Q ∨ rNeD K x y H Q
theorem op_eqA (hu : X.A.units + 64 < cLine) : OpR X (compareOp .Eq) (rEqA X.kf) := op_eq.or (op_eqD hu)
theorem op_neA (hu : X.A.units + 64 < cLine) : OpR X (compareOp .NotEq) (rNeA X.kf) := op_ne.or (op_neD hu)
theorem decV (a b : Str) : decide (V.str a = V.str b) = decide (a = b) := by
  by_cases h : a = b
  · subst h; simp
  · rw [decide_eq_false h, decide_eq_false fun e => h (V.str.inj e)]
theorem c2_eq : C2 K (rEqA K) aEq := by
  intro G H m x y dx dy Q Qv r rx ry q w
  have gen : (okD dx m ∧ okD dy m ∧ Q (.bl (PyData.eqv (pyM dx m) (pyM dy m))) m) → rEqA K x y H Qv := fun ⟨o1, o2, q⟩ => .inr ⟨_, _, rx.dpM r o1.1, ry.dpM r o2.1, o1.2, o2.2, w.now r (.bl _) q⟩
  cases dx with
  | str a =>
    cases dy with
    | str b =>
      cases rx; cases ry
      refine .inl ⟨rfl, ?_⟩
      rw [decV]
      exact w.now r (.bl _) q
    | _ => exact gen q
  | _ => exact gen q
theorem c2_ne : C2 K (rNeA K) aNe := by
  intro G H m x y dx dy Q Qv r rx ry q w
  have gen : (okD dx m ∧ okD dy m ∧ Q (.bl (!PyData.eqv (pyM dx m) (pyM dy m))) m) → rNeA K x y H Qv := fun ⟨o1, o2, q⟩ => .inr ⟨_, _, rx.dpM r o1.1, ry.dpM r o2.1, o1.2, o2.2, w.now r (.bl _) q⟩
  cases dx with
  | str a =>
    cases dy with
    | str b =>
      cases rx; cases ry
      refine .inl ⟨rfl, ?_⟩
      rw [decV]
      exact w.now r (.bl _) q
    | _ => exact gen q
  | _ => exact gen q
end

/-! isinstance -/
def tyN (d : D) (m : Mu) : Option String := match d with
  | .non => some "NoneType"
  | .bl _ => some "bool"
  | .int _ => some "int"
  | .str _ => some "str"
  | .tup _ => some "tuple"
  | .pair _ => none
  | .lst _ => some "list"
  | .scr _ => some "list"
  | .ref a => match m a with
    | some (.lst _) => some "list"
    | some .dE => some "dict"
    | some (.dI _ _) => some "dict"
    | some (.dN _) => some "dict"
    | some (.ins _ _ _) => some "object"
    | _ => none
  | .dct _ _ => some "dict"
def isiB (t T : String) : Bool := t == T || (t == "bool" && T == "int")
def tyNs : List String := ["NoneType", "bool", "int", "str", "tuple", "list", "dict"]
theorem kit_all : (tyNs.all fun t => ["bool", "int", "str", "tuple", "list", "dict"].all fun T => decide (kitB t T = some (isiB t T))) = true := by decide +kernel
theorem kit_is {t T : String} (ht : t ∈ tyNs) (hT : T ∈ ["bool", "int", "str", "tuple", "list", "dict"]) : kitB t T = some (isiB t T) := by
  have h := kit_all
  rw [List.all_eq_true] at h
  have h2 := h t ht
  rw [List.all_eq_true] at h2
  exact of_decide_eq_true (h2 T hT)
def isTs : List String := ["bool", "int", "str", "tuple", "list", "dict"]
/-- a thing whose object is known: a dict -/
theorem kit_ext {X : Cx} {pins : List (Addr × Obj)} {σ : L2.St} {H : Hp} {s : Shared} {a : Addr} {xs : List (NestedKey × Addr × V)} (I : Inv X pins σ H s) (e : H a = some (.ext (dictAt X.w a xs)) ∨ ∃ o, H a = some (.frz o (.ext (dictAt X.w a xs)))) : ∃ P : Heap → Prop, PySem.W.KitX X.K (.ref a) (.type "dict") P ∧ P s.heap ∧ Value.ref a ≠ .builtin "__main__.__loader__#opaque" := by
  obtain ⟨vs, r, o, es, ep, ho, hx, hd, he⟩ : dictAt X.w a xs s.heap := by
    rcases e with e | ⟨o, e⟩
    · exact (I.hok a _ e).1
    · exact (I.hok a _ e).2.1
  exact ⟨_, PySem.W.kitx_dict, ⟨o, ho, hx.1⟩, fun z => nomatch z⟩
inductive TyD (K : KF) (H : Hp) : V → Value → Prop
  | x {v : V} {c : Value} : TyX K H v c → TyD K H v c
  | d {a : Addr} {xs : List (NestedKey × Addr × V)} : (H a = some (.ext (dictAt K.wd a xs)) ∨ ∃ o, H a = some (.frz o (.ext (dictAt K.wd a xs)))) → TyD K H (.ref a) (.type "dict")
theorem ty_is {K : KF} {G H : Hp} {m : Mu} {d : D} {v : V} {t : String} (r : Rl K G H m) (h : Rp K G d v) (e : tyN d m = some t) : ∃ c, TyD K H v c ∧ ∀ T ∈ isTs, PySem.W.kitOne K c (.type T) = some (isiB t T) := by
  have go : ∀ t ∈ tyNs, ∀ T ∈ isTs, PySem.W.kitOne K (.type t) (.type T) = some (isiB t T) := fun t ht T hT => kit_ty (kit_is ht hT)
  cases h with
  | non => cases e; exact ⟨_, .x (.base .non), go _ (by decide)⟩
  | bl b => cases e; exact ⟨_, .x (.base (.bl b)), go _ (by decide)⟩
  | int i => cases e; exact ⟨_, .x (.base (.int i)), go _ (by decide)⟩
  | str x => cases e; exact ⟨_, .x (.base (.str x)), go _ (by decide)⟩
  | tup hq hr z => cases e; obtain ⟨o, _, hq⟩ := hq; exact ⟨_, .x (.fTuple (r.sub _ _ hq)), go _ (by decide)⟩
  | pair hq hr z => cases e
  | dct h1 => cases e; exact ⟨_, .d (.inr ⟨_, r.sub _ _ h1⟩), go _ (by decide)⟩
  | lst hq hr z => cases e; exact ⟨_, .x (.base (.lst (r.sub _ _ hq))), go _ (by decide)⟩
  | scr hq hr z =>
    cases e
    rcases r.sub.seq hq with (h | ⟨o, h⟩) | ⟨o, its, n, h1, h2, _⟩
    · exact ⟨_, .x (.base (.lst h)), go _ (by decide)⟩
    · exact ⟨_, .x (.base (.frz h)), go _ (by decide)⟩
    · exact ⟨_, .x (.kList h1 h2), go _ (by decide)⟩
  | ref a =>
    simp only [tyN] at e
    cases em : m a with
    | none => rw [em] at e; cases e
    | some o =>
      rw [em] at e
      obtain ⟨_, u, hu, ru⟩ := r.mu a _ em
      cases o with
      | lst es =>
        cases e
        obtain ⟨vs, e1, _⟩ := ru
        subst e1
        exact ⟨_, .x (.base (.lst hu)), go _ (by decide)⟩
      | dN kvs =>
        cases e
        obtain ⟨xs, e1, _⟩ := ru
        subst e1
        exact ⟨_, .d (.inl hu), go _ (by decide)⟩
      | dE =>
        cases e
        have e1 : u = .dT [] := ru
        subst e1
        exact ⟨_, .x (.base (.dT hu)), go _ (by decide)⟩
      | dI k d =>
        cases e
        obtain ⟨v, e1, _⟩ := ru
        subst e1
        exact ⟨_, .x (.base (.dK hu)), go _ (by decide)⟩
      | ins c dx fs =>
        cases e
        obtain ⟨C, vs, _, ic, e1, _⟩ := ru
        subst e1
        refine ⟨_, .x (.base (.ins hu ic.cl ic.ha ic.hn ic.htk ic.hm)), fun T hT => ?_⟩
        rw [ic.no T hT]
        have : ∀ T ∈ isTs, isiB "object" T = false := by decide
        rw [this T hT]
      | own y => cases e
      | xd fs => cases e
def rIsiD (K : KF) : List V → Hp → VK → Prop := fun xs H Q => ∃ (x c : V) (t u : Value) (b : Bool), xs = [x, c] ∧ ClsV c u ∧ TyD K H x t ∧ PySem.W.kitOne K t u = some b ∧ Q (.bl b) H
theorem call_isiD {X : Cx} : CallR X (.builtin "isinstance") (rIsiD X.kf) := by
  intro pins s σ H xs us Q I r h
  obtain ⟨x, c, t, u, b, rfl, k, ty, e, q⟩ := h
  cases ty with
  | x ty => exact call_isi pins s σ H _ us Q I r ⟨x, c, t, u, b, rfl, k, ty, e, q⟩
  | d hq =>
    obtain ⟨u1, u2, rfl, r1, r2⟩ := vals2 r
    have e2 := k.eq r2
    subst e2
    cases (show u1 = Value.ref _ from r1)
    obtain ⟨P, Z, p, hx⟩ := kit_ext I hq
    exact PySem.W.kia_one Z I.kIn p e hx fun tk => ⟨.bl b, H, I.tok tk, rfl, q⟩
def dIsi (T : String) (ta : DT) : DT := fun r m Q => ta r m fun d m1 => ∃ t, tyN d m1 = some t ∧ Q (.bl (isiB t T)) m1
section
variable {X : Cx} {a b : Expr} {ta tb : DT} {pos p p2 : Pos}
theorem pd_isi {x : Str} {T : String} (ha : PD X a ta) (hg : Gl X "isinstance") (hm : X.mg "isinstance" = none) (hg2 : Gl X x) (hm2 : X.mg x = none) (hv2 : bootBuiltins x = some (.type T)) (hT : T ∈ ["bool", "int", "str", "tuple", "list", "dict"])
    (hs : starEach [a, .Name x p2] X.env = (false, eval a X.env) :: starEach [.Name x p2] X.env := by rfl) (hn : x ≠ "__name__" := by decide) (hdb : (x == ("__debug__" : Str)) = false := by decide) :
    PD X (.Call (.Name "isinstance" p) [a, .Name x p2] [] pos) (dIsi T ta) := by
  refine peM (pe_callB call_isiD hg hm (by decide +kernel) (pa_cons ha (pa_cons (pe_bltn (v := .ty T) hg2 hm2 hv2 rfl hn hdb) pa_nil) hs) (by decide) (by decide) hs) fun s H Q ⟨G, ro, m, Qd, hs, hr, q, w⟩ => ?_
  refine ⟨G, ro, m, _, hs, hr, q, fun v H1 G1 m1 d s1 r1 h1 ⟨t, e, q1⟩ => ?_⟩
  obtain ⟨c, h2, h3⟩ := ty_is r1 h1 e
  exact ⟨v, .ty T, c, .type T, isiB t T, rfl, .ty T, h2, h3 T hT, w _ _ _ _ _ s1 r1 (.bl _) q1⟩

/-! items, slices -/
def at_ (ds : List D) (i : Int) : Option D := if 0 ≤ i then ds[i.toNat]? else if -(ds.length : Int) ≤ i then ds[(i + ds.length).toNat]? else none
theorem at_V {K : KF} {G : Hp} {ds : List D} {vs : List V} {i : Int} {d : D} (h : RpL K G ds vs) (e : at_ ds i = some d) : ∃ v, atI vs i = some v ∧ Rp K G d v := by
  have hl := h.len
  unfold at_ at e
  by_cases h0 : 0 ≤ i
  · rw [if_pos h0] at e
    obtain ⟨v, ev, rv⟩ := h.get e
    refine ⟨v, ?_, rv⟩
    have : atI vs ((i.toNat : Nat) : Int) = some v := atI_nat ev
    rwa [Int.toNat_of_nonneg h0] at this
  · rw [if_neg h0] at e
    by_cases h1 : -(ds.length : Int) ≤ i
    · rw [if_pos h1] at e
      obtain ⟨v, ev, rv⟩ := h.get e
      refine ⟨v, ?_, rv⟩
      unfold atI ixN
      rw [if_neg h0, if_pos (by omega), ← hl]
      exact ev
    · rw [if_neg h1] at e; cases e
end
end Mn

set_option Elab.async false
set_option linter.all false
set_option maxRecDepth 100000
set_option maxHeartbeats 4000000
set_option autoImplicit false
namespace Mn
open PySem PySem.Spec PyProof.Rows L2
variable [Tbs]
section
variable {X : Cx} {K : KF}
/-! len -/
def aLen : DRL := fun ds m Q => match ds with
  | [.str x] => x.length ≤ sizeLine ∧ Q (.int x.length) m
  | [d] => ∃ es, seqOf d m = some es ∧ Q (.int es.length) m
  | _ => False
theorem callR_len : CallR X (.builtin "len") (fun xs H Q => (∃ p ys, xs = [.ref p] ∧ (SqL X.kf H p ys ∨ SqT X.kf H p ys) ∧ Q (.int ys.length) H) ∨ ∃ z, xs = [.str z] ∧ z.length ≤ sizeLine ∧ Q (.int z.length) H) := callR_or call_len_seq call_len_str
theorem RpL.one {G : Hp} {d : D} {vs : List V} (h : RpL K G [d] vs) : ∃ v, vs = [v] ∧ Rp K G d v := by
  cases h with
  | cons a b => cases b; exact ⟨_, rfl, a⟩
theorem RpL.two {G : Hp} {d e : D} {vs : List V} (h : RpL K G [d, e] vs) : ∃ v u, vs = [v, u] ∧ Rp K G d v ∧ Rp K G e u := by
  cases h with
  | cons a b => obtain ⟨u, e, r⟩ := b.one; subst e; exact ⟨_, _, rfl, a, r⟩
theorem cl_len : CL K (fun xs H Q => (∃ p ys, xs = [.ref p] ∧ (SqL K H p ys ∨ SqT K H p ys) ∧ Q (.int ys.length) H) ∨ ∃ z, xs = [.str z] ∧ z.length ≤ sizeLine ∧ Q (.int z.length) H) aLen := by
  intro G H m vs ds Q Qv r h q w
  match ds, h, q with
  | [.str x], h, q =>
    obtain ⟨v, e, rv⟩ := h.one
    subst e
    cases rv
    exact .inr ⟨x, rfl, q.1, w.now r (.int _) q.2⟩
  | [.non], h, ⟨es, e, q⟩ => cases e
  | [.bl b], h, ⟨es, e, q⟩ => cases e
  | [.int i], h, ⟨es, e, q⟩ => cases e
  | [.dct ks es0], h, ⟨es, e, q⟩ => cases e
  | [.tup t], h, ⟨es, e, q⟩ =>
    obtain ⟨v, e1, rv⟩ := h.one
    obtain ⟨p, us, e2, hq, hr, z⟩ := seq_is r rv e
    subst e1; subst e2
    exact .inl ⟨p, us, rfl, hq, by rw [← hr.len]; exact w.now r (.int _) q⟩
  | [.lst t], h, ⟨es, e, q⟩ =>
    obtain ⟨v, e1, rv⟩ := h.one
    obtain ⟨p, us, e2, hq, hr, z⟩ := seq_is r rv e
    subst e1; subst e2
    exact .inl ⟨p, us, rfl, hq, by rw [← hr.len]; exact w.now r (.int _) q⟩
  | [.scr t], h, ⟨es, e, q⟩ =>
    obtain ⟨v, e1, rv⟩ := h.one
    obtain ⟨p, us, e2, hq, hr, z⟩ := seq_is r rv e
    subst e1; subst e2
    exact .inl ⟨p, us, rfl, hq, by rw [← hr.len]; exact w.now r (.int _) q⟩
  | [.pair t], h, ⟨es, e, q⟩ =>
    obtain ⟨v, e1, rv⟩ := h.one
    obtain ⟨p, us, e2, hq, hr, z⟩ := seq_is r rv e
    subst e1; subst e2
    exact .inl ⟨p, us, rfl, hq, by rw [← hr.len]; exact w.now r (.int _) q⟩
  | [.ref t], h, ⟨es, e, q⟩ =>
    obtain ⟨v, e1, rv⟩ := h.one
    obtain ⟨p, us, e2, hq, hr, z⟩ := seq_is r rv e
    subst e1; subst e2
    exact .inl ⟨p, us, rfl, hq, by rw [← hr.len]; exact w.now r (.int _) q⟩
/-! all, any, sum over lists -/
def aAll : DRL := fun ds m Q => ∃ (d : D) (bs : List Bool), ds = [d] ∧ lstOf d m = some (bs.map D.bl) ∧ Q (.bl (bs.all id)) m
theorem cl_all : CL K (rAll K) aAll := by
  intro G H m vs ds Q Qv r h ⟨d, bs, e, el, q⟩ w
  subst e
  obtain ⟨v, e1, rv⟩ := h.one
  obtain ⟨p, us, e2, hq, hr, z⟩ := lst_is r rv el
  rw [hr.bls] at hq
  subst e1; subst e2
  exact ⟨p, bs, rfl, hq, w.now r (.bl _) q⟩
/-! max, min -/
theorem alike_ints (ns : List Int) : PySem.W.AlikeAll (ns.map PyData.int) := by
  refine ⟨fun x hx y hy => ?_, fun x hx => ?_⟩
  · obtain ⟨i, _, rfl⟩ := List.mem_map.mp hx
    obtain ⟨j, _, rfl⟩ := List.mem_map.mp hy
    rfl
  · obtain ⟨i, _, rfl⟩ := List.mem_map.mp hx
    exact fun z => nomatch z
theorem depth_ints : ∀ ns : List Int, PyData.depthAll (ns.map PyData.int) ≤ 1
  | [] => by simp [PyData.depthAll]
  | n :: ns => by
    have := depth_ints ns
    simp only [List.map_cons, PyData.depthAll, PyData.depth]
    omega
theorem dp_ints {K : PySem.W.Frag} {H : Hp} : ∀ ns : List Int, DpAll K H (ns.map V.int) (ns.map PyData.int)
  | [] => .nil
  | n :: ns => .cons (.int n) (dp_ints ns)
def rMaxT (K : KF) : List V → Hp → VK → Prop := fun vs H Q => ∃ (a : Addr) (n : Int) (ns : List Int), vs = [V.ref a] ∧ (SqL K H a ((n :: ns).map V.int) ∨ SqT K H a ((n :: ns).map V.int)) ∧ Q (.int (ns.foldl max n)) H
def rMinT (K : KF) : List V → Hp → VK → Prop := fun vs H Q => ∃ (a : Addr) (n : Int) (ns : List Int), vs = [V.ref a] ∧ (SqL K H a ((n :: ns).map V.int) ∨ SqT K H a ((n :: ns).map V.int)) ∧ Q (.int (ns.foldl min n)) H
theorem cr_maxT (hc : X.calm = true) (hu : X.A.units + 64 < cLine) : CallR X (.builtin "max") (rMaxT X.kf) := by
  intro pins s σ H vs us Q I r h
  obtain ⟨a, n, ns, rfl, hs, q⟩ := h
  rw [Vals.ref1 r]
  have hd : X.A.units + 1 + PyData.depthAll (PyData.int n :: ns.map PyData.int) < cLine := by
    have := depth_ints (n :: ns)
    rw [List.map_cons] at this
    omega
  have al : PySem.W.AlikeAll (PyData.int n :: ns.map PyData.int) := alike_ints (n :: ns)
  rcases hs with hs | hs
  · obtain ⟨its, rv, hl, _⟩ := I.list hs
    obtain ⟨as, hr⟩ := Dp.readsAll I _ _ its (dp_ints (n :: ns)) rv
    refine PySem.W.max_list_data (I.ok.hd hc) hl.isList hr al hd fun i v h' tk bs hv rd hk => ?_
    rw [PySem.W.maxD_ints] at rd
    cases rd
    exact ⟨.int _, H, I.kept hk, ⟨_, rfl⟩, q⟩
  · obtain ⟨its, rv, hl, _⟩ := I.tuple hs
    obtain ⟨as, hr⟩ := Dp.readsAll I _ _ its (dp_ints (n :: ns)) rv
    refine PySem.W.max_tuple_data (I.ok.hd hc) (show s.heap.IsTuple a its.toArray from hl) hr al hd fun i v h' tk bs hv rd hk => ?_
    rw [PySem.W.maxD_ints] at rd
    cases rd
    exact ⟨.int _, H, I.kept hk, ⟨_, rfl⟩, q⟩
theorem cr_minT (hc : X.calm = true) (hu : X.A.units + 64 < cLine) : CallR X (.builtin "min") (rMinT X.kf) := by
  intro pins s σ H vs us Q I r h
  obtain ⟨a, n, ns, rfl, hs, q⟩ := h
  rw [Vals.ref1 r]
  have hd : X.A.units + 1 + PyData.depthAll (PyData.int n :: ns.map PyData.int) < cLine := by
    have := depth_ints (n :: ns)
    rw [List.map_cons] at this
    omega
  have al : PySem.W.AlikeAll (PyData.int n :: ns.map PyData.int) := alike_ints (n :: ns)
  rcases hs with hs | hs
  · obtain ⟨its, rv, hl, _⟩ := I.list hs
    obtain ⟨as, hr⟩ := Dp.readsAll I _ _ its (dp_ints (n :: ns)) rv
    refine PySem.W.min_list_data (I.ok.hd hc) hl.isList hr al hd fun i v h' tk bs hv rd hk => ?_
    rw [PySem.W.minD_ints] at rd
    cases rd
    exact ⟨.int _, H, I.kept hk, ⟨_, rfl⟩, q⟩
  · obtain ⟨its, rv, hl, _⟩ := I.tuple hs
    obtain ⟨as, hr⟩ := Dp.readsAll I _ _ its (dp_ints (n :: ns)) rv
    refine PySem.W.min_tuple_data (I.ok.hd hc) (show s.heap.IsTuple a its.toArray from hl) hr al hd fun i v h' tk bs hv rd hk => ?_
    rw [PySem.W.minD_ints] at rd
    cases rd
    exact ⟨.int _, H, I.kept hk, ⟨_, rfl⟩, q⟩
def aMax : DRL := fun ds m Q => match ds with
  | [.int i, .int j] => Q (.int (max i j)) m
  | [d] => ∃ (n : Int) (ns : List Int), seqOf d m = some (D.int n :: ns.map D.int) ∧ Q (.int (ns.foldl max n)) m
  | _ => False
def aMin : DRL := fun ds m Q => match ds with
  | [.int i, .int j] => Q (.int (min i j)) m
  | [d] => ∃ (n : Int) (ns : List Int), seqOf d m = some (D.int n :: ns.map D.int) ∧ Q (.int (ns.foldl min n)) m
  | _ => False
theorem callR_max (hc : X.calm = true) (hu : X.A.units + 64 < cLine) : CallR X (.builtin "max") (fun xs H Q => (∃ i j, xs = [.int i, .int j] ∧ Q (.int (if j > i then j else i)) H) ∨ rMaxT X.kf xs H Q) := callR_or (call_max2 hc) (cr_maxT hc hu)
theorem callR_min (hc : X.calm = true) (hu : X.A.units + 64 < cLine) : CallR X (.builtin "min") (fun xs H Q => (∃ i j, xs = [.int i, .int j] ∧ Q (.int (if j < i then j else i)) H) ∨ rMinT X.kf xs H Q) := callR_or (call_min2 hc) (cr_minT hc hu)
theorem cl_max : CL K (fun xs H Q => (∃ i j, xs = [.int i, .int j] ∧ Q (.int (if j > i then j else i)) H) ∨ rMaxT K xs H Q) aMax := by
  intro G H m vs ds Q Qv r h q w
  match ds, h, q with
  | [.int i, .int j], h, q =>
    obtain ⟨v, u, e, r1, r2⟩ := h.two
    subst e; cases r1; cases r2
    refine .inl ⟨i, j, rfl, ?_⟩
    have e : (if j > i then j else i) = max i j := by split <;> omega
    rw [e]
    exact w.now r (.int _) q
  | [d], h, q =>
    have q' : ∃ (n : Int) (ns : List Int), seqOf d m = some (D.int n :: ns.map D.int) ∧ Q (.int (ns.foldl max n)) m := by
      cases d <;> exact q
    obtain ⟨n, ns, es, q⟩ := q'
    obtain ⟨v, e1, rv⟩ := h.one
    obtain ⟨p, us, e2, hq, hr, z⟩ := seq_is r rv es
    have e3 : us = (n :: ns).map V.int := RpL.ints (ns := n :: ns) hr
    subst e1; subst e2; subst e3
    exact .inr ⟨p, n, ns, rfl, hq, w.now r (.int _) q⟩
theorem cl_min : CL K (fun xs H Q => (∃ i j, xs = [.int i, .int j] ∧ Q (.int (if j < i then j else i)) H) ∨ rMinT K xs H Q) aMin := by
  intro G H m vs ds Q Qv r h q w
  match ds, h, q with
  | [.int i, .int j], h, q =>
    obtain ⟨v, u, e, r1, r2⟩ := h.two
    subst e; cases r1; cases r2
    refine .inl ⟨i, j, rfl, ?_⟩
    have e : (if j < i then j else i) = min i j := by split <;> omega
    rw [e]
    exact w.now r (.int _) q
  | [d], h, q =>
    have q' : ∃ (n : Int) (ns : List Int), seqOf d m = some (D.int n :: ns.map D.int) ∧ Q (.int (ns.foldl min n)) m := by
      cases d <;> exact q
    obtain ⟨n, ns, es, q⟩ := q'
    obtain ⟨v, e1, rv⟩ := h.one
    obtain ⟨p, us, e2, hq, hr, z⟩ := seq_is r rv es
    have e3 : us = (n :: ns).map V.int := RpL.ints (ns := n :: ns) hr
    subst e1; subst e2; subst e3
    exact .inr ⟨p, n, ns, rfl, hq, w.now r (.int _) q⟩
/-! tuple(x), list(x), int(x) -/
def aTuple : DRL := fun ds m Q => match ds with
  | [.tup es] => Q (.tup es) m
  | [d] => ∃ es, lstOf d m = some es ∧ Q (.tup es) m
  | _ => False
theorem cl_tuple : CL K (fun xs H Q => ∃ p ys, xs = [.ref p] ∧ ((SqL K H p ys ∧ NewT H ys Q) ∨ (SqT K H p ys ∧ Q (.ref p) H))) aTuple := by
  intro G H m vs ds Q Qv r h q w
  match ds, h, q with
  | [d], h, q =>
    obtain ⟨v, e1, rv⟩ := h.one
    subst e1
    have gen : (∃ es, lstOf d m = some es ∧ Q (.tup es) m) → ∃ p ys, [v] = [V.ref p] ∧ ((SqL K H p ys ∧ NewT H ys Qv) ∨ (SqT K H p ys ∧ Qv (.ref p) H)) := fun ⟨es, el, q⟩ => by
      obtain ⟨p, us, e2, hq, hr, z⟩ := lst_is r rv el
      subst e2
      exact ⟨p, us, rfl, .inl ⟨hq, Rl.newTup w r hr z q⟩⟩
    cases d with
    | tup es => cases rv with
      | tup h1 h2 h3 => exact ⟨_, _, rfl, .inr ⟨h1.sq r.sub _, w.now r (.tup h1 h2 h3) q⟩⟩
    | _ => exact gen q
  | a :: b :: c, h, q => exact False.elim (by cases a <;> exact q)
def aListM : DRL := fun ds m Q => ∃ d es, ds = [d] ∧ seqOf d m = some es ∧ ∀ p, m p = none → Q (.ref p) (up m p (.lst es))
theorem cl_listM : CL K (fun xs H Q => ∃ p ys, xs = [.ref p] ∧ (SqL K H p ys ∨ SqT K H p ys) ∧ ∀ l, H l = none → Q (.ref l) (upd H l (.lst ys))) aListM := by
  intro G H m vs ds Q Qv r h ⟨d, es, e, el, q⟩ w
  subst e
  obtain ⟨v, e1, rv⟩ := h.one
  obtain ⟨p, us, e2, hq, hr, z⟩ := seq_is r rv el
  subst e1; subst e2
  exact ⟨p, us, rfl, hq, Rl.newLstM w r hr z q⟩
def aInt : DRL := fun ds m Q => match ds with
  | [.int i] => Q (.int i) m
  | [.bl b] => Q (.int (if b then 1 else 0)) m
  | _ => False
theorem cl_int : CL K (fun xs H Q => (∃ i, xs = [.int i] ∧ Q (.int i) H) ∨ ∃ k, xs = [.bl k] ∧ Q (.int (if k then 1 else 0)) H) aInt := by
  intro G H m vs ds Q Qv r h q w
  match ds, h, q with
  | [.int i], h, q =>
    obtain ⟨v, e1, rv⟩ := h.one
    subst e1; cases rv
    exact .inl ⟨i, rfl, w.now r (.int _) q⟩
  | [.bl i], h, q =>
    obtain ⟨v, e1, rv⟩ := h.one
    subst e1; cases rv
    exact .inr ⟨i, rfl, w.now r (.int _) q⟩
/-! repr -/
def Shows (d : PyData) : Prop := d.showable = true ∧ d.hasDict = false ∧ d.depth ≤ 60 ∧ d.shown.length ≤ sizeLine
/-! len(set(t)), t a tuple of ints -/
def tLenSetT (K : KF) (ta : TE) : TE := fun σ H Q => ta σ H fun x H1 => ∃ (p : Addr) (ns : List Int), x = .ref p ∧ SqT K H1 p (ns.map V.int) ∧ ns.length ≤ 1000 ∧ ∀ out : List Int, out.Nodup → (∀ k, k ∈ out ↔ k ∈ ns) → Q (.int out.length) H1
theorem pe_lenSetT {a : Expr} {ta : TE} {p p2 q pos : Pos} (hg : Gl X "len") (hm : X.mg "len" = none) (hg2 : Gl X "set") (hm2 : X.mg "set" = none) (ha : PE X a ta) (hc : X.calm = true := by rfl)
    (na : starEach [a] X.env = (false, eval a X.env) :: starEach [] X.env := by rfl) : PE X (.Call (.Name "len" p) [.Call (.Name "set" p2) [a] [] q] [] pos) (tLenSetT X.kf ta) := by
  refine ⟨fun pins s σ H Q I h => ?_⟩
  refine Call_ (ld_blt I hg hm boot_len ?_)
  refine PyProof.Rows.callWith_builtin1 (PyProof.Rows.args_cons ?_ rfl) rfl rfl
  refine Call_ (ld_blt I hg2 hm2 boot_set ?_)
  refine PyProof.Rows.callWith_type1 (PyProof.Rows.args_cons (thn (ha.run pins s σ H _ I h) fun v s1 ⟨x, H1, I1, r1, q1⟩ => PyProof.Rows.args_nil ?_) na) na rfl
  obtain ⟨l, ns, rfl, hq, hl, q1⟩ := q1
  cases r1
  obtain ⟨its, r, pt, hz⟩ := I1.tuple hq
  have hi : IntsAre its.toArray.toList ns := ints_of_vals r
  refine call_set_tupI ns (I1.ok.hd hc) (show s1.heap.IsTuple l its.toArray from pt) hi (by unfold scanBound; omega) fun h' tk c R1 hcn k => ?_
  obtain ⟨o, es, ep, t, ho, hex, hdt, g, nd, hm3, hb, hf, hn, hr, hl2⟩ := R1
  refine PyProof.Rows.args_nil ?_
  have I2 : Inv X pins σ H1 { s1 with heap := h', toks := tk } := I1.kept k
  refine call_len_set ho hex hdt hf (by omega) ⟨.int es.size, H1, I2.tok _, ⟨_, rfl⟩, ?_⟩
  have z := q1 (es.toList.map keyOf) nd fun j => by rw [← hm3 j, decide_eq_true_eq]
  rw [List.length_map, Array.length_toList] at z
  exact z
def dLenSet (ta : DT) : DT := fun r m Q => ta r m fun d m1 => ∃ ns : List Int, d = .tup (ns.map D.int) ∧ ns.length ≤ 1000 ∧ ∀ out : List Int, out.Nodup → (∀ k, k ∈ out ↔ k ∈ ns) → Q (.int out.length) m1
theorem pd_lenSet {a : Expr} {ta : DT} {p p2 q pos : Pos} (hg : Gl X "len") (hm : X.mg "len" = none) (hg2 : Gl X "set") (hm2 : X.mg "set" = none) (ha : PD X a ta) (hc : X.calm = true := by rfl)
    (na : starEach [a] X.env = (false, eval a X.env) :: starEach [] X.env := by rfl) : PD X (.Call (.Name "len" p) [.Call (.Name "set" p2) [a] [] q] [] pos) (dLenSet ta) := by
  refine peM (pe_lenSetT hg hm hg2 hm2 ha hc na) fun s H Q ⟨G, ro, m, Qd, hs, hr, q, w⟩ => ?_
  refine ⟨G, ro, m, _, hs, hr, q, fun v H1 G1 m1 d s1 r1 h1 ⟨ns, e, hl, q1⟩ => ?_⟩
  subst e
  cases h1 with
  | tup h2 h3 h4 =>
    rw [h3.ints] at h2
    exact ⟨_, ns, rfl, h2.sq r1.sub _, hl, fun out h5 h6 => w _ _ _ _ _ s1 r1 (.int _) (q1 out h5 h6)⟩
/-! list(range(n)) -/
def rgD (a b : Int) : List D := (List.range (b - a).toNat).map fun i => D.int (a + (i : Nat))
theorem rg_rp {G : Hp} (a b : Int) : RpL K G (rgD a b) (rgV a b) := by
  unfold rgD rgV
  generalize (List.range (b - a).toNat) = l
  induction l with
  | nil => exact .nil
  | cons n l ih => exact .cons (.int _) ih
theorem rgD_len (a b : Int) : (rgD a b).length = (b - a).toNat := by unfold rgD; rw [List.length_map, List.length_range]
def dListRg (ta : DT) : DT := fun r m Q => ta r m fun d m1 => ∃ n : Int, d = .int n ∧ 0 ≤ n ∧ n ≤ 16777216 ∧ Q (.lst (rgD 0 n)) m1
theorem pd_listRg {a : Expr} {ta : DT} {p p2 q pos : Pos} (hg : Gl X "list") (hm : X.mg "list" = none) (hg2 : Gl X "range") (hm2 : X.mg "range" = none) (ha : PD X a ta) (hc : X.calm = true := by rfl)
    (na : starEach [a] X.env = (false, eval a X.env) :: starEach [] X.env := by rfl) : PD X (.Call (.Name "list" p) [.Call (.Name "range" p2) [a] [] q] [] pos) (dListRg ta) := by
  refine ⟨fun pins s σ H Q I h => ?_⟩
  obtain ⟨G, ro, m, Qd, hs, hr, qq, w⟩ := h
  refine (pe_listRg hc hg hm (prg_1 hg2 hm2 ha na) rfl).run pins s σ H Q I ⟨G, ro, m, _, hs, hr, qq, fun v H1 G1 m1 d s1 r1 h1 ⟨n, e, h0, hl, q1⟩ => ?_⟩
  subst e
  cases h1
  exact ⟨n, rfl, RgOk.of_le (by omega) hl (by omega) h0, Rl.newLst (w.after s1) r1 (rg_rp 0 n) (by rw [rgD_len, sizeLine_eq]; omega) q1⟩
end
end Mn

set_option Elab.async false
set_option linter.all false
set_option maxRecDepth 100000
set_option maxHeartbeats 4000000
set_option autoImplicit false
namespace Mn
open PySem PySem.Spec PyProof.Rows L2
variable [Tbs]

/-! targets -/
abbrev DG := D → Ro → (Ro → Prop) → Prop
abbrev DGs := List D → Ro → (Ro → Prop) → Prop
def gV (i : Nat) : DG := fun d r P => P (r.set i (some d))
def gN : DGs := fun ds r P => ds = [] ∧ P r
def gC (g : DG) (gs : DGs) : DGs := fun ds r P => ∃ d ds', ds = d :: ds' ∧ g d r fun r' => gs ds' r' P
def tupOf (d : D) : Option (List D) := match d with
  | .tup ds => some ds
  | .pair ds => some ds
  | _ => none
theorem tupOf_tup (ds : List D) : tupOf (.tup ds) = some ds := rfl
theorem tupOf_pair (ds : List D) : tupOf (.pair ds) = some ds := rfl
def gT (n : Nat) (gs : DGs) : DG := fun d r P => ∃ ds, tupOf d = some ds ∧ ds.length = n ∧ gs ds r P
def GC (K : KF) (g : TG) (dg : DG) (vs : List Nat) : Prop := ∀ (G H : Hp) (m : Mu) (s : L2.St) (r : Ro) (x : V) (d : D) (P : Ro → Prop) (Pv : L2.St → Hp → Prop),
  Rl K G H m → RpS K G r s → Rp K G d x → dg d r P → (∀ s' r', RpS K G r' s' → wipe s' vs = wipe s vs → P r' → Pv s' H) → g x s H Pv
def GCs (K : KF) (g : TGs) (dg : DGs) (vs : List Nat) : Prop := ∀ (G H : Hp) (m : Mu) (s : L2.St) (r : Ro) (xs : List V) (ds : List D) (P : Ro → Prop) (Pv : L2.St → Hp → Prop),
  Rl K G H m → RpS K G r s → RpL K G ds xs → dg ds r P → (∀ s' r', RpS K G r' s' → wipe s' vs = wipe s vs → P r' → Pv s' H) → g xs s H Pv
theorem wipe_get (s : L2.St) (j : Nat) : ∀ vs : List Nat, (wipe s vs)[j]? = if j ∈ vs then (if j < s.length then some none else none) else s[j]?
  | [] => by simp [wipe]
  | v :: vs => by
    unfold wipe
    by_cases h : v = j
    · subst h
      rw [if_pos List.mem_cons_self]
      by_cases hl : v < s.length
      · rw [List.getElem?_set_self (by rw [wipe_length]; exact hl), if_pos hl]
      · rw [List.getElem?_eq_none (by rw [List.length_set, wipe_length]; omega), if_neg hl]
    · rw [List.getElem?_set_ne h, wipe_get s j vs]
      have e : j ∈ v :: vs ↔ j ∈ vs := by simp [Ne.symm h]
      simp only [e]
theorem wipe_set {s : L2.St} {i : Nat} {x : Option V} {vs : List Nat} (h : i ∈ vs) : wipe (s.set i x) vs = wipe s vs := by
  apply List.ext_getElem?
  intro j
  rw [wipe_get, wipe_get, List.length_set]
  by_cases hj : j ∈ vs
  · rw [if_pos hj, if_pos hj]
  · rw [if_neg hj, if_neg hj, List.getElem?_set_ne (fun e : i = j => hj (by rw [← e]; exact h))]
theorem wipe_wipe (s : L2.St) (vs : List Nat) : wipe (wipe s vs) vs = wipe s vs := by
  apply List.ext_getElem?
  intro j
  rw [wipe_get, wipe_get, wipe_length]
  by_cases hj : j ∈ vs
  · rw [if_pos hj, if_pos hj]
  · rw [if_neg hj, if_neg hj]
section
variable {X : Cx} {K : KF} {vs : List Nat}
theorem gc_name {i : Nat} (h : i ∈ vs) : GC K (gName i) (gV i) vs := fun G H m s r x d P Pv rl rs rx q k => k _ _ (rs.set rx i) (wipe_set h) q
theorem gcs_nil : GCs K gNil gN vs := by
  intro G H m s r xs ds P Pv rl rs rx ⟨e, q⟩ k
  subst e
  cases rx
  exact ⟨rfl, k _ _ rs rfl q⟩
theorem gcs_cons {g : TG} {gs : TGs} {dg : DG} {dgs : DGs} (h1 : GC K g dg vs) (h2 : GCs K gs dgs vs) : GCs K (gCons g gs) (gC dg dgs) vs := by
  intro G H m s r xs ds P Pv rl rs rx ⟨d, ds', e, q⟩ k
  subst e
  cases rx with
  | cons ra rb =>
    refine ⟨_, _, rfl, h1 G H m s r _ d _ _ rl rs ra q fun s' r' rs' hw q' => ?_⟩
    exact h2 G H m s' r' _ ds' P Pv rl rs' rb q' fun s2 r2 rs2 hw2 q2 => k s2 r2 rs2 (hw2.trans hw) q2
theorem gc_tup {n : Nat} {gs : TGs} {dgs : DGs} (h : GCs K gs dgs vs) : GC K (gTup K n gs) (gT n dgs) vs := by
  intro G H m s r x d P Pv rl rs rx ⟨ds, e, hl, q⟩ k
  cases rx with
  | tup h1 h2 h3 => cases e; exact ⟨_, _, rfl, h1.sq rl.sub _, by rw [← h2.len]; exact hl, h G H m s r _ ds P Pv rl rs h2 q k⟩
  | pair h1 h2 h3 => cases e; exact ⟨_, _, rfl, .inl (.inl (rl.sub _ _ h1)), by rw [← h2.len]; exact hl, h G H m s r _ ds P Pv rl rs h2 q k⟩
  | _ => cases e

/-! what is walked -/
structure Wk (K : KF) (G0 : Hp) (J : It) (items : List D) : Prop where
  go : ∀ (G H : Hp) (m : Mu) (i : Nat) (d : D), Same G0 G → Rl K G H m → items[i]? = some d → J.go i H ∧ ∀ x H', J.yld i H x H' → ∃ G', Rl K G' H' m ∧ Stp G H m G' H' m ∧ Rp K G' d x
  stop : ∀ (G H : Hp) (m : Mu), Same G0 G → Rl K G H m → J.stop items.length H
abbrev DI := Ro → Mu → (List D → Mu → Prop) → Prop
def lfI (K : KF) (src : DI) : TI := fun s H R => ∃ G r m Q, RpS K G r s ∧ Rl K G H m ∧ src r m Q ∧
  ∀ J H' G' m' items, Stp G H m G' H' m' → Rl K G' H' m' → Wk K G' J items → Q items m' → R J H'
def PDI (X : Cx) (tg iter : Expr) (src : DI) : Prop := PI X tg iter (lfI X.kf src)
theorem piM {tg iter : Expr} {w w' : TI} (h : PI X tg iter w) (i : ∀ s H R, w' s H R → w s H R) : PI X tg iter w' := ⟨fun pins s σ H R I q => h.run pins s σ H R I (i _ _ _ q)⟩
/-- a list or a tuple that does not change -/
def sSeq (t : DT) : DI := fun r m Q => t r m fun d m1 => ∃ ds, (d = .lst ds ∨ d = .tup ds) ∧ Q ds m1
theorem wk_list {G : Hp} {a : Addr} {ds : List D} {us : List V} (h : G a = some (.lst us)) (hr : RpL K G ds us) : Wk K G (Itl K a) ds := by
  refine ⟨fun G1 H m i d sm rl e => ?_, fun G1 H m sm rl => ?_⟩
  · obtain ⟨v, ev, rv⟩ := hr.get e
    have hq : SqL K H a us := .inl (.inl (rl.sub _ _ (sm _ _ h)))
    refine ⟨⟨us, v, hq, ev⟩, fun x H' ⟨eH, y⟩ => ?_⟩
    subst eH
    have ex := y us hq
    rw [ev] at ex
    cases ex
    exact ⟨G1, rl, Stp.refl, rv.same sm⟩
  · exact ⟨us, .inl (.inl (rl.sub _ _ (sm _ _ h))), by rw [hr.len]; exact Nat.le_refl _⟩
theorem wk_tup {G : Hp} {a : Addr} {ds : List D} {us : List V} (h : TpG G a us) (hr : RpL K G ds us) : Wk K G (Itt K a) ds := by
  refine ⟨fun G1 H m i d sm rl e => ?_, fun G1 H m sm rl => ?_⟩
  · obtain ⟨v, ev, rv⟩ := hr.get e
    have hq : SqT K H a us := (h.same sm).sq rl.sub _
    refine ⟨⟨us, v, hq, ev⟩, fun x H' ⟨eH, y⟩ => ?_⟩
    subst eH
    have ex := y us hq
    rw [ev] at ex
    cases ex
    exact ⟨G1, rl, Stp.refl, rv.same sm⟩
  · exact ⟨us, (h.same sm).sq rl.sub _, by rw [hr.len]; exact Nat.le_refl _⟩
theorem pe_split {e : Expr} {t : DT} (h : PD X e t) {tg : Expr} : PI X tg e (fun s H R => lf X.kf t s H fun x H1 => ∃ a, x = .ref a ∧ (((∃ us, SqL X.kf H1 a us) ∧ R (Itl X.kf a) H1) ∨ ((∃ us, SqT X.kf H1 a us) ∧ R (Itt X.kf a) H1))) := by
  refine ⟨fun pins s σ H R I q => ?_⟩
  refine thn (PE.run h pins s σ H _ I q) fun v s1 ⟨x, H1, I1, r1, q1⟩ => ?_
  obtain ⟨a, e1, q1⟩ := q1
  subst e1
  cases r1
  rcases q1 with ⟨⟨us, hq⟩, q2⟩ | ⟨⟨us, hq⟩, q2⟩
  · obtain ⟨its, rv, p, hz⟩ := I1.list hq
    refine wpAny_pyIter_list p.isList ?_
    refine ⟨s1.heap.objs.size, [s1.heap.objs.size], _, _, H1, rfl, I1.kept (t' := s1.toks) fun b o e => Heap.get?_push_of_some _ e, turn_list a _, ⟨_, Heap.get?_push_size _ rfl, rfl, rfl⟩, fun b hb => ?_, q2⟩
    obtain rfl : b = s1.heap.objs.size := by simpa using hb
    exact I1.fpOk (Nat.le_refl _) (I1.hok.fresh (Nat.le_refl _))
  · obtain ⟨its, rv, p, hz⟩ := I1.tuple hq
    refine wpAny_pyIter_tuple (show s1.heap.IsTuple a its.toArray from p) ?_
    refine ⟨s1.heap.objs.size, [s1.heap.objs.size], _, _, H1, rfl, I1.kept (t' := s1.toks) fun b o e => Heap.get?_push_of_some _ e, turn_tuple a _, ⟨_, Heap.get?_push_size _ rfl, rfl, rfl⟩, fun b hb => ?_, q2⟩
    obtain rfl : b = s1.heap.objs.size := by simpa using hb
    exact I1.fpOk (Nat.le_refl _) (I1.hok.fresh (Nat.le_refl _))
theorem pdi_seq {tg e : Expr} {t : DT} (h : PD X e t) : PDI X tg e (sSeq t) := by
  refine piM (pe_split h) fun s H R ⟨G, r, m, Q, hs, hr, q, w⟩ => ?_
  refine ⟨G, r, m, _, hs, hr, q, fun v H1 G1 m1 d s1 r1 h1 ⟨ds, e, q1⟩ => ?_⟩
  rcases e with e | e
  · subst e
    cases h1 with
    | lst h2 h3 h4 => exact ⟨_, rfl, .inl ⟨⟨_, .inl (.inl (r1.sub _ _ h2))⟩, w _ _ _ _ _ s1 r1 (wk_list h2 h3) q1⟩⟩
  · subst e
    cases h1 with
    | tup h2 h3 h4 => exact ⟨_, rfl, .inr ⟨⟨_, h2.sq r1.sub _⟩, w _ _ _ _ _ s1 r1 (wk_tup h2 h3) q1⟩⟩
/-- range(n), range(a, b) -/
def sRg1 (t : DT) : DI := fun r m Q => t r m fun d m1 => ∃ n : Int, d = .int n ∧ -(2 ^ 62) ≤ n ∧ n < 2 ^ 62 ∧ Q (rgD 0 n) m1
def sRg2 (t u : DT) : DI := fun r m Q => t r m fun d m1 => u r m1 fun e m2 => ∃ a b : Int, d = .int a ∧ e = .int b ∧ (-(2 ^ 62) ≤ a ∧ a < 2 ^ 62 ∧ -(2 ^ 62) ≤ b ∧ b < 2 ^ 62) ∧ Q (rgD a b) m2
theorem wk_rg {G : Hp} (a b : Int) : Wk K G (Itr a (b - a).toNat) (rgD a b) := by
  refine ⟨fun G1 H m i d sm rl e => ?_, fun G1 H m sm rl => ?_⟩
  · unfold rgD at e
    rw [List.getElem?_map] at e
    by_cases hi : i < (b - a).toNat
    · rw [List.getElem?_range hi] at e
      cases e
      refine ⟨hi, fun x H' ⟨eH, ex⟩ => ?_⟩
      subst eH; subst ex
      exact ⟨G1, rl, Stp.refl, .int _⟩
    · rw [List.getElem?_eq_none (by rw [List.length_range]; omega)] at e
      cases e
  · rw [rgD_len]; exact Nat.le_refl _
theorem pdi_rg1 {tg a : Expr} {t : DT} {p pos : Pos} (h : PD X a t) (hg : Gl X "range") (hm : X.mg "range" = none) (hs : starEach [a] X.env = [(false, eval a X.env)] := by rfl) (na : starEach [a] X.env = (false, eval a X.env) :: starEach [] X.env := by rfl) : PDI X tg (.Call (.Name "range" p) [a] [] pos) (sRg1 t) := by
  refine piM (pi_range1 hg hm (pa_cons h pa_nil na) hs) fun s H R ⟨G, r, m, Q, hs, hr, q, w⟩ => ?_
  refine ⟨G, r, m, _, hs, hr, q, fun v H1 G1 m1 d s1 r1 h1 ⟨n, e, l1, l2, q1⟩ => ?_⟩
  subst e
  cases h1
  have z := w (Itr 0 (n - 0).toNat) H1 G1 m1 _ s1 r1 (wk_rg 0 n) q1
  rw [Int.sub_zero] at z
  exact ⟨n, rfl, l1, l2, z⟩
theorem pdi_rg2 {tg a b : Expr} {t u : DT} {p pos : Pos} (h : PD X a t) (h2 : PD X b u) (hg : Gl X "range") (hm : X.mg "range" = none) (hs : starEach [a, b] X.env = [(false, eval a X.env), (false, eval b X.env)] := by rfl) (hs2 : starEach [b] X.env = [(false, eval b X.env)] := by rfl)
    (na : starEach [a, b] X.env = (false, eval a X.env) :: starEach [b] X.env := by rfl) (nb : starEach [b] X.env = (false, eval b X.env) :: starEach [] X.env := by rfl) : PDI X tg (.Call (.Name "range" p) [a, b] [] pos) (sRg2 t u) := by
  refine piM (pi_range2 hg hm (pa_cons h (pa_cons h2 pa_nil nb) na) hs hs2) fun s H R ⟨G, r, m, Q, hs, hr, q, w⟩ => ?_
  refine lf2 (K := X.kf) hs hr q fun x y dx dy H' G' m' st rl rx ry ⟨a, b, e1, e2, l, q1⟩ => ?_
  subst e1; subst e2
  cases rx; cases ry
  exact ⟨a, b, rfl, l, w _ _ _ _ _ st rl (wk_rg a b) q1⟩
end

/-! list comprehensions -/
def lcGo (g : DG) (tt : DB) (te : DT) (r : Ro) : List D → List D → Mu → (List D → Mu → Prop) → Prop
  | [], acc, m, Q => Q acc m
  | d :: ds, acc, m, Q => g d r fun r1 => tt r1 m fun b m1 => if b = true then te r1 m1 fun y m2 => lcGo g tt te r ds (acc ++ [y]) m2 Q else lcGo g tt te r ds acc m1 Q
def wipeD (r : Ro) : List Nat → Ro
  | [] => r
  | v :: vs => (wipeD r vs).set v none
theorem RpS.wipe {K : KF} {G : Hp} {r : Ro} {s : L2.St} (h : RpS K G r s) : ∀ vs : List Nat, RpS K G (wipeD r vs) (L2.wipe s vs)
  | [] => h
  | v :: vs => (RpS.wipe h vs).forget v none
def dYes : DB := fun _ m Q => Q true m
def dLc (src : DI) (vs : List Nat) (g : DG) (tt : DB) (te : DT) : DT := fun r m Q => src r m fun items m1 => items.length ≤ sizeLine ∧ lcGo g tt te (wipeD r vs) items [] m1 fun acc m2 => Q (.lst acc) m2
def dLcM (src : DI) (vs : List Nat) (g : DG) (tt : DB) (te : DT) : DT := fun r m Q => src r m fun items m1 => items.length ≤ sizeLine ∧ lcGo g tt te (wipeD r vs) items [] m1 fun acc m2 => ∀ p, m2 p = none → Q (.ref p) (up m2 p (.lst acc))
section
variable {X : Cx} {elt tg iter : Expr} {ifs : List Expr} {scope : Scope} {own : List (Str × Nat)} {pos : Pos} {src : DI} {g : TG} {dg : DG} {tt : DB} {te : DT}
/-- the loop behind what is walked -/
theorem lc_loop {vs : List Nat} (gc : GC X.kf g dg vs) {s : L2.St} {H : Hp} {Q : VK} {QL : List D → Mu → Prop} {G : Hp} {r : Ro} {m : Mu} (hs : RpS X.kf G r s) {J : It} {H1 G1 : Hp} {m1 : Mu} {items : List D} (s1 : Stp G H m G1 H1 m1) (r1 : Rl X.kf G1 H1 m1) (wk : Wk X.kf G1 J items) (hl : items.length ≤ sizeLine) (q1 : lcGo dg tt te (wipeD r vs) items [] m1 QL)
    (fin : ∀ D us acc H' G' m', H D = none → Stp G H m G' H' m' → Rl X.kf G' H' m' → H' D = some (.lst us) → G' D = none → m' D = none → RpL X.kf G' acc us → acc.length ≤ sizeLine → QL acc m' → Q (.ref D) H') :
    ∀ D, H1 D = none → ∃ W : Nat → Nat → Hp → Prop, (∃ m, W 0 m (upd H1 D (.lst []))) ∧ ∀ i m H, W i m H →
  (J.stop i H ∧ Q (.ref D) H) ∨ (J.go i H ∧ ∃ Nx : Hp → Prop, (∀ H', Nx H' → ∃ m', m' < m ∧ W (i + 1) m' H') ∧ ∀ x H', J.yld i H x H' → g x (wipe s vs) H' fun σ2 H2 => wipe σ2 vs = wipe s vs ∧ lfB X.kf tt σ2 H2 fun b H3 =>
    if b = true then lf X.kf te σ2 H3 fun y H4 => ∃ acc, H4 D = some (.lst acc) ∧ acc.length < sizeLine ∧ Nx (upd H4 D (.lst (acc ++ [y]))) else Nx H3) := by
  intro D hD
  obtain ⟨gD, mD⟩ := r1.free hD
  -- G, m as they stand at each turn; the list at D is neither
  refine ⟨fun i k H' => i + k = items.length ∧ ∃ G' m' us acc, Stp G1 H1 m1 G' H' m' ∧ Rl X.kf G' H' m' ∧ H' D = some (.lst us) ∧ G' D = none ∧ m' D = none ∧ RpL X.kf G' acc us ∧ acc.length ≤ i ∧ lcGo dg tt te (wipeD r vs) (items.drop i) acc m' QL,
    ⟨items.length, by omega, G1, m1, [], [], ⟨Same.refl _, fun b o e1 e2 e3 _ => by rw [upd_ne (ne_of_none e1 hD)]; exact ⟨e1, e2, e3⟩, fun b o e => ⟨o, by rw [upd_ne (ne_of_none e hD)]; exact e⟩⟩, ?_, upd_same, gD, mD, .nil, Nat.le_refl _, by rw [List.drop_zero]; exact q1⟩, fun i k H' hW => ?_⟩
  · exact r1.hid gD mD (.inl hD) _
  · obtain ⟨ek, G', m', us, acc, st, rl, hD', gD', mD', ra, la, qq⟩ := hW
    by_cases hi : i < items.length
    · have ed : items[i]? = some items[i] := List.getElem?_eq_getElem hi
      rw [List.drop_eq_getElem_cons hi] at qq
      obtain ⟨go, yl⟩ := wk.go G' H' m' i _ st.g rl ed
      refine .inr ⟨go, fun H2 => (i + 1) + (k - 1) = items.length ∧ ∃ G' m' us acc, Stp G1 H1 m1 G' H2 m' ∧ Rl X.kf G' H2 m' ∧ H2 D = some (.lst us) ∧ G' D = none ∧ m' D = none ∧ RpL X.kf G' acc us ∧ acc.length ≤ i + 1 ∧ lcGo dg tt te (wipeD r vs) (items.drop (i + 1)) acc m' QL,
        fun H2 h2 => ⟨k - 1, by omega, h2⟩, fun x H2 hy => ?_⟩
      obtain ⟨G2, rl2, st2, rx⟩ := yl x H2 hy
      obtain ⟨hD2, gD2, _⟩ := st2.fr D _ hD' gD' mD' (fun _ z => nomatch z)
      refine gc G2 H2 m' (wipe s vs) (wipeD r vs) x _ _ _ rl2 ((((hs.same s1.g).same st.g).same st2.g).wipe vs) rx qq fun s3 r3 rs3 hw q3 => ⟨by rw [hw]; exact wipe_wipe s vs, ?_⟩
      refine ⟨G2, r3, m', _, rs3, rl2, q3, fun b H3 G3 m3 st3 rl3 q4 => ?_⟩
      obtain ⟨hD3, gD3, mD3⟩ := st3.fr D _ hD2 gD2 mD' (fun _ z => nomatch z)
      cases b with
      | false =>
        rw [if_neg Bool.false_ne_true] at q4 ⊢
        exact ⟨by omega, G3, m3, us, acc, (st.trans st2).trans st3, rl3, hD3, gD3, mD3, (ra.same st2.g).same st3.g, by omega, q4⟩
      | true =>
        rw [if_pos rfl] at q4 ⊢
        refine ⟨G3, r3, m3, _, rs3.same st3.g, rl3, q4, fun y H4 G4 m4 d4 st4 rl4 ry q5 => ?_⟩
        obtain ⟨hD4, gD4, mD4⟩ := st4.fr D _ hD3 gD3 mD3 (fun _ z => nomatch z)
        have lu : us.length ≤ i := by rw [← ra.len]; exact la
        refine ⟨us, hD4, by omega, by omega, G4, m4, us ++ [y], acc ++ [d4], ?_, ?_, upd_same, gD4, mD4, (((ra.same st2.g).same st3.g).same st4.g).app (.cons ry .nil), by rw [List.length_append, List.length_singleton]; omega, q5⟩
        · have stt := ((st.trans st2).trans st3).trans st4
          refine ⟨stt.g, fun b o e1 e2 e3 nt => ?_, fun b o e => ?_⟩
          · by_cases hb : b = D
            · rw [hb, hD] at e1; cases e1
            · obtain ⟨z1, z2, z3⟩ := stt.fr b o e1 e2 e3 nt
              rw [upd_ne hb]; exact ⟨z1, z2, z3⟩
          · obtain ⟨o', z⟩ := stt.up b o e
            by_cases hb : b = D
            · exact ⟨_, by rw [hb]; exact upd_same⟩
            · exact ⟨o', by rw [upd_ne hb]; exact z⟩
        · exact rl4.hid gD4 mD4 (.inr ⟨_, hD4⟩) _
    · have ei : i = items.length := by omega
      subst ei
      rw [List.drop_length] at qq
      exact .inl ⟨wk.stop G' H' m' st.g rl, fin D us acc H' G' m' (s1.free hD) (s1.trans st) rl hD' gD' mD' ra (by omega) qq⟩
/-- the loop, whatever is done with the list -/
theorem lc_data {vs : List Nat} (gc : GC X.kf g dg vs) {s : L2.St} {H : Hp} {Q : VK} {QL : List D → Mu → Prop} {G : Hp} {r : Ro} {m : Mu} (hs : RpS X.kf G r s) (hr : Rl X.kf G H m)
    (q : src r m fun items m1 => items.length ≤ sizeLine ∧ lcGo dg tt te (wipeD r vs) items [] m1 QL)
    (fin : ∀ D us acc H' G' m', H D = none → Stp G H m G' H' m' → Rl X.kf G' H' m' → H' D = some (.lst us) → G' D = none → m' D = none → RpL X.kf G' acc us → acc.length ≤ sizeLine → QL acc m' → Q (.ref D) H') :
    tLc (lfI X.kf src) g (lfB X.kf tt) (lf X.kf te) vs s H Q := by
  exact ⟨G, r, m, _, hs, hr, q, fun J H1 G1 m1 items s1 r1 wk ⟨hl, q1⟩ => lc_loop gc hs s1 r1 wk hl q1 fin⟩
end
end Mn

set_option Elab.async false
set_option linter.all false
set_option maxRecDepth 100000
set_option maxHeartbeats 4000000
set_option autoImplicit false
namespace Mn
open PySem PySem.Spec PyProof.Rows L2
variable [Tbs]
section
variable {X : Cx} {elt tg iter : Expr} {ifs : List Expr} {scope : Scope} {own : List (Str × Nat)} {pos : Pos} {src : DI} {g : TG} {dg : DG} {tt : DB} {te : DT}
def PDTs (X : Cx) (ifs : List Expr) (t : DB) : Prop := PTs X ifs (lfB X.kf t)
theorem pdts_nil : PDTs X [] dYes := ⟨fun pins s σ H Q I ⟨G, r, m, Qd, hs, hr, q, w⟩ => pts_nil.run pins s σ H Q I (w _ _ _ _ Stp.refl hr q)⟩
theorem pdts_one {c : Expr} {t : DB} (h : PDT X c t) : PDTs X [c] t := pts_one h
theorem lc_frz {vs : List Nat} (gc : GC X.kf g dg vs) {s : L2.St} {H : Hp} {Q : VK} (h : lf X.kf (dLc src vs dg tt te) s H Q) : tLc (lfI X.kf src) g (lfB X.kf tt) (lf X.kf te) vs s H Q := by
  obtain ⟨G, r, m, Qd, hs, hr, q, w⟩ := h
  refine lc_data gc hs hr q fun D us acc H' G' m' new st rl hD gD mD ra la qq => ?_
  have sm : Same G' (upd G' D (.lst us)) := fun b o e => by rw [upd_ne (ne_of_none e gD)]; exact e
  refine w _ _ (upd G' D (.lst us)) m' (.lst acc) ⟨st.g.trans sm, fun b o e1 e2 e3 nt => ?_, st.up⟩ (rl.hidG hD gD mD) (.lst upd_same (ra.same sm) la) qq
  · obtain ⟨z1, z2, z3⟩ := st.fr b o e1 e2 e3 nt
    rw [upd_ne (ne_of_none e1 new)]; exact ⟨z1, z2, z3⟩
theorem pd_lc (hc : X.calm = true) (hN : X.N.Nodup) (hi : PDI X tg iter src) (ok : BlkOk X.N X.env.scope scope own) (gc : GC X.kf g dg (own.map (·.2)))
    (hg : ∀ (s : Shared) (H : Hp) (C : Addr) (cl : List (Str × Addr)) (fp : List Addr), PG (X.blk s H scope (compEnvC scope cl C X.env) fp) tg g) (ht : ∀ (s : Shared) (H : Hp) (C : Addr) (cl : List (Str × Addr)) (fp : List Addr), PDTs (X.blk s H scope (compEnvC scope cl C X.env) fp) ifs tt)
    (he : ∀ (s : Shared) (H : Hp) (C : Addr) (cl : List (Str × Addr)) (fp : List Addr), PD (X.blk s H scope (compEnvC scope cl C X.env) fp) elt te) (hs : ∀ x, foldedSetIterable iter X.env x = pure x := by intro _; rfl) :
    PD X (.ListComp elt [⟨tg, iter, ifs, 0⟩] scope pos) (dLc src (own.map (·.2)) dg tt te) :=
  peM (pe_lc (tt := lfB X.kf tt) (te := lf X.kf te) hc hN hi ok hg ht he hs) fun _ _ _ h => lc_frz gc h
end

/-! statements -/
def xNext : DS := fun De r m => De.nx r m
def xSeq (t u : DS) : DS := fun De r m => t { De with nx := u De } r m
def xAsg (t : DT) (g : DG) : DS := fun De r m => t r m fun d m1 => g d r fun r1 => De.nx r1 m1
def xRet (t : DT) : DS := fun De r m => t r m De.rt
def xRetF (i : Nat) : DS := fun De r m => ∃ p ds, r[i]? = some (some (.ref p)) ∧ m p = some (.lst ds) ∧ De.rt (.lst ds) (er m p)
def xDrop (t : DT) : DS := fun De r m => t r m fun _ m1 => De.nx r m1
def xIf (c : DB) (t u : DS) : DS := fun De r m => c r m fun b m1 => if b = true then t De r m1 else u De r m1
def xNever : DS := fun _ _ _ => False
section
variable {X : Cx} {st : Stmt} {rest : List Stmt} {t u : DS} {e : Expr} {te : DT} {pos : Pos}
theorem pdss_nil : PDSs X [] xNext := pssM pss_nil fun E s H ⟨G, r, m, De, hs, hr, q, w⟩ => w.nx _ _ _ _ _ Stp.refl hs hr q
theorem lfSeq {E : Ends} {s : L2.St} {H : Hp} (h : lfS X.kf X.wx (xSeq t u) E s H) : tSeq (lfS X.kf X.wx t) (lfS X.kf X.wx u) E s H := by
  obtain ⟨G, r, m, De, hs, hr, q, w⟩ := h
  exact ⟨G, r, m, _, hs, hr, q, ⟨fun s' H' G' r' m' st' rs rl q' => ⟨G', r', m', De, rs, rl, q', w.after st'⟩, w.rt, w.bk, w.ct, w.ex⟩⟩
theorem pdss_cons (h1 : PDS X st t) (h2 : PDSs X rest u) : PDSs X (st :: rest) (xSeq t u) := pssM (pss_cons h1 h2) fun _ _ _ h => lfSeq h
theorem pdss_one (h1 : PDS X st t) : PDSs X [st] t := pss_one h1
theorem pds_never : PDS X st xNever := ⟨fun _ _ _ _ _ _ ⟨_, _, _, _, _, _, q, _⟩ => q.elim⟩
theorem pds_drop (he : PD X e te) (hs : swapsWith e none pos.line X.env = pure false := by rfl) : PDS X (.Expr e pos) (xDrop te) :=
  psM (ps_expr he hs) fun E s H ⟨G, r, m, De, hs, hr, q, w⟩ => ⟨G, r, m, _, hs, hr, q, fun v H1 G1 m1 d s1 r1 h1 q1 => w.nx _ _ _ _ _ s1 (hs.same s1.g) r1 q1⟩
theorem pds_ret (he : PD X e te) : PDS X (.Return (some e) pos) (xRet te) :=
  psM (ps_ret he) fun E s H ⟨G, r, m, De, hs, hr, q, w⟩ => ⟨G, r, m, _, hs, hr, q, w.rt⟩
/-- a mutable list of a name is handed back, and not changed any more -/
theorem pds_retF {i : Nat} {x : Str} {p : Pos} (h : PE X (.Name x p) (tVar i)) : PDS X (.Return (some (.Name x p)) pos) (xRetF i) := by
  refine psM (ps_ret h) fun E s H ⟨G, r, m, De, hs, hr, ⟨a, ds, e1, e2, q⟩, w⟩ => ?_
  obtain ⟨v, ev, rv⟩ := hs.get i _ e1
  cases rv
  obtain ⟨G', rl, st, rp⟩ := hr.freeze e2
  exact ⟨.ref a, ev, w.rt _ _ _ _ _ st rl rp q⟩
theorem pds_if {c : Expr} {a b : List Stmt} {tc : DB} (hc : PDT X c tc) (ha : PDSs X a t) (hb : PDSs X b u) : PDS X (.If c a b pos) (xIf tc t u) := by
  refine psM (ps_if hc ha hb) fun E s H ⟨G, r, m, De, hs, hr, q, w⟩ => ?_
  refine ⟨G, r, m, _, hs, hr, q, fun k H1 G1 m1 s1 r1 q1 => ?_⟩
  cases k with
  | true => exact ⟨G1, r, m1, De, hs.same s1.g, r1, q1, w.after s1⟩
  | false => exact ⟨G1, r, m1, De, hs.same s1.g, r1, q1, w.after s1⟩
theorem lfAsg {vs : List Nat} {g : TG} {dg : DG} (gc : GC X.kf g dg vs) {E : Ends} {s : L2.St} {H : Hp} (h : lfS X.kf X.wx (xAsg te dg) E s H) : tAsg (lf X.kf te) g E s H := by
  obtain ⟨G, r, m, De, hs, hr, q, w⟩ := h
  refine ⟨G, r, m, _, hs, hr, q, fun v H1 G1 m1 d s1 r1 h1 q1 => ?_⟩
  exact gc G1 H1 m1 s r v d _ _ r1 (hs.same s1.g) h1 q1 fun s' r' rs' _ q2 => w.nx _ _ _ _ _ s1 rs' r1 q2
theorem pds_set {i : Nat} {x : Str} {pos' : Pos} (hN : X.N.Nodup) (hi : X.N[i]? = some x) (hx : Loc X.env.scope x) (he : PD X e te) (hs : swapsWith e (some (.Name x pos')) pos.line X.env = pure false := by rfl) (hf : X.fn x = true ∨ X.env.scope.names.lookup x = some .local := by first | exact .inl rfl | exact .inr rfl | assumption) :
    PDS X (.Assign [.Name x pos'] e pos) (xAsg te (gV i)) := psM (ps_set hN hi hx he hs hf) fun _ _ _ h => lfAsg (vs := [i]) (gc_name (by simp)) h
theorem pds_asg {tg : Expr} {vs : List Nat} {g : TG} {dg : DG} (he : PD X e te) (hg : PG X tg g) (gc : GC X.kf g dg vs) (hs : swapsWithSole [tg] e pos.line X.env = pure false := by rfl) (hw : swappedStores [tg] e X.env = pure none := by rfl)
    (h1 : (assignEach [tg] X.env).map (·.2) = [assign tg X.env] := by rfl) : PDS X (.Assign [tg] e pos) (xAsg te dg) := psM (ps_asg he hg hs hw h1) fun _ _ _ h => lfAsg gc h
/-- a, b = x, y -/
def xPar (i j : Nat) (ta : DA) : DS := fun De r m => ta r m fun ds m1 => ∃ d e, ds = [d, e] ∧ De.nx ((r.set i (some d)).set j (some e)) m1
theorem pds_par {i j : Nat} {x y : Str} {a b : Expr} {ta : DA} {px py pt : Pos} {kt k2 pt2} (hc : X.calm = true) (hN : X.N.Nodup) (hi : X.N[i]? = some x) (hj : X.N[j]? = some y) (hij : i ≠ j)
    (hx : X.env.scope.names.lookup x = some .local) (hy : X.env.scope.names.lookup y = some .local) (ha : PDA X [a, b] ta)
    (hw : swappedStores [.Tuple [.Name x px, .Name y py] kt pt] (.Tuple [a, b] k2 pt2) X.env = pure (some [x, y]))
    (hs : swapsWithSole [.Tuple [.Name x px, .Name y py] kt pt] (.Tuple [a, b] k2 pt2) pos.line X.env = pure false := by rfl) :
    PDS X (.Assign [.Tuple [.Name x px, .Name y py] kt pt] (.Tuple [a, b] k2 pt2) pos) (xPar i j ta) := by
  refine psM (ps_par hc hN hi hj hij hx hy ha hw hs) fun E s H ⟨G, r, m, De, hs, hr, q, w⟩ => ?_
  refine ⟨G, r, m, _, hs, hr, q, fun vs H1 G1 m1 ds s1 r1 h1 ⟨d, e, ed, q1⟩ => ?_⟩
  subst ed
  obtain ⟨v, u, ev, rv, ru⟩ := h1.two
  exact ⟨v, u, ev, w.nx _ _ _ _ _ s1 (((hs.same s1.g).set rv i).set ru j) r1 q1⟩
/-- x op= e of ints -/
def xAug (i : Nat) (te : DT) (f : Int → Int → Int) : DS := fun De r m => ∃ k, r[i]? = some (some (.int k)) ∧ te r m fun d m1 => ∃ j, d = .int j ∧ De.nx (r.set i (some (.int (f k j)))) m1
end

/-! loops -/
def forGo (g : DG) (tb : DS) (De : DE) : List D → Ro → Mu → Prop
  | [], r, m => De.nx r m
  | d :: ds, r, m => g d r fun r1 => tb { De with nx := forGo g tb De ds, ct := forGo g tb De ds, bk := De.nx } r1 m
def xFor (src : DI) (g : DG) (tb : DS) : DS := fun De r m => src r m fun items m1 => forGo g tb De items r m1
def xWhile (c : DB) (tb : DS) : DS := fun De r m => ∃ W : Nat → Ro → Mu → Prop, (∃ n, W n r m) ∧ ∀ n r m, W n r m →
  c r m fun b m1 => if b = true then tb { De with nx := fun r' m' => ∃ n', n' < n ∧ W n' r' m', ct := fun r' m' => ∃ n', n' < n ∧ W n' r' m', bk := De.nx } r m1 else De.nx r m1
section
variable {X : Cx} {tg iter : Expr} {body : List Stmt} {src : DI} {g : TG} {dg : DG} {tb : DS} {pos : Pos} {vs : List Nat}
theorem pds_for (hp : PassesOwn (model X.prog X.w) X.A X.env X.xe) (hc : X.calm = true) (hi : PDI X tg iter src) (hg : PG X tg g) (gc : GC X.kf g dg vs) (hb : PDSs X body tb)
    (hs : ∀ x, foldedSetIterable iter X.env x = pure x := by intro _; rfl) : PDS X (.For tg iter body [] pos) (xFor src dg tb) := by
  refine psM (ps_for hp hc hi hg hb hs) fun E s H ⟨G, r, m, De, hs, hr, q, w⟩ => ?_
  refine ⟨G, r, m, _, hs, hr, q, fun J H1 G1 m1 items s1 r1 wk q1 => ?_⟩
  refine ⟨fun i k s' H' => i + k = items.length ∧ ∃ G' r' m', Stp G1 H1 m1 G' H' m' ∧ RpS X.kf G' r' s' ∧ Rl X.kf G' H' m' ∧ forGo dg tb De (items.drop i) r' m',
    ⟨items.length, by omega, G1, r, m1, Stp.refl, hs.same s1.g, r1, by rw [List.drop_zero]; exact q1⟩, fun i k s' H' hW => ?_⟩
  obtain ⟨ek, G', r', m', st, rs, rl, qq⟩ := hW
  by_cases hi : i < items.length
  · have ed : items[i]? = some items[i] := List.getElem?_eq_getElem hi
    rw [List.drop_eq_getElem_cons hi] at qq
    obtain ⟨go, yl⟩ := wk.go G' H' m' i _ st.g rl ed
    refine .inr ⟨go, fun s2 H2 => (i + 1) + (k - 1) = items.length ∧ ∃ G' r' m', Stp G1 H1 m1 G' H2 m' ∧ RpS X.kf G' r' s2 ∧ Rl X.kf G' H2 m' ∧ forGo dg tb De (items.drop (i + 1)) r' m',
      fun s2 H2 h2 => ⟨k - 1, by omega, h2⟩, fun x H2 hy => ?_⟩
    obtain ⟨G2, rl2, st2, rx⟩ := yl x H2 hy
    refine gc G2 H2 m' s' r' x _ _ _ rl2 (rs.same st2.g) rx qq fun s3 r3 rs3 _ q3 => ?_
    have base := s1.trans (st.trans st2)
    refine ⟨G2, r3, m', _, rs3, rl2, q3, ⟨fun s4 H4 G4 r4 m4 st4 rs4 rl4 q4 => ⟨by omega, G4, r4, m4, (st.trans st2).trans st4, rs4, rl4, q4⟩, w.rt.after base,
      fun s4 H4 G4 r4 m4 st4 rs4 rl4 q4 => w.nx _ _ _ _ _ (base.trans st4) rs4 rl4 q4, fun s4 H4 G4 r4 m4 st4 rs4 rl4 q4 => ⟨by omega, G4, r4, m4, (st.trans st2).trans st4, rs4, rl4, q4⟩, (w.after base).ex⟩⟩
  · have ei : i = items.length := by omega
    subst ei
    rw [List.drop_length] at qq
    exact .inl ⟨wk.stop G' H' m' st.g rl, w.nx _ _ _ _ _ (s1.trans st) rs rl qq⟩
theorem pds_while {c : Expr} {tc : DB} (hp : PassesOwn (model X.prog X.w) X.A X.env X.xe) (hc : PDT X c tc) (hb : PDSs X body tb) : PDS X (.While c body [] pos) (xWhile tc tb) := by
  refine psM (ps_while hp hc hb) fun E s H ⟨G, r, m, De, hs, hr, ⟨W, ⟨n0, w0⟩, turn⟩, w⟩ => ?_
  refine ⟨fun n s' H' => ∃ G' r' m', Stp G H m G' H' m' ∧ RpS X.kf G' r' s' ∧ Rl X.kf G' H' m' ∧ W n r' m', ⟨n0, G, r, m, Stp.refl, hs, hr, w0⟩, fun n s' H' ⟨G', r', m', st, rs, rl, hw⟩ => ?_⟩
  refine ⟨G', r', m', _, rs, rl, turn n r' m' hw, fun b H1 G1 m1 s1 r1 q1 => ?_⟩
  have base := st.trans s1
  cases b with
  | false => exact w.nx _ _ _ _ _ base (rs.same s1.g) r1 q1
  | true =>
    refine ⟨fun s2 H2 => ∃ n', n' < n ∧ ∃ G' r' m', Stp G H m G' H2 m' ∧ RpS X.kf G' r' s2 ∧ Rl X.kf G' H2 m' ∧ W n' r' m', fun s2 H2 h2 => h2, ?_⟩
    exact ⟨G1, r', m1, _, rs.same s1.g, r1, q1, ⟨fun s4 H4 G4 r4 m4 st4 rs4 rl4 ⟨n', hn, q4⟩ => ⟨n', hn, G4, r4, m4, base.trans st4, rs4, rl4, q4⟩, w.rt.after base,
      fun s4 H4 G4 r4 m4 st4 rs4 rl4 q4 => w.nx _ _ _ _ _ (base.trans st4) rs4 rl4 q4, fun s4 H4 G4 r4 m4 st4 rs4 rl4 ⟨n', hn, q4⟩ => ⟨n', hn, G4, r4, m4, base.trans st4, rs4, rl4, q4⟩, (w.after base).ex⟩⟩
end

/-! methods of mutable lists -/
def dAppend (to te : DT) : DT := fun r m Q => to r m fun o m1 => ∃ p ds0, o = .ref p ∧ m1 p = some (.lst ds0) ∧ te r m1 fun d m2 => ∃ ds, m2 p = some (.lst ds) ∧ ds.length < sizeLine ∧ Q .non (up m2 p (.lst (ds ++ [d])))
def dPopAt (to te : DT) : DT := fun r m Q => to r m fun o m1 => ∃ p ds0, o = .ref p ∧ m1 p = some (.lst ds0) ∧ te r m1 fun k m2 => ∃ ds d, ∃ j : Nat, k = .int (j : Int) ∧ m2 p = some (.lst ds) ∧ ds[j]? = some d ∧ Q d (up m2 p (.lst (ds.eraseIdx j)))
section
variable {X : Cx} {o e : Expr} {to te : DT} {apos cpos : Pos}
theorem tyV_ref {K : KF} {G H : Hp} {m : Mu} {p : Addr} {ds : List D} (r : Rl K G H m) (e : m p = some (.lst ds)) : tyV K "list" (.ref p) H := by
  obtain ⟨_, x, hx, us, ex, _⟩ := r.mu p _ e
  subst ex
  exact .inl ⟨rfl, us, .inl (.inl hx)⟩
theorem pd_append (ho : PD X o to) (he : PD X e te) (hs : starEach [e] X.env = (false, eval e X.env) :: starEach [] X.env := by rfl) (hbase : attributeBase o "append" X.env (eval o X.env) = eval o X.env := by rfl)
    (hfew : ((backTo cpos (starEach [e] X.env)).all (fun x => !x.1) && (backToKw cpos (keywordEach [] X.env)).all (fun x => x.1.isSome)
      && decide ([e].length + ([] : List Keyword).length + (if ([] : List Keyword).isEmpty then 0 else 1) < 30)) = true := by rfl)
    (hline : (apos.endLine == cpos.line) = true := by rfl) (hplain : (backTo cpos (starEach [] X.env)).any (·.1) = false := by rfl) :
    PD X (.Call (.Attribute o "append" apos) [e] [] cpos) (dAppend to te) := by
  refine peM (pe_bm PySem.F.plainAttrs_list PySem.F.slot_list_append PySem.F.type_list_append mt_append ho (pa_cons he pa_nil hs) hbase hfew hline hs hplain) fun s H Q ⟨G, ro, m, Qd, hs, hr, q, w⟩ => ?_
  refine ⟨G, ro, m, _, hs, hr, q, fun v H1 G1 m1 d s1 r1 h1 ⟨p, ds0, e1, e2, q1⟩ => ?_⟩
  subst e1
  cases h1
  refine ⟨tyV_ref r1 e2, G1, ro, m1, _, hs.same s1.g, r1, q1, fun v2 H2 G2 m2 d2 s2 r2 h2 ⟨ds, e3, z, q2⟩ => ?_⟩
  obtain ⟨_, x, hx, us, ex, ru, z2⟩ := r2.mu p _ e3
  subst ex
  obtain ⟨r4, s4⟩ := r2.put e3 (o := .lst (us ++ [v2])) (u := .lst (ds ++ [d2])) ⟨_, rfl, ru.app (.cons h2 .nil), by rw [List.length_append, List.length_singleton]; omega⟩
  exact ⟨p, us, v2, rfl, rfl, hx, by rw [← ru.len]; exact z, w _ _ _ _ _ ((s1.trans s2).trans s4) r4 .non q2⟩
theorem pd_popAt (ho : PD X o to) (he : PD X e te) (hs : starEach [e] X.env = (false, eval e X.env) :: starEach [] X.env := by rfl) (hbase : attributeBase o "pop" X.env (eval o X.env) = eval o X.env := by rfl)
    (hfew : ((backTo cpos (starEach [e] X.env)).all (fun x => !x.1) && (backToKw cpos (keywordEach [] X.env)).all (fun x => x.1.isSome)
      && decide ([e].length + ([] : List Keyword).length + (if ([] : List Keyword).isEmpty then 0 else 1) < 30)) = true := by rfl)
    (hline : (apos.endLine == cpos.line) = true := by rfl) (hplain : (backTo cpos (starEach [] X.env)).any (·.1) = false := by rfl) :
    PD X (.Call (.Attribute o "pop" apos) [e] [] cpos) (dPopAt to te) := by
  refine peM (pe_bm PySem.F.plainAttrs_list PySem.F.slot_list_pop PySem.F.type_list_pop mt_popAt ho (pa_cons he pa_nil hs) hbase hfew hline hs hplain) fun s H Q ⟨G, ro, m, Qd, hs, hr, q, w⟩ => ?_
  refine ⟨G, ro, m, _, hs, hr, q, fun v H1 G1 m1 d s1 r1 h1 ⟨p, ds0, e1, e2, q1⟩ => ?_⟩
  subst e1
  cases h1
  refine ⟨tyV_ref r1 e2, G1, ro, m1, _, hs.same s1.g, r1, q1, fun v2 H2 G2 m2 d2 s2 r2 h2 ⟨ds, d3, j, e4, e3, e5, q2⟩ => ?_⟩
  subst e4
  cases h2
  obtain ⟨_, x, hx, us, ex, ru, z2⟩ := r2.mu p _ e3
  subst ex
  obtain ⟨u, eu, ruu⟩ := ru.get e5
  have hj : j < us.length := (List.getElem?_eq_some_iff.mp eu).1
  have hz : us.length ≤ sizeLine := by rw [← ru.len]; exact z2
  rw [sizeLine_eq] at hz
  obtain ⟨r4, s4⟩ := r2.put e3 (o := .lst (us.eraseIdx j)) (u := .lst (ds.eraseIdx j)) ⟨_, rfl, ru.erase j, by have := List.length_eraseIdx_le ds j; omega⟩
  refine ⟨p, us, (j : Int), j, u, rfl, rfl, hx, by omega, by omega, ?_, eu, w _ _ _ _ _ ((s1.trans s2).trans s4) r4 (ruu.same s4.g) q2⟩
  unfold seqIndex?
  simp
  omega
end
end Mn

set_option Elab.async false
set_option linter.all false
set_option maxRecDepth 100000
set_option maxHeartbeats 4000000
set_option autoImplicit false
namespace Mn
open PySem PySem.Spec PyProof.Rows L2
variable [Tbs]

/-! a def's promise, where no text of a container is under way around the call -/
structure FnG (P : Program) (w : World) (K : PySem.W.Frag) (mg : Str → Option Value) (base : Heap) (CX : CXT) (k : Nat) (f : Addr) (fd : FuncData) (ps : List Str) (sp : Sp) : Prop where
  len : ∀ vs H Q E, sp vs H Q E → vs.length = ps.length
  run : ∀ (A : Around) (outer : List Env) (s : Shared) (H : Hp) (args : Args) (us : List Value) (vs : List V) (Q : VK) (E : XK), Room k A → A.guards = some [] → Env0 P w K mg base A outer s H →
    BindsTo s fd args (ps.zip us) → Vals vs us → sp vs H Q E → codeAny (model P w) A (.call (.ref f) args) (CR CX outer P w H s Q E) s
section
variable {P : Program} {w : World} {K : PySem.W.Frag} {mg : Str → Option Value} {base : Heap} {CX : CXT}
theorem FnG.mono {j k : Nat} {f : Addr} {fd : FuncData} {ps : List Str} {sp : Sp} (F : FnG P w K mg base CX j f fd ps sp) (h : j ≤ k) : FnG P w K mg base CX k f fd ps sp :=
  ⟨F.len, fun A outer s H args us vs Q E room gd => F.run A outer s H args us vs Q E (room.mono h) gd⟩
theorem gn_of {k : Nat} {f : Addr} {name qual : Str} {params : Arguments} {body : List Stmt} {scope : Scope} {dV kV doc pm cdv ct oc : Value} {an od : Option Addr} {osl : Array (Option Value)} {N ps : List Str} {sp : Sp}
    (lk : K.lookup f = some ⟨oc, od, .func (PySem.W.fnOf name qual params body scope dV kV doc pm an cdv ct), osl⟩) (hcd : PySem.W.codeIn K cdv qual = true) (S : FnScope N ps scope) (len : ∀ vs H Q E, sp vs H Q E → vs.length = ps.length)
    (hbody : ∀ (A : Around) (outer : List Env) (s : Shared) (H : Hp) (vs : List V) (Q : VK) (E : XK), Room k (A.deeper (envOfC qual scope s.heap.objs.size f cdv)) → A.guards = some [] → sp vs H Q E →
      ∃ t, PSs (cxOf CX P w K mg base N qual scope f cdv A outer s H E) body t ∧ t { nx := fun _ H' => Q .non H', rt := Q } (L2.start N vs) H) :
    FnG P w K mg base CX (k + 1) f (PySem.W.fnOf name qual params body scope dV kV doc pm an cdv ct) ps sp := by
  refine ⟨len, fun A outer s H args us vs Q E room gd e0 bd rv hsp => ?_⟩
  have inK : K.In s.heap := e0.mod.kin.keeps fun b o e => (e0.bs b o e).1
  have noLim : s.heap.NoLimit := e0.mod.nolimit.keeps fun b o e => (e0.bs b o e).1
  refine codeAny_call_function room.depth (inK _ _ lk) rfl S.co S.gen rfl (PySem.W.codeRec_of inK hcd) (bd _ _ _ _ (wpAny_newFunctionEnv_cells S.kind (fun y hy => ?_) fun env he s1 ic => ?_))
  · obtain ⟨n, v⟩ := y
    rcases S.par n (List.of_mem_zip hy).1 with q | q
    · exact .inl q
    · exact .inr ⟨q, PySem.W.cellsFrom_some _ _ _ (.inl q)⟩
  · subst he
    refine ⟨noLim.keeps ic.toInCall.keep, codeAny_func ?_⟩
    obtain ⟨t, ht, hq⟩ := hbody A outer s H vs Q E (room.deeper _) gd hsp
    refine wpAny_mono (ht.run [] s1 (L2.start N vs) H _ (inv_start S room.hd e0 (len _ _ _ _ hsp) rv ic) hq) (fun fl s' hs => ?_) fun e s' hs => hs
    cases fl with
    | ret u => obtain ⟨v, σ', H', J, r1, q⟩ := hs; exact ⟨v, H', J.os, J.bare, J.base, J.hok, r1, q⟩
    | next => obtain ⟨σ', H', J, q⟩ := hs; exact ⟨.non, H', J.os, J.bare, J.base, J.hok, rfl, q⟩
    | brk => obtain ⟨_, _, _, q⟩ := hs; exact q.elim
    | cont => obtain ⟨_, _, _, q⟩ := hs; exact q.elim
end

/-! promises over data -/
abbrev DSp := List D → Mu → DK → Prop
def lfSp (K : KF) (d : DSp) : Sp := fun vs H Q _ => ∃ G ds m Qd, RpL K G ds vs ∧ Rl K G H m ∧ d ds m Qd ∧ WV K G H m Qd Q
abbrev FnD (P : Program) (w : World) (K : PySem.W.Frag) (mg : Str → Option Value) (base : Heap) (k : Nat) (f : Addr) (fd : FuncData) (ps : List Str) (d : DSp) : Prop := FnG P w K mg base CX0 k f fd ps (lfSp ⟨K, w, Tbs.T⟩ d)
def startD (n : Nat) (ds : List D) : Ro := ds.map some ++ List.replicate (n - ds.length) none
/-- what a body is to show -/
def endD (m0 : Mu) (Q : DK) : DE := { nx := fun _ m' => ∃ m'', (∀ a o, m'' a = some o → m' a = some o) ∧ Q .non m'', rt := fun d m' => ∃ m'', (∀ a o, m'' a = some o → m' a = some o) ∧ Q d m'' }
def Body (n : Nat) (t : DS) (d : DSp) : Prop := ∀ ds m Q, d ds m Q → t (endD m Q) (startD n ds) m
theorem rps_start {K : KF} {G : Hp} {ds : List D} {vs : List V} {N : List Str} (h : RpL K G ds vs) : RpS K G (startD N.length ds) (L2.start N vs) := by
  refine ⟨?_, fun i d e => ?_⟩
  · unfold startD L2.start
    rw [List.length_append, List.length_append, List.length_map, List.length_map, List.length_replicate, List.length_replicate, h.len]
  · unfold startD at e
    unfold L2.start
    by_cases hi : i < ds.length
    · rw [List.getElem?_append_left (by rw [List.length_map]; exact hi), List.getElem?_map] at e
      rw [List.getElem?_append_left (by rw [List.length_map, ← h.len]; exact hi), List.getElem?_map]
      cases q : ds[i]? with
      | none => rw [q] at e; cases e
      | some x =>
        rw [q] at e
        cases e
        obtain ⟨v, ev, rv⟩ := h.get q
        exact ⟨v, by rw [ev]; rfl, rv⟩
    · rw [List.getElem?_append_right (by rw [List.length_map]; omega), List.getElem?_replicate] at e
      split at e <;> cases e
section
variable {P : Program} {w : World} {K : PySem.W.Frag} {mg : Str → Option Value} {base : Heap}
theorem lfS_start {K : KF} {xw : WX} {N : List Str} {t : DS} {d : DSp} (hb : Body N.length t d) {vs : List V} {H : Hp} {Q : VK} {E : XK} (h : lfSp K d vs H Q E) :
    lfS K xw t { nx := fun _ H' => Q .non H', rt := Q } (L2.start N vs) H := by
  obtain ⟨G, ds, m, Qd, rp, rl, q, w⟩ := h
  refine ⟨G, _, m, endD m Qd, rps_start rp, rl, hb ds m Qd q, ⟨fun s' H' G' r' m' st rs rl' ⟨m2, le, q2⟩ => ?_, fun v H' G' m' d' st rl' rv ⟨m2, le, q2⟩ => ?_, fun _ _ _ _ _ _ _ _ z => z.elim, fun _ _ _ _ _ _ _ _ z => z.elim, fun _ _ _ _ _ _ _ _ _ _ _ _ z => z.elim⟩⟩
  · exact w _ _ _ m2 _ (st.less le) (rl'.less le) .non q2
  · exact w _ _ _ m2 _ (st.less le) (rl'.less le) rv q2
end
section
variable {X : Cx} {k : Nat} {f : Addr} {fd : FuncData} {ps : List Str} {d : DSp} {x : Str} {p pos : Pos} {e : Expr} {es : List Expr} {tr : DA}
theorem run_D {pins : List (Addr × Obj)} {σ : L2.St} {H : Hp} {s : Shared} {Q : VK} {us : List Value} {vs : List V} (F : FnD X.prog X.w X.K X.mg X.base k f fd ps d) (room : Room k X.A) (gd : X.A.guards = some []) (bd : Binds X.K fd ps [])
    (I : Inv X pins σ H s) (rv : Vals vs us) (h : lfSp X.kf d vs H Q E0) : wpAny (model X.prog X.w) X.A (call (.ref f) us) (EP X pins σ Q) X.xe s := by
  have hl : us.length = ps.length := by rw [← rv.length]; exact F.len _ _ _ _ h
  have bz := bd s us I.kIn (by rw [List.append_nil]; exact hl)
  rw [List.append_nil] at bz
  refine wpAny_call (codeAny_mono (F.run X.A X.stack s H ⟨us, []⟩ us vs Q E0 room gd I.env0 bz rv h) fun res s' hq => ?_)
  cases res with
  | error e => exact False.elim hq
  | ok fl => cases fl with
    | ret u => exact I.after hq
    | next => exact False.elim hq
    | brk => exact False.elim hq
    | cont => exact False.elim hq
theorem pd_call (F : FnD X.prog X.w X.K X.mg X.base k f fd ps d) (room : Room k X.A) (gd : X.A.guards = some []) (hg : Gl X x) (hm : X.mg x = some (.ref f)) (hk : PySem.W.keepIn X.K (.ref f) = true) (bd : Binds X.K fd ps [])
    (ha : PDA X (e :: es) tr) (hdb : (x == ("__debug__" : Str)) = false := by decide) (he : starEach (e :: es) X.env = (false, eval e X.env) :: starEach es X.env := by rfl) (hpl : (backTo pos (starEach es X.env)).any (·.1) = false := by rfl) :
    PD X (.Call (.Name x p) (e :: es) [] pos) (dCB d tr) := by
  refine ⟨fun pins s σ H Q I ⟨G, ro, m, Qd, hs, hr, q, w⟩ => ?_⟩
  have h : lfA X.kf tr σ H fun vs H1 => lfSp X.kf d vs H1 Q E0 := ⟨G, ro, m, _, hs, hr, q, fun vs H1 G1 m1 ds s1 r1 h1 q1 => ⟨G1, ds, m1, Qd, h1, r1, q1, w.after s1⟩⟩
  refine wpAny_Call_Name_kw (ld_glob I hg hm ?_ hdb)
  exact PySem.W.callWith_K (h₀ := X.base) I.ok.mod.kin hk (thn (PA.run ha pos pins s σ H _ I h) fun us s1 ⟨vs, H1, I1, r, q⟩ => ⟨I1.kIn, run_D F room gd bd I1 r q⟩) he hpl
end
end Mn

set_option Elab.async false
set_option linter.all false
set_option maxRecDepth 100000
set_option maxHeartbeats 4000000
set_option autoImplicit false
namespace Mn
open PySem PySem.Spec PyProof.Rows L2
variable [Tbs]

/-- the law's own call, from the promise over data -/
theorem lawD {P : Program} {w : World} {K : PySem.W.Frag} {mg mb : Str → Option Value} {k : Nat} {fa a : Addr} {fd : FuncData} {x : Str} {d : DSp} {s₁ : Shared} {vs : List Value} {ns : List Int}
    (inK : K.In s₁.heap) (hns : s₁.heap.Ns mainGlobals mg) (hb : s₁.heap.Ns builtinsNs mb) (hbb : ∀ x : Str, x ≠ "__name__" → mb x = bootBuiltins x) (hlim : s₁.heap.NoLimit) (hg : s₁.gens = #[])
    (ha : s₁.heap.get? a = some { cls := .type "list", data := .seq vs.toArray }) (hi : IntsAre vs ns) (hl : ns.length ≤ sizeLine) (room : Room k callerA)
    (F : ∀ base : Heap, K.In base → base.Ns mainGlobals mg → FnD P w K mg base k fa fd [x] d) (hbind : ∀ (s : Shared) (u : Value), BindsTo s fd ⟨[u], []⟩ [(x, u)])
    (hd : ∀ Q : DK, (∀ m, Q (.bl true) m) → d [.scr (ns.map D.int)] (fun _ => none) Q) (hT : (Tbs.T : List (Addr × Str)) = []) :
    codeAny (model P w) callerA (.call (.ref fa) ⟨[.ref a], []⟩) (fun r s' => r = .ok (.ret (.bool true)) ∧ OldK s₁.heap s'.heap ∧ s'.os = s₁.os ∧ AllBare s'.gens) s₁ := by
  have vals := vals_ints hi
  have lenV := hi.length
  -- what is tracked: the script alone, if it is no object of the module
  have main : ∀ H : Hp, (∀ b u, H b = some u → b = a ∧ K.lookup a = none ∧ u = .frz { cls := .type "list", data := .seq vs.toArray } (.lst (ns.map V.int))) → SqL K H a (ns.map V.int) →
      codeAny (model P w) callerA (.call (.ref fa) ⟨[.ref a], []⟩) (fun r s' => r = .ok (.ret (.bool true)) ∧ OldK s₁.heap s'.heap ∧ s'.os = s₁.os ∧ AllBare s'.gens) s₁ := by
    intro H only hS
    have hok : HOk P w H s₁.heap := fun b u e => by
      obtain ⟨rfl, _, rfl⟩ := only b u e
      exact ⟨ha, by rw [List.length_map]; exact hl, vs, _, vals, ha⟩
    have hid : ∀ {b : Addr} {o : Obj} {es : Array DictEntry} {ep : Nat}, s₁.heap.get? b = some o → o.data = .dict es ep → H b = none := fun {b o es ep} e dd => by
      cases q : H b with
      | none => rfl
      | some u =>
        obtain ⟨rfl, _, _⟩ := only b u q
        rw [ha] at e; cases e
        exact nomatch (show Data.seq vs.toArray _ = Data.dict es ep from dd)
    have ns' : ∀ {b : Addr} {m : Str → Option Value}, s₁.heap.Ns b m → (hidT s₁.heap H).Ns b m := fun {b m} ⟨o, es, ep, e, dd, r⟩ => ⟨o, es, ep, hidT_get e (hid e dd), dd, r⟩
    have kb : K.In (hidT s₁.heap H) := fun b o e => hidT_get (inK b o e) (by
      cases q : H b with
      | none => rfl
      | some u => obtain ⟨rfl, nk, _⟩ := only b u q; rw [nk] at e; cases e)
    have md : Mod K mg (hidT s₁.heap H) := ⟨kb, ns' hns, ⟨mb, ns' hb, hbb⟩, let ⟨mc, h1, h2⟩ := hlim; ⟨mc, ns' h1, h2⟩⟩
    have e0 : Env0 P w K mg (hidT s₁.heap H) callerA [] s₁ H := ⟨rfl, md, fun b o e => of_hidT e, Nat.le_of_eq (hidT_size _ _), trivial, fun b z => absurd (show b ∈ ([] : List Addr) from z) (by simp), hok, .of_eq hg⟩
    have sp : lfSp ⟨K, w, Tbs.T⟩ d [.ref a] H (fun v _ => v = .bl true) (fun _ _ _ => False) := by
      refine ⟨H, [.scr (ns.map D.int)], fun _ => none, fun d' _ => d' = .bl true, .cons (.scr hS (RpL.ofInts ns) (by rw [List.length_map]; exact hl)) .nil, ⟨Same.refl _, (fun a o e => nomatch e), (fun t ht => by rw [show (⟨K, w, Tbs.T⟩ : KF).tabs = [] from hT] at ht; cases ht), (fun b ps e => by obtain ⟨_, _, e2⟩ := only b _ e; cases e2), (fun b ps e => by obtain ⟨_, _, e2⟩ := only b _ e; cases e2)⟩, hd _ fun _ => rfl, fun v H' G' m' d' _ _ rv e => ?_⟩
      subst e
      cases rv
      rfl
    refine codeAny_mono ((F _ kb (ns' hns)).run callerA [] s₁ H ⟨[.ref a], []⟩ [.ref a] [.ref a] _ _ room rfl e0 (hbind s₁ (.ref a)) (.cons rfl .nil) sp) fun r s' h => ?_
    cases r with
    | error e => exact False.elim h
    | ok fl => cases fl with
      | next => exact False.elim h
      | brk => exact False.elim h
      | cont => exact False.elim h
      | ret u =>
        obtain ⟨v, H', os, bare, un, hok', r', q⟩ := h
        obtain rfl : v = .bl true := q
        obtain rfl : u = Value.bool true := r'
        refine ⟨rfl, OldK.of_keep fun b o e => ?_, os, bare⟩
        cases q : H b with
        | none => exact un.keep b o e q (fun z => absurd (show b ∈ ([] : List Addr) from z) (by simp)) (by simp)
        | some u =>
          obtain ⟨rfl, _, rfl⟩ := only b u q
          obtain ⟨e1, _⟩ := hok b _ q
          obtain ⟨e2, _⟩ := hok' b _ (un.frzs b _ _ q)
          rw [e] at e1; cases e1
          exact e2
  cases hk : K.lookup a with
  | some o =>
    have e := inK a o hk
    rw [ha] at e
    cases e
    exact main (fun _ => none) (fun _ _ e => nomatch e) (.inr ⟨_, vs.toArray, _, hk, rfl, rfl, rfl, by rw [List.size_toArray, lenV]; exact hl, by simpa using vals⟩)
  | none =>
    refine main (fun b => if b = a then some (.frz { cls := .type "list", data := .seq vs.toArray } (.lst (ns.map V.int))) else none) (fun b u e => ?_) (.inl (.inr ⟨_, if_pos rfl⟩))
    by_cases hb : b = a
    · rw [if_pos hb] at e; cases e; exact ⟨hb, hk, rfl⟩
    · rw [if_neg hb] at e; cases e
end Mn

set_option Elab.async false
set_option linter.all false
set_option maxRecDepth 100000
set_option maxHeartbeats 4000000
set_option autoImplicit false
namespace Mn
open PySem PySem.Spec PyProof.Rows L2
variable [Tbs]

/-! zip over lists and tuples in any mix -/
def ItAt (k : Bool) (h : Heap) (it a : Addr) (i : Nat) : Prop := if k = true then h.IsListIter it a i else h.IsTupleIter it a i
def SqB (K : PySem.W.Frag) (k : Bool) (H : Hp) (a : Addr) (xs : List V) : Prop := if k = true then SqL K H a xs else SqT K H a xs
def IsB (k : Bool) (h : Heap) (a : Addr) (items : Array Value) : Prop := if k = true then h.IsList a items else h.IsTuple a items
theorem ItAt.at {k : Bool} {h h' : Heap} {it a : Addr} {i : Nat} (x : ItAt k h it a i) (q : ∀ o, h.get? it = some o → h'.get? it = some o) : ItAt k h' it a i := by
  cases k with
  | true => exact Heap.IsListIter.at (show h.IsListIter it a i from x) q
  | false => exact Heap.IsTupleIter.at (show h.IsTupleIter it a i from x) q
theorem ItAt.obj {k : Bool} {h : Heap} {it a : Addr} {i : Nat} (x : ItAt k h it a i) : ∃ o, h.get? it = some o ∧ ∀ v, o.data ≠ .cell v := by
  cases k with
  | true => obtain ⟨o, e, _, d⟩ := (show h.IsListIter it a i from x); exact ⟨o, e, fun v z => by rw [d] at z; cases z⟩
  | false => obtain ⟨o, e, _, d⟩ := (show h.IsTupleIter it a i from x); exact ⟨o, e, fun v z => by rw [d] at z; cases z⟩
section
variable {X : Cx} {pins : List (Addr × Obj)} {σ : L2.St} {H : Hp} {s : Shared}
theorem sqb_raw {k : Bool} {a : Addr} {xs : List V} (I : Inv X pins σ H s) (h : SqB X.K k H a xs) : ∃ its : List Value, Vals xs its ∧ IsB k s.heap a its.toArray ∧ xs.length ≤ sizeLine ∧ a < s.heap.objs.size := by
  cases k with
  | true =>
    obtain ⟨its, rv, p, hz⟩ := I.list h
    exact ⟨its, rv, p.isList, hz, p.lt⟩
  | false =>
    obtain ⟨its, rv, p, hz⟩ := I.tuple h
    exact ⟨its, rv, p, hz, p.lt⟩
theorem sqb_inj {k : Bool} {a : Addr} {xs ys : List V} (I : Inv X pins σ H s) (h : SqB X.K k H a xs) (h' : SqB X.K k H a ys) : xs = ys := by
  cases k with
  | true => exact I.list_inj h h'
  | false => exact I.tuple_inj h h'
end
theorem drawsB {prog : Program} {w : World} {A : Around} (hh : A.handled = none) (k : Bool) (it a : Addr) (hne : a ≠ it) (items : Array Value) :
    Draws prog w A it [it, a] items.size (fun i v => items[i]? = some v) (fun i h => ItAt k h it a i ∧ IsB k h a items) := by
  cases k with
  | true => exact Draws.list hh it a hne items
  | false => exact Draws.tuple hh it a hne items
def itObj (k : Bool) (a : Addr) : Obj := if k = true then { cls := .type "list_iterator", data := .fields #[.ref a, .int 0 0] } else { cls := .type "tuple_iterator", data := .fields #[.ref a, .int 0 0] }
theorem beginsB (k : Bool) (a : Addr) (items : Array Value) : Begins (.ref a) (itObj k a) fun h => IsB k h a items := by
  cases k with
  | true => exact begins_list a items
  | false => exact begins_tuple a items
theorem itObj_at {k : Bool} {h : Heap} {it a : Addr} (e : h.get? it = some (itObj k a)) : ItAt k h it a 0 := by
  cases k with
  | true => exact ⟨_, e, rfl, rfl⟩
  | false => exact ⟨_, e, rfl, rfl⟩
/-- the pairs -/
def Itz2 (K : PySem.W.Frag) (k1 k2 : Bool) (a b : Addr) : It :=
  ⟨fun i H => ∃ (xs ys : List V) (x y : V), SqB K k1 H a xs ∧ SqB K k2 H b ys ∧ xs[i]? = some x ∧ ys[i]? = some y,
    fun i H v H' => ∃ T x y, v = .ref T ∧ H T = none ∧ H' = upd H T (.tup [x, y]) ∧ (∀ xs, SqB K k1 H a xs → xs[i]? = some x) ∧ ∀ ys, SqB K k2 H b ys → ys[i]? = some y,
    fun i H => ∃ xs ys : List V, SqB K k1 H a xs ∧ SqB K k2 H b ys ∧ i = min xs.length ys.length⟩
theorem turn_z2 {P : Program} {w : World} {K : PySem.W.Frag} {elts : List Expr} {kk : Nat} {tpos : Pos} {k1 k2 : Bool} {a b z TI TO i1 i2 : Addr} (S : ZipSep2 z TI TO i1 i2 [i1, a] [i2, b]) (n1 : a ≠ i1) (n2 : b ≠ i2) :
    Turn P w K (.Tuple elts kk tpos) (Itz2 K k1 k2 a b) [z, TI, TO, i1, i2] z (fun i h => IsZip h z TI TO .none ∧ IsTupOf2 h TI (.ref i1) (.ref i2) ∧ (∃ x y, IsTupOf2 h TO x y) ∧ ItAt k1 h i1 a i ∧ ItAt k2 h i2 b i) where
  mem := by simp
  obj := fun i h ⟨hz, hTI, ⟨x, y, hTO⟩, h1, h2⟩ c hc => by
    have e' : c = z ∨ c = TI ∨ c = TO ∨ c = i1 ∨ c = i2 := by simpa using hc
    rcases e' with q | q | q | q | q <;> subst q
    · exact ⟨_, hz, fun v q => nomatch q⟩
    · exact ⟨_, hTI, fun v q => nomatch q⟩
    · exact ⟨_, hTO, fun v q => nomatch q⟩
    · exact h1.obj
    · exact h2.obj
  keep := fun i h h' ⟨hz, hTI, ⟨x, y, hTO⟩, h1, h2⟩ k => ⟨k z (by simp) _ hz, k TI (by simp) _ hTI, ⟨x, y, k TO (by simp) _ hTO⟩, h1.at fun o q => k i1 (by simp) o q, h2.at fun o q => k i2 (by simp) o q⟩
  item := by
    intro X hP hw hK hc i pins s σ H E I hf ⟨hz, hTI, ⟨x0, y0, hTO⟩, h1, h2⟩ ⟨xs, ys, x, y, hqx, hqy, hx, hy⟩
    subst hP hw hK
    obtain ⟨its, rv, p1, _, la⟩ := sqb_raw I hqx
    obtain ⟨its2, rv2, p2, _, lb⟩ := sqb_raw I hqy
    obtain ⟨u, hu, ru⟩ := rv.get hx
    obtain ⟨u2, hu2, ru2⟩ := rv2.get hy
    have hh : X.A.in1.handled = none := I.ok.hd hc
    have W := GoesN.zip2 (prog := X.prog) (w := X.w) (A := X.A) (elts := elts) (x1 := kk) (pos := tpos) S (drawsB hh k1 i1 a n1 its.toArray) (drawsB hh k2 i2 b n2 its2.toArray)
    have hl1 : i < its.toArray.size := by rw [List.size_toArray]; exact (List.getElem?_eq_some_iff.mp hu).1
    have hl2 : i < its2.toArray.size := by rw [List.size_toArray]; exact (List.getElem?_eq_some_iff.mp hu2).1
    refine wpAny_mono (W.goes i s (fun v s2 => ∃ xv H', Inv X pins σ H' s2 ∧ RelV xv v ∧ (Itz2 X.K k1 k2 a b).yld i H xv H' ∧ (IsZip s2.heap z TI TO .none ∧ IsTupOf2 s2.heap TI (.ref i1) (.ref i2) ∧ (∃ x y, IsTupOf2 s2.heap TO x y) ∧ ItAt k1 s2.heap i1 a (i + 1) ∧ ItAt k2 s2.heap i2 b (i + 1)) ∧ ∀ b ∈ [z, TI, TO, i1, i2], H' b = none) E (by omega) ⟨hz, hTI, ⟨x0, y0, hTO⟩, ⟨h1, p1⟩, h2, p2⟩ fun v h' tk hY st' hk htk => ?_) (fun r s1 h => h) fun _ _ h => h
    obtain ⟨T, xv, yv, rfl, hT, ex, ey, hTup⟩ := hY
    have ex' : xv = u := by
      have : its.toArray[i]? = some u := by simpa using hu
      rw [this] at ex; cases ex; rfl
    have ey' : yv = u2 := by
      have : its2.toArray[i]? = some u2 := by simpa using hu2
      rw [this] at ey; cases ey; rfl
    subst ex'; subst ey'
    have new : ObjOk X.prog X.w (upd H T (.tup [x, y])) h' T (.tup [x, y]) := ⟨by show 2 ≤ sizeLine; decide, [xv, yv], .cons ru (.cons ru2 .nil), hTup⟩
    have I1 : Inv X pins σ (upd H T (.tup [x, y])) { s with heap := h', toks := tk } := I.turnedNew (t' := tk) (ch := [z, TI, TO, i1, i2]) (fun c o hb q => hk c o (fun q' => hb (by
      have : c = z ∨ c = TO ∨ c = i1 ∨ c = i2 := by simpa using q'
      rcases this with q | q | q | q <;> simp [q])) q) hf hT new
    refine ⟨.ref T, _, I1, rfl, ⟨T, x, y, rfl, I.hok.fresh hT, rfl, fun l hl => by rw [sqb_inj I hl hqx]; exact hx, fun l hl => by rw [sqb_inj I hl hqy]; exact hy⟩, ⟨st'.1, st'.2.1, st'.2.2.1, st'.2.2.2.1.1, st'.2.2.2.2.1⟩, fun c hcm => ?_⟩
    have hlt : c < s.heap.objs.size := by
      have e' : c = z ∨ c = TI ∨ c = TO ∨ c = i1 ∨ c = i2 := by simpa using hcm
      rcases e' with q | q | q | q | q <;> subst q
      · exact Heap.lt_size hz
      · exact Heap.lt_size hTI
      · exact Heap.lt_size hTO
      · obtain ⟨_, e, _⟩ := h1.obj; exact Heap.lt_size e
      · obtain ⟨_, e, _⟩ := h2.obj; exact Heap.lt_size e
    rw [upd_ne (Nat.ne_of_lt (Nat.lt_of_lt_of_le hlt hT))]
    exact (hf c hcm).1
  done := by
    intro X hP hw hK hc i pins s σ H E I hf ⟨hz, hTI, ⟨x0, y0, hTO⟩, h1, h2⟩ ⟨xs, ys, hqx, hqy, hend⟩
    subst hP hw hK
    obtain ⟨its, rv, p1, _, la⟩ := sqb_raw I hqx
    obtain ⟨its2, rv2, p2, _, lb⟩ := sqb_raw I hqy
    have hh : X.A.in1.handled = none := I.ok.hd hc
    have W := GoesN.zip2 (prog := X.prog) (w := X.w) (A := X.A) (elts := elts) (x1 := kk) (pos := tpos) S (drawsB hh k1 i1 a n1 its.toArray) (drawsB hh k2 i2 b n2 its2.toArray)
    have e1 : i = min its.toArray.size its2.toArray.size := by rw [hend, List.size_toArray, List.size_toArray, rv.length, rv2.length]
    subst e1
    refine wpAny_mono (W.stops s (fun s1 => Inv X pins σ H s1) E ⟨hz, hTI, ⟨x0, y0, hTO⟩, ⟨h1, p1⟩, h2, p2⟩ fun h' tk hk htk => ?_) (fun r s1 h => h) fun _ _ h => h
    exact I.turnedL (t' := tk) (ch := [z, TI, TO, i1, i2]) (fun c o hb q => hk c o (fun q' => hb (by
      have : c = z ∨ c = TO ∨ c = i1 ∨ c = i2 := by simpa using q'
      rcases this with q | q | q | q <;> simp [q])) q) hf
  self := fun A i s Q E st h => wpAny_pyIter_zip st.1 h
theorem one_lt {a : Addr} {n : Nat} (h : a < n) : ∀ b ∈ [a], b < n := fun b hb => by
  have e : b = a := by simpa using hb
  rw [e]; exact h
/-- zip(e, e2) -/
def iZip2 (K : PySem.W.Frag) (ta : TA) : TI := fun σ H R => ta σ H fun vs H1 => ∃ k1 k2 a b xs ys, vs = [.ref a, .ref b] ∧ SqB K k1 H1 a xs ∧ SqB K k2 H1 b ys ∧ R (Itz2 K k1 k2 a b) H1
theorem pi_zip2 {X : Cx} {e e2 : Expr} {ta : TA} {p pos tpos : Pos} {elts : List Expr} {kk : Nat} (hg : Gl X "zip") (hm : X.mg "zip" = none) (ha : PA X [e, e2] ta)
    (hs : starEach [e, e2] X.env = (false, eval e X.env) :: starEach [e2] X.env := by rfl) (hpl : (backTo pos (starEach [e2] X.env)).any (·.1) = false := by rfl) :
    PI X (.Tuple elts kk tpos) (.Call (.Name "zip" p) [e, e2] [] pos) (iZip2 X.K ta) := by
  refine ⟨fun pins s σ H R I h => ?_⟩
  refine Call_ (ld_blt I hg hm PyProof.Rows.boot_zip (PyProof.Rows.callWith_type1 (thn (ha.run pos pins s σ H _ I h) fun us s1 ⟨vs, H1, I1, r1, q1⟩ => ?_) hs hpl))
  obtain ⟨k1, k2, a, b, xs, ys, ex, hqx, hqy, q⟩ := q1
  subst ex
  obtain ⟨u1, u2, rfl, ra, rb⟩ := vals2 r1
  cases ra; cases rb
  obtain ⟨its, rv, p1, _, la⟩ := sqb_raw I1 hqx
  obtain ⟨its2, rv2, p2, _, lb⟩ := sqb_raw I1 hqy
  refine zip_begins2 (beginsB k1 a its.toArray) (beginsB k2 b its2.toArray) p1 p2 fun h' hz hTI hTO h1 h2 hsz hk => wpAny_pyIter_zip hz ?_
  have I2 : Inv X pins σ H1 { s1 with heap := h' } := I1.kept (t' := s1.toks) hk
  have sep : ZipSep2 (s1.heap.objs.size + 4) (s1.heap.objs.size + 2) (s1.heap.objs.size + 3) s1.heap.objs.size (s1.heap.objs.size + 1) [s1.heap.objs.size, a] [s1.heap.objs.size + 1, b] :=
    zip_sep2 (fp1 := [a]) (fp2 := [b]) (one_lt la) (one_lt lb)
  refine ⟨s1.heap.objs.size + 4, [s1.heap.objs.size + 4, s1.heap.objs.size + 2, s1.heap.objs.size + 3, s1.heap.objs.size, s1.heap.objs.size + 1], _, _, H1, rfl, I2, turn_z2 sep (Nat.ne_of_lt la) (Nat.ne_of_lt (Nat.lt_succ_of_lt lb)), ⟨hz, hTI, ⟨_, _, hTO⟩, itObj_at h1, itObj_at h2⟩, fun c hc => ?_, q⟩
  have hle : s1.heap.objs.size ≤ c := by
    have e' : c = s1.heap.objs.size + 4 ∨ c = s1.heap.objs.size + 2 ∨ c = s1.heap.objs.size + 3 ∨ c = s1.heap.objs.size ∨ c = s1.heap.objs.size + 1 := by simpa using hc
    rcases e' with z | z | z | z | z <;> rw [z]
    · exact Nat.le_add_right _ _
    · exact Nat.le_add_right _ _
    · exact Nat.le_add_right _ _
    · exact Nat.le_refl _
    · exact Nat.le_add_right _ _
  exact I1.fpOk hle (I1.hok.fresh hle)
/-- three -/
def Itz3 (K : PySem.W.Frag) (k1 k2 k3 : Bool) (a b c : Addr) : It :=
  ⟨fun i H => ∃ (xs ys zs : List V) (x y z : V), SqB K k1 H a xs ∧ SqB K k2 H b ys ∧ SqB K k3 H c zs ∧ xs[i]? = some x ∧ ys[i]? = some y ∧ zs[i]? = some z,
    fun i H v H' => ∃ T x y z, v = .ref T ∧ H T = none ∧ H' = upd H T (.tup [x, y, z]) ∧ (∀ xs, SqB K k1 H a xs → xs[i]? = some x) ∧ (∀ ys, SqB K k2 H b ys → ys[i]? = some y) ∧ ∀ zs, SqB K k3 H c zs → zs[i]? = some z,
    fun i H => ∃ xs ys zs : List V, SqB K k1 H a xs ∧ SqB K k2 H b ys ∧ SqB K k3 H c zs ∧ i = min (min xs.length ys.length) zs.length⟩
theorem turn_z3 {P : Program} {w : World} {K : PySem.W.Frag} {elts : List Expr} {kk : Nat} {tpos : Pos} {k1 k2 k3 : Bool} {a b d z TI TO i1 i2 i3 : Addr} (S : ZipSep3 z TI TO i1 i2 i3 [i1, a] [i2, b] [i3, d]) (n1 : a ≠ i1) (n2 : b ≠ i2) (n3 : d ≠ i3) :
    Turn P w K (.Tuple elts kk tpos) (Itz3 K k1 k2 k3 a b d) [z, TI, TO, i1, i2, i3] z (fun i h => IsZip h z TI TO .none ∧ IsTupOf3 h TI (.ref i1) (.ref i2) (.ref i3) ∧ (∃ x y u, IsTupOf3 h TO x y u) ∧ ItAt k1 h i1 a i ∧ ItAt k2 h i2 b i ∧ ItAt k3 h i3 d i) where
  mem := by simp
  obj := fun i h ⟨hz, hTI, ⟨x, y, u, hTO⟩, h1, h2, h3⟩ c hc => by
    have e' : c = z ∨ c = TI ∨ c = TO ∨ c = i1 ∨ c = i2 ∨ c = i3 := by simpa using hc
    rcases e' with q | q | q | q | q | q <;> subst q
    · exact ⟨_, hz, fun v q => nomatch q⟩
    · exact ⟨_, hTI, fun v q => nomatch q⟩
    · exact ⟨_, hTO, fun v q => nomatch q⟩
    · exact h1.obj
    · exact h2.obj
    · exact h3.obj
  keep := fun i h h' ⟨hz, hTI, ⟨x, y, u, hTO⟩, h1, h2, h3⟩ k => ⟨k z (by simp) _ hz, k TI (by simp) _ hTI, ⟨x, y, u, k TO (by simp) _ hTO⟩, h1.at fun o q => k i1 (by simp) o q, h2.at fun o q => k i2 (by simp) o q, h3.at fun o q => k i3 (by simp) o q⟩
  item := by
    intro X hP hw hK hc i pins s σ H E I hf ⟨hz, hTI, ⟨x0, y0, u0, hTO⟩, h1, h2, h3⟩ ⟨xs, ys, zs, x, y, t, hqx, hqy, hqz, hx, hy, ht⟩
    subst hP hw hK
    obtain ⟨its, rv, p1, _, la⟩ := sqb_raw I hqx
    obtain ⟨its2, rv2, p2, _, lb⟩ := sqb_raw I hqy
    obtain ⟨its3, rv3, p3, _, lc⟩ := sqb_raw I hqz
    obtain ⟨u, hu, ru⟩ := rv.get hx
    obtain ⟨u2, hu2, ru2⟩ := rv2.get hy
    obtain ⟨u3, hu3, ru3⟩ := rv3.get ht
    have hh : X.A.in1.handled = none := I.ok.hd hc
    have W := GoesN.zip3 (prog := X.prog) (w := X.w) (A := X.A) (elts := elts) (x1 := kk) (pos := tpos) S (drawsB hh k1 i1 a n1 its.toArray) (drawsB hh k2 i2 b n2 its2.toArray) (drawsB hh k3 i3 d n3 its3.toArray)
    have hl1 : i < its.toArray.size := by rw [List.size_toArray]; exact (List.getElem?_eq_some_iff.mp hu).1
    have hl2 : i < its2.toArray.size := by rw [List.size_toArray]; exact (List.getElem?_eq_some_iff.mp hu2).1
    have hl3 : i < its3.toArray.size := by rw [List.size_toArray]; exact (List.getElem?_eq_some_iff.mp hu3).1
    refine wpAny_mono (W.goes i s (fun v s2 => ∃ xv H', Inv X pins σ H' s2 ∧ RelV xv v ∧ (Itz3 X.K k1 k2 k3 a b d).yld i H xv H' ∧ (IsZip s2.heap z TI TO .none ∧ IsTupOf3 s2.heap TI (.ref i1) (.ref i2) (.ref i3) ∧ (∃ x y u, IsTupOf3 s2.heap TO x y u) ∧ ItAt k1 s2.heap i1 a (i + 1) ∧ ItAt k2 s2.heap i2 b (i + 1) ∧ ItAt k3 s2.heap i3 d (i + 1)) ∧ ∀ b ∈ [z, TI, TO, i1, i2, i3], H' b = none) E (by omega) ⟨hz, hTI, ⟨x0, y0, u0, hTO⟩, ⟨h1, p1⟩, ⟨h2, p2⟩, h3, p3⟩ fun v h' tk hY st' hk htk => ?_) (fun r s1 h => h) fun _ _ h => h
    obtain ⟨T, xv, yv, zv, rfl, hT, ex, ey, ez, hTup⟩ := hY
    have ex' : xv = u := by
      have : its.toArray[i]? = some u := by simpa using hu
      rw [this] at ex; cases ex; rfl
    have ey' : yv = u2 := by
      have : its2.toArray[i]? = some u2 := by simpa using hu2
      rw [this] at ey; cases ey; rfl
    have ez' : zv = u3 := by
      have : its3.toArray[i]? = some u3 := by simpa using hu3
      rw [this] at ez; cases ez; rfl
    subst ex'; subst ey'; subst ez'
    have new : ObjOk X.prog X.w (upd H T (.tup [x, y, t])) h' T (.tup [x, y, t]) := ⟨by show 3 ≤ sizeLine; decide, [xv, yv, zv], .cons ru (.cons ru2 (.cons ru3 .nil)), hTup⟩
    have I1 : Inv X pins σ (upd H T (.tup [x, y, t])) { s with heap := h', toks := tk } := I.turnedNew (t' := tk) (ch := [z, TI, TO, i1, i2, i3]) (fun c o hb q => hk c o (fun q' => hb (by
      have : c = z ∨ c = TO ∨ c = i1 ∨ c = i2 ∨ c = i3 := by simpa using q'
      rcases this with q | q | q | q | q <;> simp [q])) q) hf hT new
    refine ⟨.ref T, _, I1, rfl, ⟨T, x, y, t, rfl, I.hok.fresh hT, rfl, fun l hl => by rw [sqb_inj I hl hqx]; exact hx, fun l hl => by rw [sqb_inj I hl hqy]; exact hy, fun l hl => by rw [sqb_inj I hl hqz]; exact ht⟩, ⟨st'.1, st'.2.1, st'.2.2.1, st'.2.2.2.1.1, st'.2.2.2.2.1.1, st'.2.2.2.2.2.1⟩, fun c hcm => ?_⟩
    have hlt : c < s.heap.objs.size := by
      have e' : c = z ∨ c = TI ∨ c = TO ∨ c = i1 ∨ c = i2 ∨ c = i3 := by simpa using hcm
      rcases e' with q | q | q | q | q | q <;> subst q
      · exact Heap.lt_size hz
      · exact Heap.lt_size hTI
      · exact Heap.lt_size hTO
      · obtain ⟨_, e, _⟩ := h1.obj; exact Heap.lt_size e
      · obtain ⟨_, e, _⟩ := h2.obj; exact Heap.lt_size e
      · obtain ⟨_, e, _⟩ := h3.obj; exact Heap.lt_size e
    rw [upd_ne (Nat.ne_of_lt (Nat.lt_of_lt_of_le hlt hT))]
    exact (hf c hcm).1
  done := by
    intro X hP hw hK hc i pins s σ H E I hf ⟨hz, hTI, ⟨x0, y0, u0, hTO⟩, h1, h2, h3⟩ ⟨xs, ys, zs, hqx, hqy, hqz, hend⟩
    subst hP hw hK
    obtain ⟨its, rv, p1, _, la⟩ := sqb_raw I hqx
    obtain ⟨its2, rv2, p2, _, lb⟩ := sqb_raw I hqy
    obtain ⟨its3, rv3, p3, _, lc⟩ := sqb_raw I hqz
    have hh : X.A.in1.handled = none := I.ok.hd hc
    have W := GoesN.zip3 (prog := X.prog) (w := X.w) (A := X.A) (elts := elts) (x1 := kk) (pos := tpos) S (drawsB hh k1 i1 a n1 its.toArray) (drawsB hh k2 i2 b n2 its2.toArray) (drawsB hh k3 i3 d n3 its3.toArray)
    have e1 : i = min (min its.toArray.size its2.toArray.size) its3.toArray.size := by rw [hend, List.size_toArray, List.size_toArray, List.size_toArray, rv.length, rv2.length, rv3.length]
    subst e1
    refine wpAny_mono (W.stops s (fun s1 => Inv X pins σ H s1) E ⟨hz, hTI, ⟨x0, y0, u0, hTO⟩, ⟨h1, p1⟩, ⟨h2, p2⟩, h3, p3⟩ fun h' tk hk htk => ?_) (fun r s1 h => h) fun _ _ h => h
    exact I.turnedL (t' := tk) (ch := [z, TI, TO, i1, i2, i3]) (fun c o hb q => hk c o (fun q' => hb (by
      have : c = z ∨ c = TO ∨ c = i1 ∨ c = i2 ∨ c = i3 := by simpa using q'
      rcases this with q | q | q | q | q <;> simp [q])) q) hf
  self := fun A i s Q E st h => wpAny_pyIter_zip st.1 h
def iZip3 (K : PySem.W.Frag) (ta : TA) : TI := fun σ H R => ta σ H fun vs H1 => ∃ k1 k2 k3 a b c xs ys zs, vs = [.ref a, .ref b, .ref c] ∧ SqB K k1 H1 a xs ∧ SqB K k2 H1 b ys ∧ SqB K k3 H1 c zs ∧ R (Itz3 K k1 k2 k3 a b c) H1
theorem pi_zip3 {X : Cx} {e e2 e3 : Expr} {ta : TA} {p pos tpos : Pos} {elts : List Expr} {kk : Nat} (hg : Gl X "zip") (hm : X.mg "zip" = none) (ha : PA X [e, e2, e3] ta)
    (hs : starEach [e, e2, e3] X.env = (false, eval e X.env) :: starEach [e2, e3] X.env := by rfl) (hpl : (backTo pos (starEach [e2, e3] X.env)).any (·.1) = false := by rfl) :
    PI X (.Tuple elts kk tpos) (.Call (.Name "zip" p) [e, e2, e3] [] pos) (iZip3 X.K ta) := by
  refine ⟨fun pins s σ H R I h => ?_⟩
  refine Call_ (ld_blt I hg hm PyProof.Rows.boot_zip (PyProof.Rows.callWith_type1 (thn (ha.run pos pins s σ H _ I h) fun us s1 ⟨vs, H1, I1, r1, q1⟩ => ?_) hs hpl))
  obtain ⟨k1, k2, k3, a, b, d, xs, ys, zs, ex, hqx, hqy, hqz, q⟩ := q1
  subst ex
  cases r1 with
  | cons ra r1 =>
  obtain ⟨u1, u2, rfl, rb, rc⟩ := vals2 r1
  cases ra; cases rb; cases rc
  obtain ⟨its, rv, p1, _, la⟩ := sqb_raw I1 hqx
  obtain ⟨its2, rv2, p2, _, lb⟩ := sqb_raw I1 hqy
  obtain ⟨its3, rv3, p3, _, lc⟩ := sqb_raw I1 hqz
  refine zip_begins3 (beginsB k1 a its.toArray) (beginsB k2 b its2.toArray) (beginsB k3 d its3.toArray) p1 p2 p3 fun h' hz hTI hTO h1 h2 h3 hsz hk => wpAny_pyIter_zip hz ?_
  have I2 : Inv X pins σ H1 { s1 with heap := h' } := I1.kept (t' := s1.toks) hk
  have sep : ZipSep3 (s1.heap.objs.size + 5) (s1.heap.objs.size + 3) (s1.heap.objs.size + 4) s1.heap.objs.size (s1.heap.objs.size + 1) (s1.heap.objs.size + 2) [s1.heap.objs.size, a] [s1.heap.objs.size + 1, b] [s1.heap.objs.size + 2, d] :=
    zip_sep3 (fp1 := [a]) (fp2 := [b]) (fp3 := [d]) (one_lt la) (one_lt lb) (one_lt lc)
  refine ⟨s1.heap.objs.size + 5, [s1.heap.objs.size + 5, s1.heap.objs.size + 3, s1.heap.objs.size + 4, s1.heap.objs.size, s1.heap.objs.size + 1, s1.heap.objs.size + 2], _, _, H1, rfl, I2,
    turn_z3 sep (Nat.ne_of_lt la) (Nat.ne_of_lt (Nat.lt_succ_of_lt lb)) (Nat.ne_of_lt (Nat.lt_succ_of_lt (Nat.lt_succ_of_lt lc))), ⟨hz, hTI, ⟨_, _, _, hTO⟩, itObj_at h1, itObj_at h2, itObj_at h3⟩, fun c hc => ?_, q⟩
  have hle : s1.heap.objs.size ≤ c := by
    have e' : c = s1.heap.objs.size + 5 ∨ c = s1.heap.objs.size + 3 ∨ c = s1.heap.objs.size + 4 ∨ c = s1.heap.objs.size ∨ c = s1.heap.objs.size + 1 ∨ c = s1.heap.objs.size + 2 := by simpa using hc
    rcases e' with z | z | z | z | z | z <;> rw [z]
    · exact Nat.le_add_right _ _
    · exact Nat.le_add_right _ _
    · exact Nat.le_add_right _ _
    · exact Nat.le_refl _
    · exact Nat.le_add_right _ _
    · exact Nat.le_add_right _ _
  exact I1.fpOk hle (I1.hok.fresh hle)
/-! over data -/
def seqB : D → Option (Bool × List D)
  | .lst ds => some (true, ds)
  | .tup ds => some (false, ds)
  | _ => none
def seqI (d : D) : Option (List D) := (seqB d).map (·.2)
theorem seqB_is {K : KF} {G : Hp} {d : D} {v : V} {ds : List D} (h : Rp K G d v) (e : seqI d = some ds) : ∃ k a vs, v = .ref a ∧ (∀ H, Same G H → SqB K k H a vs) ∧ RpL K G ds vs := by
  cases h with
  | tup h1 h2 h3 => cases e; exact ⟨false, _, _, rfl, fun H sm => (h1.sq sm _ : SqT K H _ _), h2⟩
  | lst h1 h2 h3 => cases e; exact ⟨true, _, _, rfl, fun H sm => (.inl (.inl (sm _ _ h1)) : SqL K H _ _), h2⟩
  | _ => cases e
def zip2 (xs ys : List D) : List D := List.zipWith (fun x y => .pair [x, y]) xs ys
def zip3 : List D → List D → List D → List D
  | x :: xs, y :: ys, z :: zs => .pair [x, y, z] :: zip3 xs ys zs
  | _, _, _ => []
def sZip2 (t u : DT) : DI := fun r m Q => t r m fun d m1 => u r m1 fun e m2 => ∃ xs ys, seqI d = some xs ∧ seqI e = some ys ∧ Q (zip2 xs ys) m2
def sZip3 (t u v : DT) : DI := fun r m Q => t r m fun d m1 => u r m1 fun e m2 => v r m2 fun f m3 => ∃ xs ys zs, seqI d = some xs ∧ seqI e = some ys ∧ seqI f = some zs ∧ Q (zip3 xs ys zs) m3
theorem zip3_get : ∀ (xs ys zs : List D) (i : Nat) (d : D), (zip3 xs ys zs)[i]? = some d → ∃ x y z, xs[i]? = some x ∧ ys[i]? = some y ∧ zs[i]? = some z ∧ d = .pair [x, y, z]
  | [], _, _, _, _, h => by simp [zip3] at h
  | _ :: _, [], _, _, _, h => by simp [zip3] at h
  | _ :: _, _ :: _, [], _, _, h => by simp [zip3] at h
  | x :: xs, y :: ys, z :: zs, 0, d, h => by simp [zip3] at h; exact ⟨x, y, z, rfl, rfl, rfl, h.symm⟩
  | x :: xs, y :: ys, z :: zs, i + 1, d, h => by
    rw [zip3, List.getElem?_cons_succ] at h
    simpa using zip3_get xs ys zs i d h
theorem zip3_len : ∀ (xs ys zs : List D), (zip3 xs ys zs).length = min (min xs.length ys.length) zs.length
  | [], _, _ => by simp [zip3]
  | _ :: _, [], _ => by simp [zip3]
  | _ :: _, _ :: _, [] => by simp [zip3]
  | x :: xs, y :: ys, z :: zs => by
    rw [zip3, List.length_cons, zip3_len xs ys zs, List.length_cons, List.length_cons, List.length_cons]
    omega
section
variable {K : KF}
theorem wk_z2 {G : Hp} {k1 k2 : Bool} {a b : Addr} {xs ys : List D} {us vs : List V} (h1 : ∀ H, Same G H → SqB K k1 H a us) (r1 : RpL K G xs us) (h2 : ∀ H, Same G H → SqB K k2 H b vs) (r2 : RpL K G ys vs) : Wk K G (Itz2 K k1 k2 a b) (zip2 xs ys) := by
  refine ⟨fun G1 H m i d sm rl e => ?_, fun G1 H m sm rl => ?_⟩
  · have q1 := h1 H (sm.trans rl.sub)
    have q2 := h2 H (sm.trans rl.sub)
    unfold zip2 at e
    rw [List.getElem?_zipWith] at e
    cases ex : xs[i]? with
    | none => rw [ex] at e; cases ys[i]? <;> cases e
    | some x => cases ey : ys[i]? with
      | none => rw [ex, ey] at e; cases e
      | some y =>
        rw [ex, ey] at e
        cases e
        obtain ⟨v, ev, rv⟩ := r1.get ex
        obtain ⟨u, eu, ru⟩ := r2.get ey
        refine ⟨⟨us, vs, v, u, q1, q2, ev, eu⟩, fun x' H' ⟨T, x1, y1, e1, hT, eH, f1, f2⟩ => ?_⟩
        have z1 := f1 us q1
        have z2 := f2 vs q2
        rw [ev] at z1; rw [eu] at z2
        cases z1; cases z2
        subst e1; subst eH
        obtain ⟨rl2, st2⟩ := rl.new hT (.tup [v, u])
        exact ⟨_, rl2, st2, .pair upd_same (.cons ((rv.same sm).same st2.g) (.cons ((ru.same sm).same st2.g) .nil)) (by show 2 ≤ sizeLine; decide)⟩
  · refine ⟨us, vs, h1 H (sm.trans rl.sub), h2 H (sm.trans rl.sub), ?_⟩
    unfold zip2
    rw [List.length_zipWith, r1.len, r2.len]
theorem wk_z3 {G : Hp} {k1 k2 k3 : Bool} {a b c : Addr} {xs ys zs : List D} {us vs ws : List V} (h1 : ∀ H, Same G H → SqB K k1 H a us) (r1 : RpL K G xs us) (h2 : ∀ H, Same G H → SqB K k2 H b vs) (r2 : RpL K G ys vs) (h3 : ∀ H, Same G H → SqB K k3 H c ws) (r3 : RpL K G zs ws) : Wk K G (Itz3 K k1 k2 k3 a b c) (zip3 xs ys zs) := by
  refine ⟨fun G1 H m i d sm rl e => ?_, fun G1 H m sm rl => ?_⟩
  · have q1 := h1 H (sm.trans rl.sub)
    have q2 := h2 H (sm.trans rl.sub)
    have q3 := h3 H (sm.trans rl.sub)
    obtain ⟨x, y, z, ex, ey, ez, rfl⟩ := zip3_get xs ys zs i d e
    obtain ⟨v, ev, rv⟩ := r1.get ex
    obtain ⟨u, eu, ru⟩ := r2.get ey
    obtain ⟨t, et, rt⟩ := r3.get ez
    refine ⟨⟨us, vs, ws, v, u, t, q1, q2, q3, ev, eu, et⟩, fun x' H' ⟨T, x1, y1, t1, e1, hT, eH, f1, f2, f3⟩ => ?_⟩
    have z1 := f1 us q1
    have z2 := f2 vs q2
    have z3 := f3 ws q3
    rw [ev] at z1; rw [eu] at z2; rw [et] at z3
    cases z1; cases z2; cases z3
    subst e1; subst eH
    obtain ⟨rl2, st2⟩ := rl.new hT (.tup [v, u, t])
    exact ⟨_, rl2, st2, .pair upd_same (.cons ((rv.same sm).same st2.g) (.cons ((ru.same sm).same st2.g) (.cons ((rt.same sm).same st2.g) .nil))) (by show 3 ≤ sizeLine; decide)⟩
  · refine ⟨us, vs, ws, h1 H (sm.trans rl.sub), h2 H (sm.trans rl.sub), h3 H (sm.trans rl.sub), ?_⟩
    rw [zip3_len, r1.len, r2.len, r3.len]
end
section
variable {X : Cx} {e e2 e3 : Expr} {t u v : DT} {p pos tpos : Pos} {elts : List Expr} {kk : Nat}
theorem pdi_zip2 (h1 : PD X e t) (h2 : PD X e2 u) (hg : Gl X "zip") (hm : X.mg "zip" = none)
    (hs : starEach [e, e2] X.env = (false, eval e X.env) :: starEach [e2] X.env := by rfl) (hs2 : starEach [e2] X.env = (false, eval e2 X.env) :: starEach [] X.env := by rfl) (hpl : (backTo pos (starEach [e2] X.env)).any (·.1) = false := by rfl) :
    PDI X (.Tuple elts kk tpos) (.Call (.Name "zip" p) [e, e2] [] pos) (sZip2 t u) := by
  refine piM (pi_zip2 hg hm (pa_cons h1 (pa_cons h2 pa_nil hs2) hs) hs hpl) fun s H R ⟨G, r, m, Q, hs, hr, q, w⟩ => ?_
  refine lf2 (K := X.kf) hs hr q fun x y dx dy H' G' m' st rl rx ry ⟨xs, ys, e1, e2, q1⟩ => ?_
  obtain ⟨k1, a, us, ea, ha, ra⟩ := seqB_is rx e1
  obtain ⟨k2, b, vs, eb, hb, rb⟩ := seqB_is ry e2
  subst ea; subst eb
  exact ⟨k1, k2, a, b, us, vs, rfl, ha _ rl.sub, hb _ rl.sub, w _ _ _ _ _ st rl (wk_z2 ha ra hb rb) q1⟩
theorem pdi_zip3 (h1 : PD X e t) (h2 : PD X e2 u) (h3 : PD X e3 v) (hg : Gl X "zip") (hm : X.mg "zip" = none)
    (hs : starEach [e, e2, e3] X.env = (false, eval e X.env) :: starEach [e2, e3] X.env := by rfl) (hs2 : starEach [e2, e3] X.env = (false, eval e2 X.env) :: starEach [e3] X.env := by rfl) (hs3 : starEach [e3] X.env = (false, eval e3 X.env) :: starEach [] X.env := by rfl) (hpl : (backTo pos (starEach [e2, e3] X.env)).any (·.1) = false := by rfl) :
    PDI X (.Tuple elts kk tpos) (.Call (.Name "zip" p) [e, e2, e3] [] pos) (sZip3 t u v) := by
  refine piM (pi_zip3 hg hm (pa_cons h1 (pa_cons h2 (pa_cons h3 pa_nil hs3) hs2) hs) hs hpl) fun s H R ⟨G, r, m, Q, hs, hr, q, w⟩ => ?_
  refine ⟨G, r, m, _, hs, hr, q, fun x H1 G1 m1 dx s1 r1 rx q1 => ?_⟩
  refine lf2 (K := X.kf) (hs.same s1.g) r1 q1 fun y z dy dz H' G' m' st rl ry rz ⟨xs, ys, zs, e1, e2, e3, q2⟩ => ?_
  obtain ⟨k1, a, us, ea, ha, ra⟩ := seqB_is (rx.same st.g) e1
  obtain ⟨k2, b, vs, eb, hb, rb⟩ := seqB_is ry e2
  obtain ⟨k3, c, ws, ec, hc, rc⟩ := seqB_is rz e3
  subst ea; subst eb; subst ec
  exact ⟨k1, k2, k3, a, b, c, us, vs, ws, rfl, ha _ rl.sub, hb _ rl.sub, hc _ rl.sub, w _ _ _ _ _ (s1.trans st) rl (wk_z3 ha ra hb rb hc rc) q2⟩
end
end Mn

set_option Elab.async false
set_option linter.all false
set_option maxRecDepth 100000
set_option maxHeartbeats 4000000
set_option autoImplicit false
namespace Mn
open PySem PySem.Spec PyProof.Rows L2
variable [Tbs]
/-! enumerate(x) -/
theorem meets_enum1 {v : Value} {o : Obj} {H : Heap → Prop} (B : Begins v o H) :
    Meets (Builtin.«enumerate.__new__» ⟨[.type "enumerate", v], []⟩) (fun _ R s => H s.heap ∧
      R (.ok (.ret (.ref (s.heap.push o).objs.size))) { s with heap := (s.heap.push o).push { cls := .type "enumerate", data := .fields #[.none, .bool false, .ref s.heap.objs.size, rawInt 0, .none, .none] } }) :=
  .of_wp fun prog w A R s ⟨h1, h⟩ => by
    obtain ⟨hp, g, d, tk, os⟩ := s
    have hsub := sub_enumerate
    have go : ∀ {A' : Around} {E : Value → Shared → Prop} {Q : Value → Shared → Prop}, Q (.ref hp.objs.size) ⟨hp.push o, g, d, tk, os⟩ → wpAny (model prog w) A' (pyIter v) Q E ⟨hp, g, d, tk, os⟩ :=
      fun q => B.iter prog w _ _ ⟨hp, g, d, tk, os⟩ _ h1 q
    wp_walk using go
    refine wpAny_stack_any fun st => wpAny_pure ?_
    split
    · rename_i c _ _ _ _ _
      cases (c == Value.type "enumerate") <;> (wp_walk using go; exact ⟨_, rfl, h⟩)
    · wp_walk using go
      exact ⟨_, rfl, h⟩
theorem enum_one {prog : Program} {w : World} {A : Around} {E : Value → Shared → Prop} {s : Shared} {v : Value} {o : Obj} {H : Heap → Prop} {Q : Value → Shared → Prop} (B : Begins v o H) (h1 : H s.heap)
    (h : ∀ h', IsEnum h' (s.heap.objs.size + 1) s.heap.objs.size 0 .none → h'.get? s.heap.objs.size = some o → h'.objs.size = s.heap.objs.size + 2 → (∀ b o, s.heap.get? b = some o → h'.get? b = some o) → Q (.ref (s.heap.objs.size + 1)) { s with heap := h' }) :
    wpAny (model prog w) A (call (.type "enumerate") [v]) Q E s := by
  refine callType_new F.called_enumerate (by decide) (F.typeCall_enumerate_1 _) (F.newCall_enumerate_1 _) (fun obj => F.args_object_init_2 obj _) F.entry_enumerate_new (meets_enum1 B) ⟨h1, ?_⟩
  have sz : (s.heap.push o).objs.size = s.heap.objs.size + 1 := Heap.size_push ..
  show _ ∧ _
  rw [sz]
  have en : IsEnum ((s.heap.push o).push { cls := .type "enumerate", data := .fields #[.none, .bool false, .ref s.heap.objs.size, rawInt 0, .none, .none] }) (s.heap.objs.size + 1) s.heap.objs.size 0 .none := by
    have z := Heap.get?_push_size (s.heap.push o) (o := { cls := .type "enumerate", data := .fields #[.none, .bool false, .ref s.heap.objs.size, rawInt 0, .none, .none] }) rfl
    rw [sz] at z; exact z
  exact ⟨⟨_, en, rfl⟩, h _ en (Heap.get?_push_of_some _ (Heap.get?_push_size _ B.free)) (by rw [Heap.size_push, sz]) fun b o x => Heap.get?_push_of_some _ (Heap.get?_push_of_some _ x)⟩
def IteB (K : PySem.W.Frag) (k : Bool) (a : Addr) : It :=
  ⟨fun i H => ∃ (xs : List V) (x : V), SqB K k H a xs ∧ xs[i]? = some x, fun i H v H' => ∃ T x, v = .ref T ∧ H T = none ∧ H' = upd H T (.tup [.int (i : Nat), x]) ∧ ∀ xs, SqB K k H a xs → xs[i]? = some x, fun i H => ∃ xs : List V, SqB K k H a xs ∧ i = xs.length⟩
theorem turn_en {P : Program} {w : World} {K : PySem.W.Frag} {elts : List Expr} {kk : Nat} {tpos : Pos} {k : Bool} {a e it : Addr} (n1 : a ≠ it) (n2 : e ≠ it) (n3 : e ≠ a) :
    Turn P w K (.Tuple elts kk tpos) (IteB K k a) [e, it] e (fun i h => (∃ old, IsEnum h e it (0 + ((i : Nat) : Int)) old) ∧ ItAt k h it a i) where
  mem := by simp
  obj := fun i h ⟨⟨old, he⟩, h1⟩ c hc => by
    have e' : c = e ∨ c = it := by simpa using hc
    rcases e' with q | q <;> subst q
    · exact ⟨_, he, fun v q => nomatch q⟩
    · exact h1.obj
  keep := fun i h h' ⟨⟨old, he⟩, h1⟩ q => ⟨⟨old, q e (by simp) _ he⟩, h1.at fun o z => q it (by simp) o z⟩
  item := by
    intro X hP hw hK hc i pins s σ H E I hf ⟨⟨old, he⟩, h1⟩ ⟨xs, x, hqx, hx⟩
    subst hP hw hK
    obtain ⟨its, rv, p1, _, la⟩ := sqb_raw I hqx
    obtain ⟨u, hu, ru⟩ := rv.get hx
    have hh : X.A.in1.handled = none := I.ok.hd hc
    have W := GoesN.enumFrom (prog := X.prog) (w := X.w) (A := X.A) (elts := elts) (x1 := kk) (pos := tpos) 0 (drawsB hh k it a n1 its.toArray) e n2 (by simp [n2, n3]) (by simp)
    have hl1 : i < its.toArray.size := by rw [List.size_toArray]; exact (List.getElem?_eq_some_iff.mp hu).1
    refine wpAny_mono (W.goes i s (fun v s2 => ∃ xv H', Inv X pins σ H' s2 ∧ RelV xv v ∧ (IteB X.K k a).yld i H xv H' ∧ ((∃ old, IsEnum s2.heap e it (0 + ((i + 1 : Nat) : Int)) old) ∧ ItAt k s2.heap it a (i + 1)) ∧ ∀ b ∈ [e, it], H' b = none) E hl1 ⟨⟨old, he⟩, h1, p1⟩ fun v h' tk hY st' hk htk => ?_) (fun r s1 h => h) fun _ _ h => h
    obtain ⟨T, t, xv, rfl, hT, ex, hTup⟩ := hY
    have ex' : xv = u := by
      have : its.toArray[i]? = some u := by simpa using hu
      rw [this] at ex; cases ex; rfl
    subst ex'
    rw [Int.zero_add] at hTup
    have new : ObjOk X.prog X.w (upd H T (.tup [.int (i : Nat), x])) h' T (.tup [.int (i : Nat), x]) := ⟨by show 2 ≤ sizeLine; decide, [.int (i : Nat) t, xv], .cons ⟨_, rfl⟩ (.cons ru .nil), hTup⟩
    have I1 : Inv X pins σ (upd H T (.tup [.int (i : Nat), x])) { s with heap := h', toks := tk } := I.turnedNew (t' := tk) (ch := [e, it]) (fun c o hb q => hk c o hb q) hf hT new
    refine ⟨.ref T, _, I1, rfl, ⟨T, x, rfl, I.hok.fresh hT, rfl, fun l hl => by rw [sqb_inj I hl hqx]; exact hx⟩, ⟨st'.1, st'.2.1⟩, fun c hcm => ?_⟩
    have hlt : c < s.heap.objs.size := by
      have e' : c = e ∨ c = it := by simpa using hcm
      rcases e' with q | q <;> subst q
      · exact Heap.lt_size he
      · obtain ⟨_, z, _⟩ := h1.obj; exact Heap.lt_size z
    rw [upd_ne (Nat.ne_of_lt (Nat.lt_of_lt_of_le hlt hT))]
    exact (hf c hcm).1
  done := by
    intro X hP hw hK hc i pins s σ H E I hf ⟨⟨old, he⟩, h1⟩ ⟨xs, hqx, hend⟩
    subst hP hw hK
    obtain ⟨its, rv, p1, _, la⟩ := sqb_raw I hqx
    have hh : X.A.in1.handled = none := I.ok.hd hc
    have W := GoesN.enumFrom (prog := X.prog) (w := X.w) (A := X.A) (elts := elts) (x1 := kk) (pos := tpos) 0 (drawsB hh k it a n1 its.toArray) e n2 (by simp [n2, n3]) (by simp)
    have e1 : i = its.toArray.size := by rw [hend, List.size_toArray, rv.length]
    subst e1
    refine wpAny_mono (W.stops s (fun s1 => Inv X pins σ H s1) E ⟨⟨old, he⟩, h1, p1⟩ fun h' tk hk htk => ?_) (fun r s1 h => h) fun _ _ h => h
    exact I.turnedL (t' := tk) (ch := [e, it]) (fun c o hb q => hk c o hb q) hf
  self := fun A i s Q E ⟨⟨_, he⟩, _⟩ h => wpAny_pyIter_enum he h
def iEnB (K : PySem.W.Frag) (te : TE) : TI := fun σ H R => te σ H fun v H1 => ∃ k a xs, v = .ref a ∧ SqB K k H1 a xs ∧ R (IteB K k a) H1
theorem pi_en {X : Cx} {e : Expr} {te : TE} {p pos tpos : Pos} {elts : List Expr} {kk : Nat} (hg : Gl X "enumerate") (hm : X.mg "enumerate" = none) (ha : PE X e te)
    (hs : starEach [e] X.env = (false, eval e X.env) :: starEach [] X.env := by rfl) : PI X (.Tuple elts kk tpos) (.Call (.Name "enumerate" p) [e] [] pos) (iEnB X.K te) := by
  refine ⟨fun pins s σ H R I h => ?_⟩
  refine Call_ (ld_blt I hg hm boot_enumerate (PyProof.Rows.callWith_type1 (PyProof.Rows.args_cons (thn (ha.run pins s σ H _ I h) fun v s1 ⟨x, H1, I1, r1, q1⟩ => PyProof.Rows.args_nil ?_) hs) hs rfl))
  obtain ⟨k, a, xs, ex, hqx, q⟩ := q1
  subst ex
  cases r1
  obtain ⟨its, rv, p1, _, la⟩ := sqb_raw I1 hqx
  refine enum_one (beginsB k a its.toArray) p1 fun h' he h1 hsz hk => wpAny_pyIter_enum he ?_
  have I2 : Inv X pins σ H1 { s1 with heap := h' } := I1.kept (t' := s1.toks) hk
  refine ⟨s1.heap.objs.size + 1, [s1.heap.objs.size + 1, s1.heap.objs.size], _, _, H1, rfl, I2, turn_en (Nat.ne_of_lt la) (Nat.succ_ne_self _) (Nat.ne_of_gt (Nat.lt_succ_of_lt la)), ⟨⟨.none, he⟩, itObj_at h1⟩, fun c hc => ?_, q⟩
  have hle : s1.heap.objs.size ≤ c := by
    have e' : c = s1.heap.objs.size + 1 ∨ c = s1.heap.objs.size := by simpa using hc
    rcases e' with z | z <;> rw [z]
    · exact Nat.le_add_right _ _
    · exact Nat.le_refl _
  exact I1.fpOk hle (I1.hok.fresh hle)
def enumD : Nat → List D → List D
  | _, [] => []
  | i, d :: ds => .pair [.int (i : Nat), d] :: enumD (i + 1) ds
theorem enumD_get : ∀ (ds : List D) (j i : Nat), (enumD j ds)[i]? = (ds[i]?).map fun d => D.pair [.int ((j + i : Nat) : Int), d]
  | [], _, _ => by simp [enumD]
  | d :: ds, j, 0 => by simp [enumD]
  | d :: ds, j, i + 1 => by
    rw [enumD, List.getElem?_cons_succ, List.getElem?_cons_succ, enumD_get ds (j + 1) i]
    have e : j + 1 + i = j + (i + 1) := by omega
    rw [e]
theorem enumD_len : ∀ (ds : List D) (j : Nat), (enumD j ds).length = ds.length
  | [], _ => rfl
  | d :: ds, j => by rw [enumD, List.length_cons, List.length_cons, enumD_len ds (j + 1)]
def sEnum (t : DT) : DI := fun r m Q => t r m fun d m1 => ∃ xs, seqI d = some xs ∧ Q (enumD 0 xs) m1
theorem wk_en {K : KF} {G : Hp} {k : Bool} {a : Addr} {xs : List D} {us : List V} (h1 : ∀ H, Same G H → SqB K k H a us) (r1 : RpL K G xs us) : Wk K G (IteB K k a) (enumD 0 xs) := by
  refine ⟨fun G1 H m i d sm rl e => ?_, fun G1 H m sm rl => ?_⟩
  · have q1 := h1 H (sm.trans rl.sub)
    rw [enumD_get] at e
    cases ex : xs[i]? with
    | none => rw [ex] at e; cases e
    | some x =>
      rw [ex, Nat.zero_add] at e
      cases e
      obtain ⟨v, ev, rv⟩ := r1.get ex
      refine ⟨⟨us, v, q1, ev⟩, fun x' H' ⟨T, x1, e1, hT, eH, f1⟩ => ?_⟩
      have z1 := f1 us q1
      rw [ev] at z1
      cases z1
      subst e1; subst eH
      obtain ⟨rl2, st2⟩ := rl.new hT (.tup [.int (i : Nat), v])
      exact ⟨_, rl2, st2, .pair upd_same (.cons (.int _) (.cons ((rv.same sm).same st2.g) .nil)) (by show 2 ≤ sizeLine; decide)⟩
  · refine ⟨us, h1 H (sm.trans rl.sub), ?_⟩
    rw [enumD_len, r1.len]
theorem pdi_enum {X : Cx} {e : Expr} {t : DT} {p pos tpos : Pos} {elts : List Expr} {kk : Nat} (h1 : PD X e t) (hg : Gl X "enumerate") (hm : X.mg "enumerate" = none)
    (hs : starEach [e] X.env = (false, eval e X.env) :: starEach [] X.env := by rfl) : PDI X (.Tuple elts kk tpos) (.Call (.Name "enumerate" p) [e] [] pos) (sEnum t) := by
  refine piM (pi_en hg hm h1 hs) fun s H R ⟨G, r, m, Q, hs, hr, q, w⟩ => ?_
  refine ⟨G, r, m, _, hs, hr, q, fun x H1 G1 m1 dx s1 r1 rx ⟨xs, e1, q1⟩ => ?_⟩
  obtain ⟨k1, a, us, ea, ha, ra⟩ := seqB_is rx e1
  subst ea
  exact ⟨k1, a, us, rfl, ha _ r1.sub, w _ _ _ _ _ s1 r1 (wk_en ha ra) q1⟩
end Mn

set_option Elab.async false
set_option linter.all false
set_option maxRecDepth 100000
set_option maxHeartbeats 4000000
set_option autoImplicit false
namespace Mn
open PySem PySem.Spec PyProof.Rows L2
variable [Tbs]
section
variable {X : Cx} {elt tg iter : Expr} {ifs : List Expr} {scope : Scope} {own : List (Str × Nat)} {pos spos py : Pos} {src : DI} {g : TG} {dg : DG} {tt : DB} {te : DT} {i : Nat} {y : Str}
theorem pds_setLc (hc : X.calm = true) (hN : X.N.Nodup) (hy : X.N[i]? = some y) (hyl : X.env.scope.names.lookup y = some .local)
    (hsw : swapsWith (.ListComp elt [⟨tg, iter, ifs, 0⟩] scope pos) (some (.Name y py)) spos.line X.env = pure true) (hi : PDI X tg iter src) (ok : BlkOk X.N X.env.scope scope own) (gc : GC X.kf g dg (own.map (·.2)))
    (hg : ∀ (s : Shared) (H : Hp) (C : Addr) (cl : List (Str × Addr)) (fp : List Addr), PG (X.blk s H scope (compEnvC scope cl C X.env) fp) tg g) (ht : ∀ (s : Shared) (H : Hp) (C : Addr) (cl : List (Str × Addr)) (fp : List Addr), PDTs (X.blk s H scope (compEnvC scope cl C X.env) fp) ifs tt)
    (he : ∀ (s : Shared) (H : Hp) (C : Addr) (cl : List (Str × Addr)) (fp : List Addr), PD (X.blk s H scope (compEnvC scope cl C X.env) fp) elt te) (hs : ∀ x, foldedSetIterable iter X.env x = pure x := by intro _; rfl) :
    PDS X (.Assign [.Name y py] (.ListComp elt [⟨tg, iter, ifs, 0⟩] scope pos) spos) (xAsg (dLc src (own.map (·.2)) dg tt te) (gV i)) :=
  psM (ps_setLc (tt := lfB X.kf tt) (te := lf X.kf te) hc hN hy hyl hsw hi ok hg ht he hs) fun _ _ _ h => lc_frz gc (lfAsg (vs := [i]) (gc_name (by simp)) h)
end
/-! a whole number that the top has named; a def of the top; a def that keeps its promise -/
def Ci (mg : Str → Option Value) (x : Str) (v : Int) : Prop := ∃ t, mg x = some (.int v t)
def Cs (mg : Str → Option Value) (x : Str) (v : Str) : Prop := ∃ t, mg x = some (.str v t)
theorem pd_globI {X : Cx} {x : Str} {v : Int} {pos : Pos} (h : Ci X.mg x v) (hg : Gl X x) (hd : (x == ("__debug__" : Str)) = false := by decide) : PD X (.Name x pos) (dC (.int v)) := by
  obtain ⟨t, e⟩ := h
  exact pd_of (pe_glob (v := .int v) hg e ⟨_, rfl⟩ hd) fun _ => .int v
theorem pd_globS {X : Cx} {x : Str} {v : Str} {pos : Pos} (h : Cs X.mg x v) (hg : Gl X x) (hd : (x == ("__debug__" : Str)) = false := by decide) : PD X (.Name x pos) (dC (.str v)) := by
  obtain ⟨t, e⟩ := h
  exact pd_of (pe_glob (v := .str v) hg e ⟨_, rfl⟩ hd) fun _ => .str v
structure Df (K : PySem.W.Frag) (mg : Str → Option Value) (x : Str) (st : Stmt) (ps : List Str) (f : Addr) (fd : FuncData) : Prop where
  F : Fun K x x st f fd
  g : mg x = some (.ref f)
  b : Binds K fd ps []
def Cl (P : Program) (w : World) (K : PySem.W.Frag) (mg : Str → Option Value) (base : Heap) (x : Str) (k : Nat) (ps : List Str) (d : DSp) : Prop :=
  ∃ f fd, mg x = some (.ref f) ∧ PySem.W.keepIn K (.ref f) = true ∧ Binds K fd ps [] ∧ FnD P w K mg base k f fd ps d
theorem fnC {P : Program} {w : World} {K : PySem.W.Frag} {mg : Str → Option Value} {base : Heap} {x : Str} {st : Stmt} {N ps : List Str} {k : Nat} {t : DS} {d : DSp} (h : ∃ f fd, Df K mg x st ps f fd) (S : FnScope N ps (defScope st)) (hl : ∀ ds m Q, d ds m Q → ds.length = ps.length) (hb : Body N.length t d)
    (der : ∀ (f : Addr) (cdv : Value) (A : Around) (outer : List Env) (s : Shared) (H : Hp) (E : XK), A.guards = some [] → Room k (A.deeper (envOfC x (defScope st) s.heap.objs.size f cdv)) → PDSs (cxOf CX0 P w K mg base N x (defScope st) f cdv A outer s H E).nox (defBody st) t) :
    Cl P w K mg base x (k + 1) ps d := by
  obtain ⟨f, fd, Dd⟩ := h
  refine ⟨f, fd, Dd.g, Dd.F.kp, Dd.b, ?_⟩
  obtain ⟨oc, od, kV, doc, pm, an, cdv, ct, osl, rfl, lk, hcd⟩ := Dd.F.ex
  refine gn_of lk hcd S (fun vs H Q E ⟨G, ds, m, Qd, rp, rl, q, w⟩ => by rw [← rp.len]; exact hl _ _ _ q) fun A outer s H vs Q E room gd h => ?_
  exact ⟨_, PSs.nox (der f cdv A outer s H E gd room), lfS_start hb h⟩
theorem pd_callC {X : Cx} {k : Nat} {ps : List Str} {d : DSp} {x : Str} {p pos : Pos} {e : Expr} {es : List Expr} {tr : DA} (C : Cl X.prog X.w X.K X.mg X.base x k ps d) (room : Room k X.A) (gd : X.A.guards = some []) (hg : Gl X x)
    (ha : PDA X (e :: es) tr) (hdb : (x == ("__debug__" : Str)) = false := by decide) (he : starEach (e :: es) X.env = (false, eval e X.env) :: starEach es X.env := by rfl) (hpl : (backTo pos (starEach es X.env)).any (·.1) = false := by rfl) :
    PD X (.Call (.Name x p) (e :: es) [] pos) (dCB d tr) := by
  obtain ⟨f, fd, hm, hk, bd, F⟩ := C
  exact pd_call F room gd hg hm hk bd ha hdb he hpl
/-- the built-in names are the built-in things -/
structure Bts (mg : Str → Option Value) : Prop where
  len : mg "len" = none
  isi : mg "isinstance" = none
  int : mg "int" = none
  bool : mg "bool" = none
  str : mg "str" = none
  tuple : mg "tuple" = none
  list : mg "list" = none
  dict : mg "dict" = none
  set : mg "set" = none
  all : mg "all" = none
  any : mg "any" = none
  sum : mg "sum" = none
  max : mg "max" = none
  min : mg "min" = none
  zip : mg "zip" = none
  range : mg "range" = none
  enum : mg "enumerate" = none
  repr : mg "repr" = none
  sorted : mg "sorted" = none
end Mn

set_option Elab.async false
set_option linter.all false
set_option maxRecDepth 100000
set_option maxHeartbeats 4000000
set_option autoImplicit false
namespace Mn
open PySem PySem.Spec PyProof.Rows L2
variable [Tbs]
theorem _root_.L2.Room.u65 {k : Nat} {A : Around} (r : Room k A) : A.units + 65 < cLine := by have := r.un; omega
/-! keys in the abstract heap -/
mutual
inductive KyH (H : Hp) : NestedKey → V → Prop
  | non : KyH H .none .non
  | num (i : Int) : KyH H (.num i) (.int i)
  | text (x : Str) : KyH H (.text x) (.str x)
  | tup {a : Addr} {vs : List V} {ks : List NestedKey} : Rd H a (.tup vs) → KyAll H ks vs → KyH H (.tup ks) (.ref a)
inductive KyAll (H : Hp) : List NestedKey → List V → Prop
  | nil : KyAll H [] []
  | cons {k : NestedKey} {v : V} {ks : List NestedKey} {vs : List V} : KyH H k v → KyAll H ks vs → KyAll H (k :: ks) (v :: vs)
end
section
variable {X : Cx} {pins : List (Addr × Obj)} {σ : L2.St} {H : Hp} {s : Shared}
mutual
theorem KyH.is (I : Inv X pins σ H s) : ∀ {k : NestedKey} {v : V} {u : Value}, KyH H k v → RelV v u → NestedIs s.heap k u
  | _, _, _, .non, r => by cases r; exact .none
  | _, _, _, .num i, r => by obtain ⟨t, rfl⟩ := r; exact .int i t
  | _, _, _, .text x, r => by obtain ⟨t, rfl⟩ := r; exact .text x t
  | _, _, _, .tup h q, r => by
    cases r
    obtain ⟨_, its, rv, o, ho, hc, n, hd⟩ := h.ok I.hok
    exact .tup ho hc hd (by simpa using KyAll.is I q rv)
theorem KyAll.is (I : Inv X pins σ H s) : ∀ {ks : List NestedKey} {vs : List V} {us : List Value}, KyAll H ks vs → Vals vs us → NestedAll s.heap ks us
  | _, _, _, .nil, r => by cases r; exact .nil
  | _, _, _, .cons h q, r => by
    cases r with
    | cons r1 r2 => exact .cons (KyH.is I h r1) (KyAll.is I q r2)
end
end
section
variable {K : KF} {G H : Hp}
mutual
theorem ky_of (e : Same G H) : ∀ {k : NestedKey} {v : V}, Rp K G (keyD k) v → KyH H k v
  | .none, v, h => by rw [keyD] at h; cases h; exact .non
  | .num i, v, h => by rw [keyD] at h; cases h; exact .num i
  | .text x, v, h => by rw [keyD] at h; cases h; exact .text x
  | .tup ks, v, h => by
    rw [keyD] at h
    cases h with
    | tup h1 h2 _ =>
      obtain ⟨o, _, q⟩ := h1
      exact .tup (.inr ⟨o, e _ _ q⟩) (kys_of e h2)
theorem kys_of (e : Same G H) : ∀ {ks : List NestedKey} {vs : List V}, RpL K G (keyDs ks) vs → KyAll H ks vs
  | [], _, h => by rw [keyDs] at h; cases h; exact .nil
  | k :: ks, _, h => by
    rw [keyDs] at h
    cases h with
    | cons h1 h2 => exact .cons (ky_of e h1) (kys_of e h2)
end
end
/-! the dict in the abstract heap -/
abbrev Row3 := List (NestedKey × Addr × V)
abbrev PairX : Row3 → List (NestedKey × Addr × Value) → Prop := Paired fun (p : NestedKey × Addr × V) (q : NestedKey × Addr × Value) => p.1 = q.1 ∧ p.2.1 = q.2.1 ∧ RelV p.2.2 q.2.2
structure DN (wd : World) (H : Hp) (a : Addr) (xs : Row3) : Prop where
  at_ : H a = some (.ext (dictAt wd a xs)) ∨ ∃ o, H a = some (.frz o (.ext (dictAt wd a xs)))
  ns : (a == sysModules) = false
  nd : (xs.map (·.1)).Nodup
  ks : ∀ x ∈ xs, KyH H x.1 (.ref x.2.1) ∧ x.1.depth ≤ 8
  sz : xs.length ≤ sizeLine
def atV (xs : Row3) (k : NestedKey) : Option V := (xs.find? fun x => decide (x.1 = k)).map (·.2.2)
def putV (xs : Row3) (k : NestedKey) (b : Addr) (v : V) : Row3 := if (atV xs k).isSome = true then xs.map (fun x => if x.1 = k then (x.1, x.2.1, v) else x) else xs ++ [(k, b, v)]
theorem pairX_at {k : NestedKey} : ∀ {xs : Row3} {vs : List (NestedKey × Addr × Value)}, PairX xs vs → RelO (atV xs k) ((atKey vs k).map (·.2))
  | _, _, .nil => by simp [atV, atKey, RelO]
  | x :: xs, y :: vs, .cons h r => by
    obtain ⟨e1, e2, e3⟩ := h
    by_cases hk : x.1 = k
    · have hk2 : y.1 = k := e1 ▸ hk
      simp only [atV, atKey, List.find?_cons, hk, hk2, decide_true, Option.map_some, RelO]
      exact e3
    · have hk2 : ¬ y.1 = k := fun z => hk (e1.trans z)
      have ih := pairX_at (k := k) r
      simp only [atV, atKey, List.find?_cons, hk, hk2, decide_false] at ih ⊢
      exact ih
theorem pairX_put {k : NestedKey} {b : Addr} {v : V} {u : Value} (rv : RelV v u) {xs : Row3} {vs : List (NestedKey × Addr × Value)} (h : PairX xs vs) : PairX (putV xs k b v) (storedH vs k b u) := by
  have hs : (atV xs k).isSome = (atKey vs k).isSome := by
    have := (pairX_at (k := k) h).isSome_eq
    rw [Option.isSome_map] at this
    exact this
  unfold putV storedH
  rw [hs]
  by_cases hk : (atKey vs k).isSome = true
  · rw [if_pos hk, if_pos hk]
    clear hs hk
    induction h with
    | nil => exact .nil
    | cons hh _ ih =>
      rename_i x y _ _ _
      obtain ⟨e1, e2, e3⟩ := hh
      rw [List.map_cons, List.map_cons]
      refine .cons ?_ ih
      unfold putAt
      by_cases hx : x.1 = k
      · have hy : y.1 = k := e1 ▸ hx
        rw [if_pos hx, if_pos hy]
        exact ⟨e1, e2, rv⟩
      · have hy : ¬ y.1 = k := fun z => hx (e1.trans z)
        rw [if_neg hx, if_neg hy]
        exact ⟨e1, e2, e3⟩
  · rw [if_neg hk, if_neg hk]
    clear hs hk
    induction h with
    | nil => exact .cons ⟨rfl, rfl, rv⟩ .nil
    | cons hh _ ih => exact .cons hh ih
theorem pairX_len : ∀ {xs : Row3} {vs : List (NestedKey × Addr × Value)}, PairX xs vs → xs.length = vs.length := Paired.length
theorem pairX_keys : ∀ {xs : Row3} {vs : List (NestedKey × Addr × Value)}, PairX xs vs → xs.map (·.1) = vs.map (·.1) ∧ xs.map (·.2.1) = vs.map (·.2.1)
  | _, _, .nil => ⟨rfl, rfl⟩
  | _, _, .cons h r => by
    obtain ⟨e1, e2, _⟩ := h
    obtain ⟨i1, i2⟩ := pairX_keys r
    exact ⟨by rw [List.map_cons, List.map_cons, e1, i1], by rw [List.map_cons, List.map_cons, e2, i2]⟩
theorem pairX_mem : ∀ {xs : Row3} {vs : List (NestedKey × Addr × Value)} {y : NestedKey × Addr × Value}, PairX xs vs → y ∈ vs → ∃ x ∈ xs, x.1 = y.1 ∧ x.2.1 = y.2.1
  | _, _, _, .nil, h => by cases h
  | _, _, y, .cons h r, hy => by
    rcases List.mem_cons.mp hy with rfl | hy
    · exact ⟨_, List.mem_cons_self, h.1, h.2.1⟩
    · obtain ⟨x, hx, e⟩ := pairX_mem r hy
      exact ⟨x, List.mem_cons_of_mem _ hx, e⟩
theorem putV_keys (xs : Row3) (k : NestedKey) (b : Addr) (v : V) : (putV xs k b v).map (·.1) = if (atV xs k).isSome = true then xs.map (·.1) else xs.map (·.1) ++ [k] := by
  unfold putV
  split
  · rw [List.map_map]
    refine List.map_congr_left fun x _ => ?_
    simp only [Function.comp]
    split <;> rfl
  · rw [List.map_append]; rfl
theorem atV_none {xs : Row3} {k : NestedKey} (h : ¬ (atV xs k).isSome = true) : k ∉ xs.map (·.1) := fun hm => h (by
  obtain ⟨x, hx, rfl⟩ := List.mem_map.mp hm
  unfold atV
  rw [Option.isSome_map, List.find?_isSome]
  exact ⟨x, hx, by simp⟩)
theorem putV_nodup {xs : Row3} {k : NestedKey} {b : Addr} {v : V} (h : (xs.map (·.1)).Nodup) : ((putV xs k b v).map (·.1)).Nodup := by
  rw [putV_keys]
  split
  · exact h
  · rename_i hk
    rw [List.nodup_append]
    exact ⟨h, List.pairwise_singleton _ _, fun a ha c hc => by rw [List.mem_singleton.mp hc]; rintro rfl; exact atV_none hk ha⟩
theorem putV_mem {xs : Row3} {k : NestedKey} {b : Addr} {v : V} {y : NestedKey × Addr × V} (h : y ∈ putV xs k b v) : (∃ x ∈ xs, x.1 = y.1 ∧ x.2.1 = y.2.1) ∨ (y.1 = k ∧ y.2.1 = b) := by
  unfold putV at h
  split at h
  · obtain ⟨x, hx, rfl⟩ := List.mem_map.mp h
    refine .inl ⟨x, hx, ?_⟩
    split <;> exact ⟨rfl, rfl⟩
  · rcases List.mem_append.mp h with h | h
    · exact .inl ⟨y, h, rfl, rfl⟩
    · rw [List.mem_singleton.mp h]; exact .inr ⟨rfl, rfl⟩
section
variable {X : Cx} {pins : List (Addr × Obj)} {σ : L2.St} {H : Hp} {s : Shared} {a : Addr} {xs : Row3} {A : Around} {E : Value → Shared → Prop}
theorem DN.dict (d : DN X.w H a xs) (I : Inv X pins σ H s) : ∃ vs, PairX xs vs ∧ s.heap.DictOfH (nestedKind X.prog X.w) a vs := by
  obtain ⟨vs, r, o, es, ep, ho, hx, hd, he⟩ : dictAt X.w a xs s.heap := by
    rcases d.at_ with e | ⟨o, e⟩
    · exact (I.hok a _ e).1
    · exact (I.hok a _ e).2.1
  refine ⟨vs, r, o, es, ep, ho, hx, hd, he, fun y hy => ?_, by rw [← (pairX_keys r).1]; exact d.nd⟩
  obtain ⟨x, hx, e1, e2⟩ := pairX_mem r hy
  obtain ⟨k1, k2⟩ := d.ks x hx
  rw [e1, e2] at k1
  rw [e1] at k2
  exact ⟨k1.is I rfl, k2⟩
theorem dn_room (hu : A.units + 65 < cLine) : (nestedKind X.prog X.w).room A.in1 := by
  show A.units + 1 + 8 < cLine
  omega
/-- d[k] -/
theorem dn_getItem {k : NestedKey} {b : Addr} {v : V} {Q : Value → Shared → Prop} (hu : A.units + 65 < cLine) (I : Inv X pins σ H s) (d : DN X.w H a xs) (hk : KyH H k (.ref b)) (h8 : k.depth ≤ 8) (hv : atV xs k = some v)
    (h : ∀ w' s', Inv X pins σ H s' → RelV v w' → Q w' s') : wpAny (model X.prog X.w) A (getItem (.ref a) (.ref b)) Q E s := by
  obtain ⟨vs, r, dd⟩ := d.dict I
  obtain ⟨w', hw, rw'⟩ := RelO.some_of (v := v) (o := (atKey vs k).map (·.2)) (by rw [← hv]; exact pairX_at r)
  obtain ⟨p, hp, hp2⟩ := Option.map_eq_some_iff.mp hw
  refine wpAny_getItem_heap (dn_room hu) ⟨hk.is I rfl, h8⟩ dd hp ?_
  rw [hp2]
  exact h w' _ (I.tok _) rw'
theorem ix_dN (hu : X.A.units + 65 < cLine) : IxR X (fun x y H Q => ∃ a xs k b v, x = .ref a ∧ y = .ref b ∧ DN X.w H a xs ∧ KyH H k (.ref b) ∧ k.depth ≤ 8 ∧ atV xs k = some v ∧ Q v H) := by
  intro value slice pins s σ H x y v u Q I rx ry ⟨a, xs, k, b, w0, e1, e2, d, hk, h8, hv, q⟩ hs
  subst e1; subst e2
  cases rx; cases ry
  obtain ⟨vs, r, dd⟩ := d.dict I
  unfold subscriptTail
  refine wpAny_bind ?_
  rw [getitemInPython_of_ne dd.typeIs.not_modules]
  refine wpAny_bind (wpAny_specialOf dd.typeIs PySem.F.slot_dict_getitem.lookup ?_)
  have fin : wpAny (model X.prog X.w) X.A (subscripted slice false (.ref a) (.ref b)) (fun r s₃ => wpAny (model X.prog X.w) X.A (letTemporaryGo value (.ref a) r >>= fun _ => pure r) (EP X pins σ Q) X.xe s₃) X.xe s := by
    rw [hs]
    exact wpAny_operating (dn_getItem hu I d hk h8 hv fun w' s' I' rw' => wpAny_bind (wpAny_letTemporaryGo (wpAny_pure ⟨w0, H, I', rw', q⟩)))
  first
    | exact wpAny_pure (wpAny_bind fin)
    | exact wpAny_bind (wpAny_pure (wpAny_bind fin))
    | exact wpAny_bind fin
/-- k in d -/
def rInN (wd : World) (neg : Bool) : R2 := fun x y H Q => ∃ a xs k b, x = .ref b ∧ y = .ref a ∧ DN wd H a xs ∧ KyH H k (.ref b) ∧ k.depth ≤ 8 ∧ Q (.bl (if neg then !(atV xs k).isSome else (atV xs k).isSome)) H
theorem op_inN (hu : X.A.units + 65 < cLine) : OpR X (compareOp .In) (rInN X.w false) := by
  intro pins s σ H x y v u Q I rx ry ⟨a, xs, k, b, e1, e2, d, hk, h8, q⟩
  subst e1; subst e2
  cases rx; cases ry
  obtain ⟨vs, r, dd⟩ := d.dict I
  refine wpAny_in_heap (dn_room hu) ⟨hk.is I rfl, h8⟩ d.ns dd ?_
  have z := (pairX_at (k := k) r).isSome_eq
  rw [Option.isSome_map] at z
  rw [← z]
  exact ⟨.bl _, H, I.tok _, rfl, q⟩
theorem op_notInN (hu : X.A.units + 65 < cLine) : OpR X (compareOp .NotIn) (rInN X.w true) := by
  intro pins s σ H x y v u Q I rx ry ⟨a, xs, k, b, e1, e2, d, hk, h8, q⟩
  subst e1; subst e2
  cases rx; cases ry
  obtain ⟨vs, r, dd⟩ := d.dict I
  refine wpAny_notIn_heap (dn_room hu) ⟨hk.is I rfl, h8⟩ d.ns dd ?_
  have z := (pairX_at (k := k) r).isSome_eq
  rw [Option.isSome_map] at z
  rw [← z]
  exact ⟨.bl _, H, I.tok _, rfl, q⟩
/-- d[k] = v -/
def rSetN (wd : World) : V → V → V → Hp → (Hp → Prop) → Prop := fun o i v H Q => ∃ a xs k b, o = .ref a ∧ i = .ref b ∧ DN wd H a xs ∧ H a = some (.ext (dictAt wd a xs)) ∧ KyH H k (.ref b) ∧ k.depth ≤ 8 ∧ xs.length < sizeLine ∧ Q (upd H a (.ext (dictAt wd a (putV xs k b v))))
theorem dictAt_st {wd : World} {h1 h2 : Heap} (h : dictAt wd a xs h1) (k : ∀ o, h1.get? a = some o → h2.get? a = some o) : dictAt wd a xs h2 := by
  obtain ⟨vs, r, o, es, ep, ho, rest⟩ := h
  exact ⟨vs, r, o, es, ep, k o ho, rest⟩
theorem set_dN (hu : X.A.units + 65 < cLine) : PSet X (rSetN X.w) := by
  intro pins s σ H o i v ov iv u Q I ro ri rv ⟨a, xs, k, b, e1, e2, d, hat, hk, h8, hz, q⟩
  subst e1; subst e2
  cases ro; cases ri
  obtain ⟨vs, r, dd⟩ := d.dict I
  refine wpAny_setItem_heap (hsz := by rw [← pairX_len r]; exact d.sz) (dn_room hu) ⟨hk.is I rfl, h8⟩ dd fun h' dd' hs => ?_
  obtain ⟨o, es, ep, ho, h2, h3, h4, _, h5⟩ := dd'
  have da : dictAt X.w a (putV xs k b v) h' := ⟨_, pairX_put rv r, o, es, ep, ho, h2, h3, h4⟩
  exact ⟨_, d_write (ob := .ext (dictAt X.w a (putV xs k b v))) I (by rw [hat]; exact True.intro) hs ⟨o, ho⟩ ⟨da, ⟨o, ho⟩, fun h1 h2 x k => dictAt_st x k⟩, q⟩
/-- {} -/
def tDNewN (wd : World) : TE := fun _ H Q => ∀ p, H p = none → (p == sysModules) = false → Q (.ref p) (upd H p (.ext (dictAt wd p [])))
theorem pe_dnewN {pos : Pos} : PE X (.Dict [] [] pos) (tDNewN X.w) := ⟨fun pins s σ H Q I h => by
  have hb : (s.heap.objs.size == sysModules) = false := beq_eq_false_iff_ne.mpr (Ne.symm (Nat.ne_of_lt I.big))
  refine wpAny_Dict_empty ⟨.ref s.heap.objs.size, _, I.laid (a := s.heap.objs.size) (o := .ext (dictAt X.w s.heap.objs.size [])) (t' := s.toks) (fun _ _ q => Heap.get?_push_of_some _ q) (Nat.le_refl _) ?_, rfl, h _ (I.hok.fresh (Nat.le_refl _)) hb⟩
  exact ⟨⟨[], .nil, _, #[], 0, Heap.get?_push_size _ rfl, ⟨rfl, rfl, rfl⟩, rfl, rfl⟩, ⟨_, Heap.get?_push_size _ rfl⟩, fun h1 h2 x k => dictAt_st x k⟩⟩
end
/-! over data -/
def lookN (kvs : List (NestedKey × D)) (k : NestedKey) : Option D := (kvs.find? fun kv => decide (kv.1 = k)).map (·.2)
def putN (kvs : List (NestedKey × D)) (k : NestedKey) (d : D) : List (NestedKey × D) := if (lookN kvs k).isSome = true then kvs.map (fun kv => if kv.1 = k then (kv.1, d) else kv) else kvs ++ [(k, d)]
section
variable {K : KF} {G H : Hp} {m : Mu}
theorem look_is {k : NestedKey} {d : D} : ∀ {kvs : List (NestedKey × D)} {xs : Row3}, kvs.map (·.1) = xs.map (·.1) → RpL K G (kvs.map (·.2)) (xs.map (·.2.2)) → lookN kvs k = some d → ∃ v, atV xs k = some v ∧ Rp K G d v
  | [], [], _, _, h => by simp [lookN] at h
  | [], _ :: _, e, _, _ => by simp at e
  | _ :: _, [], e, _, _ => by simp at e
  | p :: kvs, x :: xs, e, r, h => by
    rw [List.map_cons, List.map_cons] at e r
    obtain ⟨e1, e2⟩ := List.cons.inj e
    cases r with
    | cons r1 r2 =>
      by_cases hk : p.1 = k
      · have hx : x.1 = k := e1 ▸ hk
        simp only [lookN, List.find?_cons, hk, decide_true, Option.map_some, Option.some.injEq] at h
        refine ⟨x.2.2, by simp only [atV, List.find?_cons, hx, decide_true, Option.map_some], h ▸ r1⟩
      · have hx : ¬ x.1 = k := fun z => hk (e1.trans z)
        have := look_is (k := k) (d := d) e2 r2 (by simpa [lookN, List.find?_cons, hk] using h)
        simpa [atV, List.find?_cons, hx] using this
theorem look_some {k : NestedKey} : ∀ {kvs : List (NestedKey × D)} {xs : Row3}, kvs.map (·.1) = xs.map (·.1) → (lookN kvs k).isSome = (atV xs k).isSome
  | [], [], _ => rfl
  | [], _ :: _, e => by simp at e
  | _ :: _, [], e => by simp at e
  | p :: kvs, x :: xs, e => by
    rw [List.map_cons, List.map_cons] at e
    obtain ⟨e1, e2⟩ := List.cons.inj e
    by_cases hk : p.1 = k
    · have hx : x.1 = k := e1 ▸ hk
      simp [lookN, atV, List.find?_cons, hk, hx]
    · have hx : ¬ x.1 = k := fun z => hk (e1.trans z)
      have := look_some (k := k) e2
      simpa [lookN, atV, List.find?_cons, hk, hx] using this
theorem put_is {k : NestedKey} {d : D} {v : V} {b : Addr} (rd : Rp K G d v) {kvs : List (NestedKey × D)} {xs : Row3} (e : kvs.map (·.1) = xs.map (·.1)) (r : RpL K G (kvs.map (·.2)) (xs.map (·.2.2))) :
    (putN kvs k d).map (·.1) = (putV xs k b v).map (·.1) ∧ RpL K G ((putN kvs k d).map (·.2)) ((putV xs k b v).map (·.2.2)) := by
  have hs := look_some (k := k) e
  unfold putN putV
  rw [hs]
  split
  · clear hs
    rename_i hk
    clear hk
    induction kvs generalizing xs with
    | nil =>
      cases xs with
      | nil => exact ⟨rfl, .nil⟩
      | cons x xs => simp at e
    | cons p kvs ih =>
      cases xs with
      | nil => simp at e
      | cons x xs =>
        rw [List.map_cons, List.map_cons] at e r
        obtain ⟨e1, e2⟩ := List.cons.inj e
        cases r with
        | cons r1 r2 =>
          obtain ⟨i1, i2⟩ := ih e2 r2
          by_cases hk : p.1 = k
          · have hx : x.1 = k := e1 ▸ hk
            simp only [List.map_cons, hk, hx, ↓reduceIte]
            exact ⟨by rw [i1], .cons rd i2⟩
          · have hx : ¬ x.1 = k := fun z => hk (e1.trans z)
            simp only [List.map_cons, hk, hx, ↓reduceIte]
            exact ⟨by rw [i1, e1], .cons r1 i2⟩
  · rw [List.map_append, List.map_append, List.map_append, List.map_append, e]
    exact ⟨rfl, r.app (.cons rd .nil)⟩
theorem putN_len (kvs : List (NestedKey × D)) (k : NestedKey) (d : D) : (putN kvs k d).length ≤ kvs.length + 1 := by
  unfold putN
  split
  · rw [List.length_map]; omega
  · rw [List.length_append, List.length_singleton]; omega
theorem Rl.dn (r : Rl K G H m) {p : Addr} {kvs : List (NestedKey × D)} (e : m p = some (.dN kvs)) : ∃ xs, DN K.wd H p xs ∧ kvs.map (·.1) = xs.map (·.1) ∧ RpL K G (kvs.map (·.2)) (xs.map (·.2.2)) ∧ (∀ x ∈ xs, Rp K G (keyD x.1) (.ref x.2.1) ∧ x.1.depth ≤ 8) ∧ kvs.length ≤ sizeLine ∧ H p = some (.ext (dictAt K.wd p xs)) := by
  obtain ⟨_, u, hu, xs, eu, ns, nd, ek, rv, ky, z⟩ := r.mu p _ e
  subst eu
  have hl : kvs.length = xs.length := by have := congrArg List.length ek; simpa using this
  exact ⟨xs, ⟨.inl hu, ns, nd, fun x hx => ⟨ky_of r.sub (ky x hx).1, (ky x hx).2⟩, by rw [← hl]; exact z⟩, ek, rv, ky, z, hu⟩
end
/-! items -/
def aIx : DR2 := fun x y m Q => match y with
  | .int i => ∃ ds d, seqOf x m = some ds ∧ at_ ds i = some d ∧ Q d m
  | .tup ks => match x with
    | .dct kl dl => ∃ k d, D.tup ks = keyD k ∧ k.depth ≤ 8 ∧ lookN (kl.zip dl) k = some d ∧ Q d m
    | x => ∃ p kvs k d, x = .ref p ∧ m p = some (.dN kvs) ∧ D.tup ks = keyD k ∧ k.depth ≤ 8 ∧ lookN kvs k = some d ∧ Q d m
  | _ => False
/-- a dict that is never changed -/
theorem dct_is {K : KF} {G H : Hp} {kl : List NestedKey} {dl : List D} {v : V} (sb : Same G H) (h : Rp K G (.dct kl dl) v) : ∃ a xs, v = .ref a ∧ DN K.wd H a xs ∧ kl = xs.map (·.1) ∧ RpL K G dl (xs.map (·.2.2)) ∧ kl.length = dl.length ∧ (kl.zip dl).map (·.1) = xs.map (·.1) ∧ RpL K G ((kl.zip dl).map (·.2)) (xs.map (·.2.2)) ∧ RpL K G (kl.map keyD) (xs.map fun x => V.ref x.2.1) := by
  cases h with
  | @dct a _ _ _ xs h1 h2 h3 h4 h5 h6 h7 h8 =>
    have el : kl.length = dl.length := by rw [h5.len, h3, List.length_map, List.length_map]
    refine ⟨a, xs, rfl, ⟨.inr ⟨_, sb _ _ h1⟩, h2, by rw [← h3]; exact h4, fun x hx => ?_, by rw [h3, List.length_map] at h8; exact h8⟩, h3, h5, el, ?_, ?_, h6⟩
    · obtain ⟨i, hi, rfl⟩ := List.mem_iff_getElem.mp hx
      have e1 : (kl.map keyD)[i]? = some (keyD xs[i].1) := by rw [h3]; simp [hi]
      obtain ⟨v, ev, rv⟩ := h6.get e1
      have e2 : (xs.map fun x => V.ref x.2.1)[i]? = some (V.ref xs[i].2.1) := by simp [hi]
      rw [e2] at ev
      cases ev
      exact ⟨ky_of sb rv, h7 _ (by rw [h3]; exact List.mem_map_of_mem hx)⟩
    · rw [List.map_fst_zip (by omega), h3]
    · rw [List.map_snd_zip (by omega)]; exact h5
def rIxA (K : KF) : R2 := fun x y H Q => rIxL K x y H Q ∨ rIxT K x y H Q ∨ ∃ a xs k b v, x = .ref a ∧ y = .ref b ∧ DN K.wd H a xs ∧ KyH H k (.ref b) ∧ k.depth ≤ 8 ∧ atV xs k = some v ∧ Q v H
theorem c2_ix {K : KF} : C2 K (rIxA K) aIx := by
  intro G H m x y dx dy Q Qv r rx ry q w
  cases dy with
  | int i =>
    obtain ⟨ds, d, e1, e3, q⟩ := q
    cases ry
    obtain ⟨p, vs, e, hq, hr, z⟩ := seq_is r rx e1
    obtain ⟨v, ev, rv⟩ := at_V hr e3
    rcases hq with hq | hq
    · exact .inl ⟨p, vs, i, v, e, rfl, hq, ev, w.now r rv q⟩
    · exact .inr (.inl ⟨p, vs, i, v, e, rfl, hq, ev, w.now r rv q⟩)
  | tup ks =>
    by_cases hd : ∃ kl dl, dx = .dct kl dl
    · obtain ⟨kl, dl, rfl⟩ := hd
      obtain ⟨k, d, e3, h8, el, q⟩ := q
      obtain ⟨a, xs, ea, dn, _, _, _, ek, rv, _⟩ := dct_is r.sub rx
      obtain ⟨v, ev, rdv⟩ := look_is ek rv el
      rw [e3] at ry
      have hk := ky_of r.sub ry
      rw [← e3] at ry
      cases ry
      exact .inr (.inr ⟨a, xs, k, _, v, ea, rfl, dn, hk, h8, ev, w.now r rdv q⟩)
    replace q : ∃ p kvs k d, dx = .ref p ∧ m p = some (.dN kvs) ∧ D.tup ks = keyD k ∧ k.depth ≤ 8 ∧ lookN kvs k = some d ∧ Q d m := by
      cases dx with
      | dct kl dl => exact absurd ⟨kl, dl, rfl⟩ hd
      | _ => exact q
    obtain ⟨p, kvs, k, d, e1, e2, e3, h8, el, q⟩ := q
    subst e1
    cases rx
    obtain ⟨xs, dn, ek, rv, _, _⟩ := r.dn e2
    obtain ⟨v, ev, rdv⟩ := look_is ek rv el
    rw [e3] at ry
    have hk := ky_of r.sub ry
    rw [← e3] at ry
    cases ry
    exact .inr (.inr ⟨p, xs, k, _, v, rfl, rfl, dn, hk, h8, ev, w.now r rdv q⟩)
  | _ => exact q.elim
section
variable {X : Cx} {a b o i e : Expr} {ta tb to ti te : DT} {pos spos : Pos}
theorem pd_ix (hu : X.A.units + 65 < cLine) (ha : PD X a ta) (hb : PD X b tb) (hs : PlainIx b := by exact fun _ _ => rfl) : PD X (.Subscript a b pos) (dOp aIx ta tb) :=
  peM (pe_ix (ix_list.or (ix_tup.or (ix_dN hu))) ha hb hs) fun _ _ _ h => lfOp c2_ix h
/-- o[i] = e -/
def xPut (te to ti : DT) : DS := fun De r m => te r m fun d m1 => to r m1 fun o m2 => ti r m2 fun k m3 => ∃ p, o = .ref p ∧ match k with
  | .int i => ∃ ds j, m3 p = some (.lst ds) ∧ ixN ds.length i = some j ∧ De.nx r (up m3 p (.lst (ds.set j d)))
  | .tup ks => ∃ kvs k, m3 p = some (.dN kvs) ∧ D.tup ks = keyD k ∧ k.depth ≤ 8 ∧ kvs.length < sizeLine ∧ De.nx r (up m3 p (.dN (putN kvs k d)))
  | _ => False
theorem PSet.or {t t' : TSet} (h : PSet X t) (h' : PSet X t') : PSet X (fun o i v H Q => t o i v H Q ∨ t' o i v H Q) := by
  intro pins s σ H o i v ov iv u Q I ro ri rv q
  rcases q with q | q
  · exact h pins s σ H o i v ov iv u Q I ro ri rv q
  · exact h' pins s σ H o i v ov iv u Q I ro ri rv q
theorem pds_put (hu : X.A.units + 65 < cLine) (he : PD X e te) (ho : PD X o to) (hi : PD X i ti)
    (ha : ∀ v, assign (.Subscript o i spos) X.env v = (do
      let ov ← holding [v] (eval o X.env)
      let iv ← holding [v, ov] (eval i X.env)
      standAt spos
      holding [v, ov, iv] (setItem ov iv v)
      release [v, ov, iv] []) := by intro _; rfl)
    (hs : swapsWithSole [.Subscript o i spos] e pos.line X.env = pure false := by rfl) (hw : swappedStores [.Subscript o i spos] e X.env = pure none := by rfl)
    (h1 : (assignEach [.Subscript o i spos] X.env).map (·.2) = [assign (.Subscript o i spos) X.env] := by rfl) : PDS X (.Assign [.Subscript o i spos] e pos) (xPut te to ti) := by
  refine psM (ps_asg he (pg_sub ho hi (PSet.or set_list (set_dN hu)) ha) hs hw h1) fun E s H ⟨G, r, m, De, hs, hr, q, w⟩ => ?_
  refine ⟨G, r, m, _, hs, hr, q, fun v H1 G1 m1 d s1 r1 rv q1 => ?_⟩
  refine ⟨G1, r, m1, _, hs.same s1.g, r1, q1, fun vo H2 G2 m2 d2 s2 r2 ro q2 => ?_⟩
  refine ⟨G2, r, m2, _, (hs.same s1.g).same s2.g, r2, q2, fun vi H3 G3 m3 d3 s3 r3 ri ⟨p, e1, q3⟩ => ?_⟩
  subst e1
  cases ro
  have rv3 := (rv.same s2.g).same s3.g
  have st3 := (s1.trans s2).trans s3
  have hs3 := ((hs.same s1.g).same s2.g).same s3.g
  cases d3 with
  | int k =>
    obtain ⟨ds, j, e3, e4, q3⟩ := q3
    cases ri
    obtain ⟨_, x, hx, us, ex, ru, z⟩ := r3.mu p _ e3
    subst ex
    obtain ⟨r4, s4⟩ := r3.put e3 (o := .lst (us.set j v)) (u := .lst (ds.set j d)) ⟨_, rfl, ru.set rv3 j, by rw [List.length_set]; exact z⟩
    exact .inl ⟨p, us, k, j, rfl, rfl, hx, by rw [← ru.len]; exact e4, w.nx _ _ _ _ _ (st3.trans s4) (hs3.same s4.g) r4 q3⟩
  | tup ks =>
    obtain ⟨kvs, k, e3, e4, h8, hz, q3⟩ := q3
    obtain ⟨xs, dn, ek, rvs, ky, z, hat⟩ := r3.dn e3
    have rk := ri
    rw [e4] at rk
    have hk := ky_of r3.sub rk
    cases ri with
    | tup t1 t2 t3 =>
      rename_i ad us
      have hl : kvs.length = xs.length := by have := congrArg List.length ek; simpa using this
      obtain ⟨p1, p2⟩ := put_is (b := ad) (k := k) rv3 ek rvs
      have hky : ∀ y ∈ putV xs k ad v, Rp X.kf G3 (keyD y.1) (.ref y.2.1) ∧ y.1.depth ≤ 8 := fun y hy => by
        rcases putV_mem hy with ⟨x, hx, e1, e2⟩ | ⟨e1, e2⟩
        · rw [← e1, ← e2]; exact ky x hx
        · rw [e1, e2]; exact ⟨rk, h8⟩
      obtain ⟨r4, s4⟩ := r3.put e3 (o := .ext (dictAt X.w p (putV xs k ad v))) (u := .dN (putN kvs k d)) ⟨putV xs k ad v, rfl, dn.ns, putV_nodup dn.nd, p1, p2, hky, by have := putN_len kvs k d; omega⟩
      exact .inr ⟨p, xs, k, ad, rfl, rfl, dn, hat, hk, h8, by rw [← hl]; exact hz, w.nx _ _ _ _ _ (st3.trans s4) (hs3.same s4.g) r4 q3⟩
  | _ => exact q3.elim
/-- {} to be filled -/
def dNewD : DT := fun _ m Q => ∀ p, m p = none → Q (.ref p) (up m p (.dN []))
theorem pd_newD : PD X (.Dict [] [] pos) dNewD := by
  refine peM pe_dnewN fun s H Q ⟨G, r, m, Qd, hs, hr, q, w⟩ p hp hb => ?_
  obtain ⟨r2, s2⟩ := hr.newM hp (o := .ext (dictAt X.w p [])) (u := .dN []) ⟨[], rfl, hb, List.nodup_nil, rfl, .nil, (fun _ h => nomatch h), Nat.zero_le _⟩
  exact w _ _ _ _ _ s2 r2 (.ref p) (q p (hr.free hp).2)
end
end Mn

set_option Elab.async false
set_option linter.all false
set_option maxRecDepth 100000
set_option maxHeartbeats 4000000
set_option autoImplicit false
namespace Mn
open PySem PySem.Spec PyProof.Rows L2
variable [Tbs]

/-! t * 1 is t itself -/
theorem tuple_mulW1 (l : Addr) (items : Array Value) (n : Nat) (dd : Option Addr) (sl : Array (Option Value)) (u : Tok) :
    Meets (Builtin.«tuple.__mul__» ⟨[.ref l, .int 1 u], []⟩) (fun _ R s => s.heap.get? l = some { cls := .type "tuple", dict := dd, data := .seq items n, slots := sl } ∧ R (.ok (.ret (Value.ref l))) s) :=
  .of_wp fun prog w A R s h => by
    obtain ⟨hp, g, d, tk, os⟩ := s
    obtain ⟨hl, h⟩ := h
    have f1 := AutoSeq1.idx_int
    have c0 : (decide ((1 : Int) < -(2 ^ 63)) || decide ((1 : Int) ≥ 2 ^ 63)) = false := by decide
    have c1 : (items.isEmpty || (1 : Int) == 1) = true := by simp
    wp_walk using wpAny_loadPart' hl
    repeat (first
      | (refine wpAny_ite_false (decide_eq_false (by rw [c0]; exact Bool.false_ne_true)) ?_; wp_walk using wpAny_loadPart' hl)
      | (refine wpAny_ite_true (decide_eq_true c1) ?_; wp_walk using wpAny_loadPart' hl))
    exact ⟨_, rfl, h⟩
/-! products: whole numbers; tuples repeated -/
def rRep1 (K : KF) : R2 := fun x y H Q => ∃ l xs, x = .ref l ∧ y = .int 1 ∧ SqT K H l xs ∧ Q (.ref l) H
def rMulA (K : KF) : R2 := fun x y H Q => rI CMul (fun i j => .int (i * j)) x y H Q ∨ rRep1 K x y H Q ∨ rRepF K x y H Q
def aMulA : DR2 := fun x y m Q => match x, y with
  | .int i, .int j => CMul i j ∧ Q (.int (i * j)) m
  | .tup ds, .int k => ds ≠ [] ∧ ds.length ≤ 1000 ∧ 1 ≤ k ∧ k ≤ 1000 ∧ Q (.tup (List.replicate k.toNat ds).flatten) m
  | _, _ => False
section
variable {X : Cx} {K : KF}
theorem op_rep1 : OpR X (binaryOp .Mult) (rRep1 X.kf) := by
  intro pins s σ H x y v u Q I rx ry h
  obtain ⟨l, xs, rfl, rfl, hT, q⟩ := h
  cases rx
  obtain ⟨t, rfl⟩ := ry
  obtain ⟨its, r, ⟨⟨cls, dd, data, sl⟩, ho, hc, n, hd⟩, hs⟩ := I.tuple hT
  simp only at hc hd
  subst hc hd
  exact wpAny_binaryOp_repeat_ref (T := "tuple") (U := "int") (by decide) ⟨_, ho, rfl⟩ (fun s' => typeIs_int s' 1 t) noFill_tuple_mul F.fills_int_mul F.slot_int_rmul repeat_tuple F.slot_int_index.lookup
    (call_meets F.slot_int_rmul (typeIs_int s 1 t) F.entry_int_rmul (F.args_int_rmul_2 _ _) (int_rmul_tuple 1 t l its.toArray n dd sl)
      ⟨ho, rfl, ⟨_, ho, rfl⟩, call_meets F.slot_tuple_mul ⟨_, ho, rfl⟩ F.entry_tuple_mul (F.args_tuple_mul_2 _ _) (tuple_mulW1 l its.toArray n dd sl t) ⟨ho, .ref l, H, I, rfl, q⟩⟩)
theorem op_mulA : OpR X (binaryOp .Mult) (rMulA X.kf) := op_mul.or (op_rep1.or op_repF)
theorem rep_rp {G : Hp} {ds : List D} {vs : List V} (h : RpL K G ds vs) : ∀ k : Nat, RpL K G (List.replicate k ds).flatten (List.replicate k vs).flatten
  | 0 => .nil
  | k + 1 => by
    rw [List.replicate_succ, List.replicate_succ, List.flatten_cons, List.flatten_cons]
    exact h.app (rep_rp h k)
theorem c2_mulA : C2 K (rMulA K) aMulA := by
  intro G H m x y dx dy Q Qv r rx ry q w
  cases dx with
  | int i =>
    cases dy with
    | int j =>
      cases rx; cases ry
      exact .inl ⟨i, j, rfl, rfl, q.1, w.now r (.int _) q.2⟩
    | _ => exact q.elim
  | tup ds =>
    cases dy with
    | int k =>
      obtain ⟨hne, hl, k1, k2, q⟩ := q
      cases ry
      cases rx with
      | tup hq hv hz =>
        rename_i ad vs
        by_cases hk : k = 1
        · subst hk
          have e : (List.replicate (1 : Int).toNat ds).flatten = ds := by simp
          rw [e] at q
          exact .inr (.inl ⟨ad, vs, rfl, rfl, hq.sq r.sub _, w.now r (.tup hq hv hz) q⟩)
        · refine .inr (.inr ⟨ad, k, vs, rfl, rfl, hq.sq r.sub _, fun e => hne ((rp_len hv).mp e), by omega, k2, by rw [← hv.len]; exact hl, ?_⟩)
          refine Rl.newTup w r (rep_rp hv k.toNat) ?_ q
          rw [PyProof.Rows.lm_len_rep_flat, sizeLine_eq]
          have : k.toNat * ds.length ≤ 1000 * 1000 := Nat.mul_le_mul (by omega) hl
          omega
    | _ => exact q.elim
  | _ => exact q.elim
end
/-! the end of a body, told simply -/
theorem end_rt {m0 : Mu} {Q : DK} {d : D} (h : Q d m0) : (endD m0 Q).rt d m0 := ⟨m0, fun _ _ e => e, h⟩
theorem end_nx {m0 : Mu} {Q : DK} {r : Ro} (h : Q .non m0) : (endD m0 Q).nx r m0 := ⟨m0, fun _ _ e => e, h⟩
theorem end_rtL {m0 m1 m2 : Mu} {Q : DK} {d : D} (le : ∀ a o, m2 a = some o → m1 a = some o) (h : Q d m2) : (endD m0 Q).rt d m1 := ⟨m2, le, h⟩
/-! comparisons -/
theorem ok_int (i : Int) (m : Mu) : okD (.int i) m := ⟨rfl, rfl⟩
theorem ok_bl (i : Bool) (m : Mu) : okD (.bl i) m := ⟨rfl, rfl⟩
theorem ok_nil (m : Mu) : okD (.lst []) m := ⟨rfl, rfl⟩
theorem aEq_int (i j : Int) (m : Mu) (Q : DK) : aEq (.int i) (.int j) m Q ↔ Q (.bl (decide (i = j))) m := by
  show (okD _ _ ∧ okD _ _ ∧ _) ↔ _
  have e : PyData.eqv (pyM (.int i) m) (pyM (.int j) m) = decide (i = j) := by
    simp only [pyM, py, PyData.eqv]
    exact Bool.beq_eq_decide_eq i j
  rw [e]
  exact ⟨fun h => h.2.2, fun h => ⟨ok_int i m, ok_int j m, h⟩⟩
theorem aNe_int (i j : Int) (m : Mu) (Q : DK) : aNe (.int i) (.int j) m Q ↔ Q (.bl (!decide (i = j))) m := by
  show (okD _ _ ∧ okD _ _ ∧ _) ↔ _
  have e : PyData.eqv (pyM (.int i) m) (pyM (.int j) m) = decide (i = j) := by
    simp only [pyM, py, PyData.eqv]
    exact Bool.beq_eq_decide_eq i j
  rw [e]
  exact ⟨fun h => h.2.2, fun h => ⟨ok_int i m, ok_int j m, h⟩⟩
/-- comprehensions whose parts change nothing -/
theorem lcGo_map {g : DG} {te : DT} {r : Ro} {m : Mu} (f : D → D) : ∀ (ds acc : List D) (Q : List D → Mu → Prop), (∀ d ∈ ds, ∀ K : DK, K (f d) m → g d r fun r1 => te r1 m K) → Q (acc ++ ds.map f) m → lcGo g dYes te r ds acc m Q
  | [], acc, Q, _, h => by
    rw [List.map_nil, List.append_nil] at h
    exact h
  | d :: ds, acc, Q, hf, h => by
    show g d r fun r1 => te r1 m fun y m2 => lcGo g dYes te r ds (acc ++ [y]) m2 Q
    refine hf d List.mem_cons_self _ ?_
    refine lcGo_map f ds (acc ++ [f d]) Q (fun e he => hf e (List.mem_cons_of_mem _ he)) ?_
    rw [List.append_assoc]
    exact h
/-- comprehensions by an invariant -/
theorem lcGo_inv {g : DG} {tt : DB} {te : DT} {r : Ro} {Q : List D → Mu → Prop} (I : Nat → List D → Mu → Prop) : ∀ (ds acc : List D) (m : Mu) (i : Nat), I i acc m →
    (∀ (j : Nat) (d : D) (acc : List D) (m : Mu) (P : List D → Mu → Prop), ds[j]? = some d → I (i + j) acc m → (∀ acc' m', I (i + j + 1) acc' m' → P acc' m') → g d r fun r1 => tt r1 m fun b m1 => if b = true then te r1 m1 fun y m2 => P (acc ++ [y]) m2 else P acc m1) →
    (∀ acc m, I (i + ds.length) acc m → Q acc m) → lcGo g tt te r ds acc m Q
  | [], acc, m, i, h0, _, hd => hd acc m h0
  | d :: ds, acc, m, i, h0, hs, hd =>
    hs 0 d acc m (fun acc m => lcGo g tt te r ds acc m Q) rfl h0 fun acc m h4 => lcGo_inv I ds acc m (i + 1) h4 (fun j d acc m P e h5 h6 => by
      have z : i + (j + 1) = i + 1 + j := by omega
      have q := hs (j + 1) d acc m P e
      rw [z] at q
      exact q h5 h6) fun acc m h5 => hd acc m (by rw [List.length_cons, show i + (ds.length + 1) = i + 1 + ds.length by omega]; exact h5)
/-- loops by an invariant -/
theorem forGo_inv {g : DG} {tb : DS} {De : DE} (I : Nat → Ro → Mu → Prop) : ∀ (ds : List D) (r : Ro) (m : Mu) (i : Nat), I i r m →
    (∀ (j : Nat) (d : D) (r : Ro) (m : Mu) (P : Ro → Mu → Prop), ds[j]? = some d → I (i + j) r m → (∀ r' m', I (i + j + 1) r' m' → P r' m') → g d r fun r1 => tb { De with nx := P, ct := P, bk := De.nx } r1 m) →
    (∀ r m, I (i + ds.length) r m → De.nx r m) → forGo g tb De ds r m
  | [], r, m, i, h0, _, hd => hd r m h0
  | d :: ds, r, m, i, h0, hs, hd =>
    hs 0 d r m (forGo g tb De ds) rfl h0 fun r m h4 => forGo_inv I ds r m (i + 1) h4 (fun j d r m P e h5 h6 => by
      have z : i + (j + 1) = i + 1 + j := by omega
      have q := hs (j + 1) d r m P e
      rw [z] at q
      exact q h5 h6) fun r m h5 => hd r m (by rw [List.length_cons, show i + (ds.length + 1) = i + 1 + ds.length by omega]; exact h5)
/-! readings at known data -/
section
variable {m : Mu} {Q : DK} {ds es : List D} {i j : Int} {x : Str} {b : Bool}
theorem aLen_tup : aLen [.tup ds] m Q ↔ Q (.int ds.length) m := by simp [aLen, seqOf]
theorem aLen_lst : aLen [.lst ds] m Q ↔ Q (.int ds.length) m := by simp [aLen, seqOf]
theorem aLen_pair : aLen [.pair ds] m Q ↔ Q (.int ds.length) m := by simp [aLen, seqOf]
theorem aLen_scr : aLen [.scr ds] m Q ↔ Q (.int ds.length) m := by simp [aLen, seqOf]
theorem aAdd_int : aAdd (.int i) (.int j) m Q ↔ Q (.int (i + j)) m := Iff.rfl
theorem aAdd_tup : aAdd (.tup ds) (.tup es) m Q ↔ (ds.length + es.length ≤ sizeLine ∧ Q (.tup (ds ++ es)) m) := Iff.rfl
theorem aAdd_lst : aAdd (.lst ds) (.lst es) m Q ↔ (ds.length + es.length ≤ sizeLine ∧ Q (.lst (ds ++ es)) m) := by simp [aAdd, lst1]
theorem aSub_int : aSub (.int i) (.int j) m Q ↔ Q (.int (i - j)) m := Iff.rfl
theorem aMul_int : aMulA (.int i) (.int j) m Q ↔ (CMul i j ∧ Q (.int (i * j)) m) := Iff.rfl
theorem aDiv_int : aDiv (.int i) (.int j) m Q ↔ (CDiv i j ∧ Q (.int (i / j)) m) := Iff.rfl
theorem aMod_int : aMod (.int i) (.int j) m Q ↔ (0 < j ∧ Q (.int (i % j)) m) := Iff.rfl
theorem aPow_int : aPow (.int i) (.int j) m Q ↔ (CPow i j ∧ Q (.int (i ^ j.toNat)) m) := Iff.rfl
theorem aCmp_int {p : Int → Int → Bool} : aCmp p (.int i) (.int j) m Q ↔ Q (.bl (p i j)) m := Iff.rfl
theorem aMax_int : aMax [.int i, .int j] m Q ↔ Q (.int (max i j)) m := Iff.rfl
theorem aMin_int : aMin [.int i, .int j] m Q ↔ Q (.int (min i j)) m := Iff.rfl
theorem aTuple_lst : aTuple [.lst ds] m Q ↔ Q (.tup ds) m := by simp [aTuple, lstOf]
theorem aTuple_tup : aTuple [.tup ds] m Q ↔ Q (.tup ds) m := Iff.rfl
theorem aInt_bl : aInt [.bl b] m Q ↔ Q (.int (if b then 1 else 0)) m := Iff.rfl
theorem aInt_int : aInt [.int i] m Q ↔ Q (.int i) m := Iff.rfl
theorem aIx_tup : aIx (.tup ds) (.int i) m Q ↔ ∃ d, at_ ds i = some d ∧ Q d m := by simp [aIx, seqOf]
theorem aIx_lst : aIx (.lst ds) (.int i) m Q ↔ ∃ d, at_ ds i = some d ∧ Q d m := by simp [aIx, seqOf]
theorem aIx_pair : aIx (.pair ds) (.int i) m Q ↔ ∃ d, at_ ds i = some d ∧ Q d m := by simp [aIx, seqOf]
theorem aIx_scr : aIx (.scr ds) (.int i) m Q ↔ ∃ d, at_ ds i = some d ∧ Q d m := by simp [aIx, seqOf]
theorem aIx_ref {a : Addr} (h : m a = some (.lst ds)) : aIx (.ref a) (.int i) m Q ↔ ∃ d, at_ ds i = some d ∧ Q d m := by simp [aIx, seqOf, h]
theorem aLen_ref {a : Addr} (h : m a = some (.lst ds)) : aLen [.ref a] m Q ↔ Q (.int ds.length) m := by simp [aLen, seqOf, h]
theorem aTuple_ref {a : Addr} (h : m a = some (.lst ds)) : aTuple [.ref a] m Q ↔ Q (.tup ds) m := by simp [aTuple, lstOf, h]
theorem seqI_tup : seqI (.tup ds) = some ds := rfl
theorem seqI_lst : seqI (.lst ds) = some ds := rfl
theorem seqOf_tup : seqOf (.tup ds) m = some ds := rfl
theorem seqOf_lst : seqOf (.lst ds) m = some ds := rfl
theorem tyN_tup : tyN (.tup ds) m = some "tuple" := rfl
theorem tyN_lst : tyN (.lst ds) m = some "list" := rfl
theorem tyN_int : tyN (.int i) m = some "int" := rfl
theorem tyN_bl : tyN (.bl b) m = some "bool" := rfl
theorem tyN_str : tyN (.str x) m = some "str" := rfl
theorem tyN_non : tyN .non m = some "NoneType" := rfl
theorem at_0 : at_ ds 0 = ds[0]? := rfl
theorem at_1 : at_ ds 1 = ds[1]? := rfl
theorem at_2 : at_ ds 2 = ds[2]? := rfl
theorem at_3 : at_ ds 3 = ds[3]? := rfl
theorem at_n (n : Nat) : at_ ds (n : Int) = ds[n]? := by
  unfold at_
  rw [if_pos (Int.natCast_nonneg n), Int.toNat_natCast]
theorem sSeq_tup {P : List D → Prop} : (∃ es, (D.tup ds = .lst es ∨ D.tup ds = .tup es) ∧ P es) ↔ P ds := by simp
theorem sSeq_lst {P : List D → Prop} : (∃ es, (D.lst ds = .lst es ∨ D.lst ds = .tup es) ∧ P es) ↔ P ds := by simp
theorem isi_tt : isiB "tuple" "tuple" = true := rfl
end
end Mn

set_option linter.all false
set_option maxHeartbeats 4000000
set_option autoImplicit false
namespace Mn
open PySem L2
variable [Tbs]
local macro_rules | `(tactic| walk_at "d") => `(tactic| (try simp only [xNext, xSeq, xAsg, xRet, xRetF, xDrop, xIf, xPar, xPut, xAug, xFor, dVar, dC, dOp, dTest, dChain, dAndV, dOrV, dNotV, dAnd, dOr, dNot, dIf, dNil, dCons, dTup, dLst, dLstM, dCB, dIsi, dLc, dLcM, dYes, wipeD, sSeq, sSeq_tup, sSeq_lst, sRg1, sRg2, sZip2, sZip3, sEnum, gV, gN, gC, gT, tupOf_tup, tupOf_pair, aAdd_int, aAdd_tup, aAdd_lst, aSub_int, aMul_int, aDiv_int, aMod_int, aPow_int, aCmp_int, aIx_tup, aIx_lst, aIx_scr, aIx_pair, aMax_int, aMin_int, aInt_bl, aInt_int, aLen_tup, aLen_lst, aLen_scr, aLen_pair, aTuple_lst, aTuple_tup, aEq_int, aNe_int, startD, List.map_cons, List.map_nil, List.length_cons, List.length_nil, List.cons_append, List.nil_append, List.replicate_zero, List.replicate_succ, List.append_nil, List.getElem?_cons_zero, List.getElem?_cons_succ, List.set_cons_zero, List.set_cons_succ, Option.some.injEq, exists_eq_left', exists_eq_left, exists_eq', D.int.injEq, D.bl.injEq, D.tup.injEq, D.lst.injEq, D.pair.injEq, D.ref.injEq, List.cons.injEq, Nat.sub_self, Nat.zero_add, Nat.add_sub_cancel, seqI_tup, seqI_lst, seqOf_tup, seqOf_lst, tyN_tup, tyN_lst, tyN_int, tyN_bl, tyN_str, tyN_non, isi_tt, at_0, at_1, at_2, at_3, Option.map_some, true_and, and_true, if_true, Bool.false_eq_true, if_false, Bool.not_true, Bool.not_false, ↓reduceIte, Nat.reduceAdd, Nat.reduceSub, exists_and_left, and_assoc]))
/-! kinds of data -/
mutual
def refs : D → List (Option Addr)
  | .tup ds => refsL ds
  | .lst ds => refsL ds
  | .scr ds => refsL ds
  | .ref a => [some a]
  | .pair _ => [none]
  | _ => []
def refsL : List D → List (Option Addr)
  | [] => []
  | d :: ds => refs d ++ refsL ds
end
def Kn (m : Mu) (d : D) : Prop := ∀ x ∈ refs d, ∃ a, x = some a ∧ (tyN (.ref a) m).isSome = true
theorem refsL_mem {d : D} {a : Option Addr} : ∀ {ds : List D}, d ∈ ds → a ∈ refs d → a ∈ refsL ds
  | e :: ds, h, q => by
    rw [refsL, List.mem_append]
    rcases List.mem_cons.mp h with rfl | h
    · exact .inl q
    · exact .inr (refsL_mem h q)
theorem Kn.tup {m : Mu} {ds : List D} (h : Kn m (.tup ds)) {d : D} (hd : d ∈ ds) : Kn m d := fun a ha => h a (by rw [refs]; exact refsL_mem hd ha)
theorem Kn.ty {m : Mu} {d : D} (h : Kn m d) : ∃ t, tyN d m = some t := by
  cases d with
  | ref a =>
    obtain ⟨b, e, q⟩ := h (some a) (by simp [refs])
    cases e
    exact Option.isSome_iff_exists.mp q
  | pair ds =>
    obtain ⟨b, e, q⟩ := h none (by simp [refs])
    cases e
  | _ => exact ⟨_, rfl⟩
theorem Kn.of {m : Mu} {d : D} (h : refs d = []) : Kn m d := fun a ha => by rw [h] at ha; cases ha
def isIntD (d : D) : Bool := match d with
  | .int _ => true
  | _ => false
def isTupD (d : D) : Bool := match d with
  | .tup _ => true
  | _ => false
def toI (d : D) : Int := match d with
  | .int i => i
  | _ => 0
theorem isi_tup {d : D} {m : Mu} {t : String} (h : tyN d m = some t) : isiB t "tuple" = isTupD d := by
  cases d with
  | ref a =>
    simp only [tyN] at h
    split at h <;> first | (cases h; rfl) | cases h
  | pair ds => cases h
  | _ => cases h; rfl
theorem isi_int {d : D} {m : Mu} {t : String} (h : tyN d m = some t) : (isiB t "int" && !isiB t "bool") = isIntD d := by
  cases d with
  | ref a =>
    simp only [tyN] at h
    split at h <;> first | (cases h; rfl) | cases h
  | pair ds => cases h
  | _ => cases h; rfl
def s_is_integer : DSp := fun ds m Q => ∃ d, ds = [d] ∧ Kn m d ∧ Q (.bl (isIntD d)) m
theorem l_is_integer : ∀ ds m Q, s_is_integer ds m Q → ds.length = 1 := by rintro ds m Q ⟨d, rfl, _⟩; rfl
def t_is_integer : DS := (xRet (dAndV (dIsi "int" (dVar 0)) (dNotV (dIsi "bool" (dVar 0)))))
theorem v_is_integer : Body 1 t_is_integer s_is_integer := by
  rintro ds m Q ⟨d, rfl, ht, q⟩
  obtain ⟨t, et⟩ := ht.ty
  rw [← isi_int et] at q
  have hq := end_rt (m0 := m) q
  unfold t_is_integer
  simp only [xRet, dAndV, dNotV, dIsi, dVar]
  refine ⟨d, rfl, t, et, _, rfl, ?_⟩
  cases e : isiB t "int" with
  | true => rw [e] at hq; exact ⟨d, rfl, t, et, _, rfl, hq⟩
  | false => rw [e] at hq; exact hq
def betw (d : D) (lo hi : Int) : Bool := match d with
  | .int i => decide (lo ≤ i) && decide (i ≤ hi)
  | _ => false
def s_is_between : DSp := fun ds m Q => ∃ d lo hi, ds = [d, .int lo, .int hi] ∧ Kn m d ∧ Q (.bl (betw d lo hi)) m
theorem l_is_between : ∀ ds m Q, s_is_between ds m Q → ds.length = 3 := by rintro ds m Q ⟨d, lo, hi, rfl, _⟩; rfl
def t_is_between : DS := (xRet (dAndV (dCB s_is_integer (dCons (dVar 0) dNil)) (dChain aLe aLe (dVar 1) (dVar 0) (dVar 2))))
theorem v_is_between : Body 3 t_is_between s_is_between := by
  rintro ds m Q ⟨d, lo, hi, rfl, ht, q⟩
  unfold t_is_between
  walk_at "d"
  have hq := end_rt (m0 := m) q
  refine ⟨d, rfl, ht, _, rfl, ?_⟩
  cases d with
  | int i =>
    simp only [isIntD, ↓reduceIte, aCmp, D.bl.injEq, exists_eq_left']
    simp only [betw] at hq
    by_cases h1 : lo ≤ i
    · simpa only [h1, decide_true, Bool.true_and, ↓reduceIte] using hq
    · simpa only [h1, decide_false, Bool.false_and, Bool.false_eq_true, ↓reduceIte] using hq
  | _ => exact hq
/-! steps -/
theorem aAll_map {ds : List D} {p : D → Bool} {m : Mu} {Q : DK} (h : Q (.bl (ds.all p)) m) : aAll [.lst (ds.map fun d => .bl (p d))] m Q := by
  refine ⟨_, ds.map p, rfl, ?_, ?_⟩
  · simp only [lstOf, List.map_map]; rfl
  · rw [List.all_map]; exact h
def maxI : List Int → Int
  | [] => 0
  | n :: r => r.foldl max n
theorem nodup_erase (l : List Int) : l.eraseDups.Nodup := by
  generalize hn : l.length = n
  induction n using Nat.strongRecOn generalizing l with
  | _ n ih =>
    cases l with
    | nil => simp
    | cons a l =>
      rw [List.eraseDups_cons, List.nodup_cons]
      refine ⟨fun h => ?_, ih _ ?_ _ rfl⟩
      · rw [List.mem_eraseDups, List.mem_filter] at h
        simp at h
      · rw [← hn, List.length_cons]
        exact Nat.lt_succ_of_le (List.length_filter_le _ _)
def card (ns : List Int) : Int := ns.eraseDups.length
theorem card_of {out ns : List Int} (h : out.Nodup) (e : ∀ k, k ∈ out ↔ k ∈ ns) : (out.length : Int) = card ns := by
  unfold card
  have h2 : ns.eraseDups.Nodup := nodup_erase ns
  have : out.Perm ns.eraseDups := (List.perm_ext_iff_of_nodup h h2).mpr fun k => by rw [e k, List.mem_eraseDups]
  rw [this.length_eq]
def gbehind (st : D) (g : Int) : Int := match st with
  | .tup ds => if (ds.length : Int) = g ∧ ds.all (fun d => betw d 0 (g - 2)) = true then (if maxI (ds.map toI) = card (ds.map toI) - 1 then card (ds.map toI) else 0) else 0
  | _ => 0
def s_groups_behind : DSp := fun ds m Q => ∃ st g, ds = [st, .int g] ∧ 1 ≤ g ∧ g ≤ 1000 ∧ Kn m st ∧ Q (.int (gbehind st g)) m
theorem l_groups_behind : ∀ ds m Q, s_groups_behind ds m Q → ds.length = 2 := by rintro ds m Q ⟨d, lo, rfl, _⟩; rfl
def t_groups_behind : DS := (xSeq (xIf (dOr (dNot (dTest (dIsi "tuple" (dVar 0)))) (dTest (dOp aNe (dCB aLen (dCons (dVar 0) dNil)) (dVar 1)))) (xRet (dC (.int 0))) xNext)
  (xSeq (xIf (dNot (dTest (dCB aAll (dCons (dLc (sSeq (dVar 0)) [3] (gV 3) dYes (dCB s_is_between (dCons (dVar 3) (dCons (dC (.int 0)) (dCons (dOp aSub (dVar 1) (dC (.int 2))) dNil))))) dNil)))) (xRet (dC (.int 0))) xNext)
  (xSeq (xAsg (dLenSet (dVar 0)) (gV 2))
  (xRet (dIf (dTest (dOp aEq (dCB aMax (dCons (dVar 0) dNil)) (dOp aSub (dVar 2) (dC (.int 1))))) (dVar 2) (dC (.int 0)))))))
theorem ints_of_betw {lo hi : Int} : ∀ {ds : List D}, ds.all (fun d => betw d lo hi) = true → ds = (ds.map toI).map D.int
  | [], _ => rfl
  | d :: ds, h => by
    rw [List.all_cons, Bool.and_eq_true] at h
    rw [List.map_cons, List.map_cons, ← ints_of_betw h.2]
    cases d with
    | int i => rfl
    | _ => exact absurd h.1 (by simp [betw])
theorem v_groups_behind : Body 4 t_groups_behind s_groups_behind := by
  rintro ds m Q ⟨st, g, rfl, g1, g2, ht, q⟩
  have hq := end_rt (m0 := m) q
  obtain ⟨t, et⟩ := ht.ty
  unfold t_groups_behind
  cases st with
  | tup es =>
    walk_at "d"
    by_cases hl : (es.length : Int) = g
    · simp only [hl, decide_true, Bool.not_true, Bool.false_eq_true, ↓reduceIte]
      refine ⟨es, .inr rfl, by rw [sizeLine_eq]; omega, ?_⟩
      refine lcGo_map (fun d => .bl (betw d 0 (g - 2))) es [] _ (fun d hd K hK => ?_) ?_
      · walk_at "d"
        exact ⟨d, 0, g - 2, rfl, ht.tup hd, hK⟩
      · rw [List.nil_append]
        refine aAll_map ⟨_, rfl, ?_⟩
        cases hb : es.all fun d => betw d 0 (g - 2) with
        | false =>
          simp only [gbehind, hb, Bool.false_eq_true, and_false, ↓reduceIte] at hq
          simpa only [Bool.not_false, ↓reduceIte] using hq
        | true =>
          have ei := ints_of_betw hb
          simp only [Bool.not_true, Bool.false_eq_true, ↓reduceIte, dLenSet]
          simp only [gbehind, hl, hb, and_self, ↓reduceIte] at hq
          generalize es.map toI = ns at ei hq
          subst ei
          rw [List.length_map] at hl
          refine ⟨_, rfl, ns, rfl, by omega, fun out nd mem => ?_⟩
          walk_at "d"
          cases ns with
          | nil => rw [List.length_nil] at hl; omega
          | cons n r =>
            refine ⟨n, r, rfl, ?_⟩
            walk_at "d"
            rw [card_of nd mem]
            simp only [maxI] at hq
            by_cases hm : r.foldl max n = card (n :: r) - 1
            · simpa only [hm, decide_true, ↓reduceIte] using hq
            · simpa only [hm, decide_false, Bool.false_eq_true, ↓reduceIte] using hq
    · simp only [hl, decide_false, Bool.not_false, ↓reduceIte]
      simpa only [gbehind, hl, false_and, ↓reduceIte] using hq
  | _ =>
    have e2 := isi_tup et
    simp only [xSeq, xIf, dOr, dNot, dTest, dIsi, dVar]
    refine ⟨_, rfl, t, et, _, rfl, ?_⟩
    rw [e2]
    exact hq

/-! attributes -/
def stepsOk : Int → List D → Bool
  | _, [] => true
  | g, st :: r => decide (gbehind st g ≠ 0) && stepsOk (gbehind st g) r
def isAttr (d : D) : Bool := match d with
  | .tup [.int n, .tup steps] => decide (1 ≤ n) && decide (n ≤ 6) && decide (steps.length ≤ 3) && stepsOk n steps
  | _ => false
theorem foldl_max_le {b : Int} : ∀ (l : List Int) (n : Int), n ≤ b → (∀ x ∈ l, x ≤ b) → l.foldl max n ≤ b
  | [], n, h, _ => h
  | x :: l, n, h, hl => foldl_max_le l (max n x) (by have := hl x List.mem_cons_self; omega) fun y hy => hl y (List.mem_cons_of_mem _ hy)
theorem card_nn (ns : List Int) : 0 ≤ card ns := Int.natCast_nonneg _
theorem gbehind_lt {st : D} {g : Int} (h1 : 1 ≤ g) : 0 ≤ gbehind st g ∧ gbehind st g < g := by
  unfold gbehind
  cases st with
  | tup ds =>
    simp only
    by_cases h : (ds.length : Int) = g ∧ (ds.all fun d => betw d 0 (g - 2)) = true
    · rw [if_pos h]
      have ei := ints_of_betw h.2
      by_cases hm : maxI (ds.map toI) = card (ds.map toI) - 1
      · rw [if_pos hm]
        refine ⟨card_nn _, ?_⟩
        cases hn : ds.map toI with
        | nil => rw [hn] at ei; rw [ei] at h; simp at h; omega
        | cons n r =>
          rw [hn] at hm ei
          have al := h.2
          rw [ei] at al
          have le : r.foldl max n ≤ g - 2 := by
            refine foldl_max_le r n ?_ fun x hx => ?_
            · have := (List.all_eq_true.mp al) (.int n) (by simp)
              simp only [betw, Bool.and_eq_true, decide_eq_true_eq] at this
              exact this.2
            · have := (List.all_eq_true.mp al) (.int x) (by simp; exact .inr hx)
              simp only [betw, Bool.and_eq_true, decide_eq_true_eq] at this
              exact this.2
          simp only [maxI] at hm
          omega
      · rw [if_neg hm]; omega
    · rw [if_neg h]; omega
  | _ => simp only; omega
def s_is_attribute : DSp := fun ds m Q => ∃ d, ds = [d] ∧ Kn m d ∧ Q (.bl (isAttr d)) m
theorem l_is_attribute : ∀ ds m Q, s_is_attribute ds m Q → ds.length = 1 := by rintro ds m Q ⟨d, rfl, _⟩; rfl
def t_is_attribute : DS := (xSeq (xIf (dOr (dNot (dTest (dIsi "tuple" (dVar 0)))) (dOr (dTest (dOp aNe (dCB aLen (dCons (dVar 0) dNil)) (dC (.int 2)))) (dNot (dTest (dCB s_is_between (dCons (dOp aIx (dVar 0) (dC (.int 0))) (dCons (dC (.int 1)) (dCons (dC (.int 6)) dNil)))))))) (xRet (dC (.bl false))) xNext)
  (xSeq (xAsg (dVar 0) (gT 2 (gC (gV 2) (gC (gV 3) gN))))
  (xSeq (xIf (dOr (dNot (dTest (dIsi "tuple" (dVar 3)))) (dTest (dOp aGt (dCB aLen (dCons (dVar 3) dNil)) (dC (.int 3))))) (xRet (dC (.bl false))) xNext)
  (xSeq (xFor (sSeq (dVar 3)) (gV 1) (xSeq (xAsg (dCB s_groups_behind (dCons (dVar 1) (dCons (dVar 2) dNil))) (gV 2))
  (xIf (dTest (dOp aEq (dVar 2) (dC (.int 0)))) (xRet (dC (.bl false))) xNext)))
  (xRet (dC (.bl true)))))))
theorem v_is_attribute : Body 4 t_is_attribute s_is_attribute := by
  rintro ds m Q ⟨d, rfl, ht, q⟩
  have hq := end_rt (m0 := m) q
  obtain ⟨t, et⟩ := ht.ty
  unfold t_is_attribute
  cases d with
  | tup es =>
    walk_at "d"
    by_cases hl : es.length = 2
    · match es, hl with
      | [n, st], _ =>
        walk_at "d"
        rw [if_neg (by decide)]
        refine ⟨n, 1, 6, rfl, ht.tup (by simp), ?_⟩
        cases n with
        | int k =>
          cases hb : betw (.int k) 1 6 with
          | false =>
            have e : isAttr (.tup [.int k, st]) = false := by
              simp only [betw] at hb
              cases st with
              | tup ss => simp only [isAttr, hb, Bool.false_and]
              | _ => rfl
            rw [e] at hq
            exact ⟨false, rfl, hq⟩
          | true =>
            refine ⟨true, rfl, ?_⟩
            simp only [betw, Bool.and_eq_true, decide_eq_true_eq] at hb
            walk_at "d"
            obtain ⟨t2, et2⟩ := (ht.tup (d := st) (by simp)).ty
            refine ⟨t2, et2, ?_⟩
            rw [isi_tup et2]
            cases st with
            | tup ss =>
              simp only [isTupD]
              walk_at "d"
              by_cases h3 : ss.length ≤ 3
              · have n3 : ¬ (3 < (ss.length : Int)) := by omega
                simp only [n3, decide_false, Bool.false_eq_true, ↓reduceIte]
                have e : isAttr (.tup [.int k, .tup ss]) = stepsOk k ss := by simp [isAttr, hb.1, hb.2, h3]
                rw [e] at hq
                have hk : ∀ d ∈ ss, Kn m d := fun d hd => (ht.tup (d := .tup ss) (by simp)).tup hd
                refine ⟨ss, .inr rfl, ?_⟩
                clear e et et2 h3 n3 q ht
                have h1 := hb.1
                have h2 : k ≤ 1000 := by omega
                clear hb
                revert hq hk h1 h2
                generalize D.tup [.int k, .tup ss] = dd
                generalize (none : Option D) = o1
                generalize hall : D.tup ss = al
                clear hall
                induction ss generalizing k o1 with
                | nil => intro hq _ _ _; exact hq
                | cons s0 ss ih =>
                  intro hq hk h1 h2
                  simp only [forGo]
                  walk_at "d"
                  refine ⟨s0, k, rfl, h1, h2, hk s0 (by simp), ?_⟩
                  have hg := gbehind_lt (st := s0) h1
                  walk_at "d"
                  rw [stepsOk] at hq
                  by_cases hz : gbehind s0 k = 0
                  · simp only [hz, decide_true, ↓reduceIte]
                    simpa only [hz, ne_eq, not_true_eq_false, decide_false, Bool.false_and] using hq
                  · simp only [hz, decide_false, Bool.false_eq_true, ↓reduceIte]
                    simp only [ne_eq, hz, not_false_eq_true, decide_true, Bool.true_and] at hq
                    exact ih (gbehind s0 k) rfl (some s0) hq (fun d hd => hk d (by simp [hd])) (by omega) (by omega)
              · have n3 : 3 < (ss.length : Int) := by omega
                simp only [n3, decide_true, ↓reduceIte]
                have e : isAttr (.tup [.int k, .tup ss]) = false := by simp [isAttr, h3]
                rw [e] at hq
                exact hq
            | _ => exact hq
        | _ => exact ⟨false, rfl, hq⟩
    · have n2 : ¬ ((es.length : Int) = 2) := by omega
      simp only [n2, decide_false, Bool.not_false, ↓reduceIte]
      have e : isAttr (.tup es) = false := by
        match es, hl with
        | [], _ => rfl
        | [a], _ => cases a <;> rfl
        | a :: b :: c :: r, _ => cases a <;> cases b <;> rfl
      rw [e] at hq
      exact hq
  | _ =>
    have e2 := isi_tup et
    simp only [xSeq, xIf, dOr, dNot, dTest, dIsi, dVar]
    refine ⟨_, rfl, t, et, _, rfl, ?_⟩
    rw [e2]
    exact hq
/-! schemes -/
def prodI (ns : List Int) : Int := ns.foldl (fun a n => a * n) 1
def s_product_of : DSp := fun ds m Q => ∃ ns : List Int, ds = [.lst (ns.map D.int)] ∧ (∀ n ∈ ns, 0 ≤ n ∧ n ≤ 1000) ∧ ns.length ≤ 4 ∧ Q (.int (prodI ns)) m
theorem l_product_of : ∀ ds m Q, s_product_of ds m Q → ds.length = 1 := by rintro ds m Q ⟨d, rfl, _⟩; rfl
def t_product_of : DS := (xSeq (xAsg (dC (.int 1)) (gV 1))
  (xSeq (xFor (sSeq (dVar 0)) (gV 2) (xAsg (dOp aMulA (dVar 1) (dVar 2)) (gV 1)))
  (xRet (dVar 1))))
theorem v_product_of : Body 3 t_product_of s_product_of := by
  rintro ds m Q ⟨ns, rfl, hn, hl, q⟩
  have hq := end_rt (m0 := m) q
  unfold t_product_of
  walk_at "d"
  refine ⟨_, .inl rfl, ?_⟩
  unfold prodI at hq
  generalize (none : Option D) = o2
  generalize (1 : Int) = a at hq ⊢
  generalize D.lst (ns.map D.int) = al
  clear q hl
  induction ns generalizing a o2 with
  | nil =>
    simp only [List.map_nil, forGo]
    walk_at "d"
    exact hq
  | cons n ns ih =>
    simp only [List.map_cons, forGo]
    walk_at "d"
    have h := hn n (by simp)
    refine ⟨.inr ⟨by omega, by omega⟩, ih (fun x hx => hn x (by simp [hx])) (some (D.int n)) (a * n) hq⟩
def firstI (d : D) : Int := match d with
  | .tup (.int n :: _) => n
  | _ => 0
def isSch (d : D) : Bool := match d with
  | .tup as => decide (1 ≤ as.length) && decide (as.length ≤ 3) && as.all isAttr && decide (prodI (as.map firstI) ≤ 60)
  | _ => false
theorem isAttr_is {d : D} (h : isAttr d = true) : ∃ n ss, d = .tup [.int n, .tup ss] ∧ 1 ≤ n ∧ n ≤ 6 ∧ ss.length ≤ 3 := by
  unfold isAttr at h
  split at h
  · simp only [Bool.and_eq_true, decide_eq_true_eq] at h
    exact ⟨_, _, rfl, h.1.1.1, h.1.1.2, h.1.2⟩
  · cases h
def s_is_scheme : DSp := fun ds m Q => ∃ d, ds = [d] ∧ Kn m d ∧ Q (.bl (isSch d)) m
theorem l_is_scheme : ∀ ds m Q, s_is_scheme ds m Q → ds.length = 1 := by rintro ds m Q ⟨d, rfl, _⟩; rfl
def t_is_scheme : DS := (xSeq (xIf (dOr (dNot (dTest (dIsi "tuple" (dVar 0)))) (dNot (dTest (dChain aLe aLe (dC (.int 1)) (dCB aLen (dCons (dVar 0) dNil)) (dC (.int 3)))))) (xRet (dC (.bl false))) xNext)
  (xSeq (xIf (dNot (dTest (dCB aAll (dCons (dLc (sSeq (dVar 0)) [1] (gV 1) dYes (dCB s_is_attribute (dCons (dVar 1) dNil))) dNil)))) (xRet (dC (.bl false))) xNext)
  (xRet (dOp aLe (dCB s_product_of (dCons (dLc (sSeq (dVar 0)) [1] (gV 1) dYes (dOp aIx (dVar 1) (dC (.int 0)))) dNil)) (dC (.int 60))))))
theorem v_is_scheme : Body 2 t_is_scheme s_is_scheme := by
  rintro ds m Q ⟨d, rfl, ht, q⟩
  have hq := end_rt (m0 := m) q
  obtain ⟨t, et⟩ := ht.ty
  unfold t_is_scheme
  cases d with
  | tup as =>
    walk_at "d"
    by_cases h1 : 1 ≤ as.length
    · by_cases h2 : as.length ≤ 3
      · have e1 : (1 : Int) ≤ as.length := by omega
        have e2 : (as.length : Int) ≤ 3 := by omega
        simp only [e1, e2, decide_true, Bool.not_true, Bool.false_eq_true, ↓reduceIte]
        have hz : as.length ≤ sizeLine := by rw [sizeLine_eq]; omega
        refine ⟨as, .inr rfl, hz, lcGo_map (fun d => .bl (isAttr d)) as [] _ (fun d hd K hK => ?_) ?_⟩
        · walk_at "d"
          exact ⟨d, rfl, ht.tup hd, hK⟩
        rw [List.nil_append]
        refine aAll_map ⟨_, rfl, ?_⟩
        simp only [isSch, h1, h2, decide_true, Bool.true_and] at hq
        cases ha : as.all isAttr with
        | false =>
          simp only [ha, Bool.false_and] at hq
          simpa only [Bool.not_false, ↓reduceIte] using hq
        | true =>
          simp only [ha, Bool.true_and] at hq
          simp only [Bool.not_true, Bool.false_eq_true, ↓reduceIte]
          have hat : ∀ d ∈ as, ∃ n ss, d = .tup [.int n, .tup ss] ∧ 1 ≤ n ∧ n ≤ 6 ∧ ss.length ≤ 3 := fun d hd => isAttr_is (List.all_eq_true.mp ha d hd)
          refine ⟨as, .inr rfl, hz, lcGo_map (fun d => .int (firstI d)) as [] _ (fun d hd K hK => ?_) ?_⟩
          · obtain ⟨n, ss, rfl, _⟩ := hat d hd
            walk_at "d"
            exact hK
          rw [List.nil_append]
          refine ⟨as.map firstI, by rw [List.map_map]; rfl, fun n hn => ?_, by rw [List.length_map]; omega, ?_⟩
          · obtain ⟨d, hd, rfl⟩ := List.mem_map.mp hn
            obtain ⟨n, ss, rfl, b1, b2, _⟩ := hat d hd
            simp only [firstI]
            omega
          · walk_at "d"
            exact hq
      · have e1 : (1 : Int) ≤ as.length := by omega
        have e2 : ¬ (as.length : Int) ≤ 3 := by omega
        simp only [e1, e2, decide_true, decide_false, ↓reduceIte]
        walk_at "d"
        simpa only [isSch, h2, decide_false, Bool.and_false, Bool.false_and] using hq
    · have e1 : ¬ (1 : Int) ≤ as.length := by omega
      simp only [e1, decide_false]
      walk_at "d"
      simpa only [isSch, h1, decide_false, Bool.false_and] using hq
  | _ =>
    have e2 := isi_tup et
    simp only [xSeq, xIf, dOr, dNot, dTest, dIsi, dVar]
    refine ⟨_, rfl, t, et, _, rfl, ?_⟩
    rw [e2]
    exact hq
end Mn

set_option linter.all false
set_option maxHeartbeats 4000000
set_option autoImplicit false
set_option maxRecDepth 100000
namespace Mn
open PySem L2
variable [Tbs]
local macro_rules | `(tactic| walk_at "d") => `(tactic| (try simp only [xNext, xSeq, xAsg, xRet, xRetF, xDrop, xIf, xPar, xPut, xAug, xFor, dVar, dC, dOp, dTest, dChain, dAndV, dOrV, dNotV, dAnd, dOr, dNot, dIf, dNil, dCons, dTup, dLst, dLstM, dCB, dIsi, dLc, dLcM, dYes, wipeD, sSeq, sSeq_tup, sSeq_lst, sRg1, sRg2, sZip2, sZip3, sEnum, gV, gN, gC, gT, tupOf_tup, tupOf_pair, aAdd_int, aAdd_tup, aAdd_lst, aSub_int, aMul_int, aDiv_int, aMod_int, aPow_int, aCmp_int, aIx_tup, aIx_lst, aIx_scr, aIx_pair, aMax_int, aMin_int, aInt_bl, aInt_int, aLen_tup, aLen_lst, aLen_scr, aLen_pair, aTuple_lst, aTuple_tup, aEq_int, aNe_int, startD, List.map_cons, List.map_nil, List.length_cons, List.length_nil, List.cons_append, List.nil_append, List.replicate_zero, List.replicate_succ, List.append_nil, List.getElem?_cons_zero, List.getElem?_cons_succ, List.set_cons_zero, List.set_cons_succ, Option.some.injEq, exists_eq_left', exists_eq_left, exists_eq', D.int.injEq, D.bl.injEq, D.tup.injEq, D.lst.injEq, D.pair.injEq, D.ref.injEq, List.cons.injEq, Nat.sub_self, Nat.zero_add, Nat.add_sub_cancel, seqI_tup, seqI_lst, seqOf_tup, seqOf_lst, tyN_tup, tyN_lst, tyN_int, tyN_bl, tyN_str, tyN_non, isi_tt, at_0, at_1, at_2, at_3, Option.map_some, true_and, and_true, if_true, Bool.false_eq_true, if_false, Bool.not_true, Bool.not_false, ↓reduceIte, Nat.reduceAdd, Nat.reduceSub, exists_and_left, and_assoc]))

/-! schemes, in plain data -/
structure At where
  n : Nat
  ss : List (List Nat)
abbrev Sch := List At
def nD (k : Nat) : D := .int (k : Int)
def tD (l : List Nat) : D := .tup (l.map nD)
def At.enc (a : At) : D := .tup [nD a.n, .tup (a.ss.map tD)]
def encS (s : Sch) : D := .tup (s.map At.enc)
def Stp1 (g : Nat) (s : List Nat) (g' : Nat) : Prop := s.length = g ∧ g' < g ∧ (∀ x ∈ s, x < g') ∧ ∀ y, y < g' → y ∈ s
def stepsV : Nat → List (List Nat) → Prop
  | _, [] => True
  | g, s :: r => ∃ g', Stp1 g s g' ∧ stepsV g' r
def At.V (a : At) : Prop := 1 ≤ a.n ∧ a.n ≤ 6 ∧ a.ss.length ≤ 3 ∧ stepsV a.n a.ss
def prodN (l : List Nat) : Nat := l.foldl (fun a n => a * n) 1
def SchV (s : Sch) : Prop := 1 ≤ s.length ∧ s.length ≤ 3 ∧ (∀ a ∈ s, a.V) ∧ prodN (s.map At.n) ≤ 60
theorem maxI_of {ns : List Int} {b : Int} (h1 : ∀ x ∈ ns, x ≤ b) (h2 : b ∈ ns) : maxI ns = b := by
  cases ns with
  | nil => cases h2
  | cons n r =>
    have up : ∀ (l : List Int) (a : Int), a ≤ l.foldl max a ∧ ∀ x ∈ l, x ≤ l.foldl max a := by
      intro l
      induction l with
      | nil => intro a; exact ⟨Int.le_refl _, fun _ h => nomatch h⟩
      | cons y l ih =>
        intro a
        have := ih (max a y)
        simp only [List.foldl_cons]
        refine ⟨by omega, fun x hx => ?_⟩
        rcases List.mem_cons.mp hx with rfl | hx
        · omega
        · exact this.2 x hx
    have le := foldl_max_le r n (h1 n (by simp)) fun x hx => h1 x (by simp [hx])
    have ge := up r n
    simp only [maxI]
    rcases List.mem_cons.mp h2 with rfl | h2
    · omega
    · have := ge.2 b h2; omega
theorem toI_nD (l : List Nat) : (l.map nD).map toI = l.map (fun k : Nat => (k : Int)) := by
  rw [List.map_map]; rfl
theorem gbehind_step {g : Nat} {s : List Nat} {g' : Nat} (h : Stp1 g s g') (hg : 1 ≤ g) : gbehind (tD s) g = g' ∧ 1 ≤ g' := by
  obtain ⟨hl, hlt, hx, hy⟩ := h
  have g1 : 1 ≤ g' := by
    cases s with
    | nil => rw [List.length_nil] at hl; omega
    | cons a r => have := hx a (by simp); omega
  refine ⟨?_, g1⟩
  have hall : ((s.map nD).all fun d => betw d 0 ((g : Int) - 2)) = true := by
    rw [List.all_eq_true]
    intro d hd
    obtain ⟨k, hk, rfl⟩ := List.mem_map.mp hd
    have := hx k hk
    simp only [betw, nD, Bool.and_eq_true, decide_eq_true_eq]
    omega
  have hc : card (s.map fun k : Nat => (k : Int)) = g' := by
    have e := card_of (out := (List.range g').map fun k : Nat => (k : Int)) (ns := s.map fun k : Nat => (k : Int)) ?_ ?_
    · rw [← e, List.length_map, List.length_range]
    · exact List.Pairwise.map _ (fun a b h e => h (by omega)) List.nodup_range
    · intro k
      simp only [List.mem_map, List.mem_range]
      constructor
      · rintro ⟨a, ha, rfl⟩; exact ⟨a, hy a ha, rfl⟩
      · rintro ⟨a, ha, rfl⟩; exact ⟨a, hx a ha, rfl⟩
  have hm : maxI (s.map fun k : Nat => (k : Int)) = (g' : Int) - 1 := by
    refine maxI_of (fun x hx' => ?_) ?_
    · obtain ⟨a, ha, rfl⟩ := List.mem_map.mp hx'
      have := hx a ha
      omega
    · exact List.mem_map.mpr ⟨g' - 1, hy (g' - 1) (by omega), by omega⟩
  simp only [gbehind, tD]
  rw [if_pos ⟨by rw [List.length_map, hl], hall⟩, toI_nD, hc, hm, if_pos rfl]
theorem stepsOk_of : ∀ {ss : List (List Nat)} {g : Nat}, 1 ≤ g → stepsV g ss → stepsOk g (ss.map tD) = true
  | [], _, _, _ => rfl
  | s :: ss, g, hg, ⟨g', h1, h2⟩ => by
    obtain ⟨e, g1⟩ := gbehind_step h1 hg
    rw [List.map_cons, stepsOk, e, stepsOk_of g1 h2, Bool.and_true, decide_eq_true_eq]
    omega
theorem At.V.ok {a : At} (h : a.V) : isAttr a.enc = true := by
  obtain ⟨h1, h2, h3, h4⟩ := h
  simp only [At.enc, isAttr, nD, Bool.and_eq_true, decide_eq_true_eq, List.length_map]
  exact ⟨⟨⟨by omega, by omega⟩, h3⟩, stepsOk_of h1 h4⟩
theorem prod_cast : ∀ (l : List Nat) (a : Nat), (l.map fun k : Nat => (k : Int)).foldl (fun a n => a * n) (a : Int) = ((l.foldl (fun a n => a * n) a : Nat) : Int)
  | [], _ => rfl
  | n :: l, a => by
    rw [List.map_cons, List.foldl_cons, List.foldl_cons, ← prod_cast l (a * n)]
    rw [Int.natCast_mul]
theorem SchV.ok {s : Sch} (h : SchV s) : isSch (encS s) = true := by
  obtain ⟨h1, h2, h3, h4⟩ := h
  simp only [encS, isSch, Bool.and_eq_true, decide_eq_true_eq, List.length_map]
  refine ⟨⟨⟨h1, h2⟩, ?_⟩, ?_⟩
  · rw [List.all_eq_true]
    intro d hd
    obtain ⟨a, ha, rfl⟩ := List.mem_map.mp hd
    exact (h3 a ha).ok
  · rw [List.map_map]
    have e : (s.map (firstI ∘ At.enc)) = (s.map At.n).map fun k : Nat => (k : Int) := by rw [List.map_map]; rfl
    rw [e]
    have := prod_cast (s.map At.n) 1
    unfold prodI
    rw [show (1 : Int) = ((1 : Nat) : Int) from rfl, this]
    exact Int.ofNat_le.mpr h4
theorem refs_map {α : Type} {f : α → D} (h : ∀ x, refs (f x) = []) : ∀ l : List α, refsL (l.map f) = []
  | [] => by simp [refsL]
  | x :: l => by rw [List.map_cons, refsL, h x, refs_map h l]; rfl
theorem refs_tD (l : List Nat) : refs (tD l) = [] := by
  rw [tD, refs]; exact refs_map (fun x => by simp [nD, refs]) l
theorem refs_enc (a : At) : refs a.enc = [] := by
  simp only [At.enc, refs, refsL, nD, List.nil_append, List.append_nil]
  exact refs_map refs_tD a.ss
theorem refs_encS (s : Sch) : refs (encS s) = [] := by
  rw [encS, refs]; exact refs_map refs_enc s
theorem kn_encS (m : Mu) (s : Sch) : Kn m (encS s) := .of (refs_encS s)
theorem kn_tD (m : Mu) (l : List Nat) : Kn m (tD l) := .of (refs_tD l)
/-! rollups -/
def isRoll (s : Sch) (d : D) : Bool := match d with
  | .tup ls => decide (ls.length = s.length) && (List.zipWith (fun (a : At) l => betw l 0 a.ss.length) s ls).all id
  | _ => false
def s_is_rollup : DSp := fun ds m Q => ∃ s d, ds = [encS s, d] ∧ s.length ≤ 3 ∧ Kn m d ∧ Q (.bl (isRoll s d)) m
theorem l_is_rollup : ∀ ds m Q, s_is_rollup ds m Q → ds.length = 2 := by rintro ds m Q ⟨s, d, rfl, _⟩; rfl
def t_is_rollup : DS := (xSeq (xIf (dOr (dNot (dTest (dIsi "tuple" (dVar 1)))) (dTest (dOp aNe (dCB aLen (dCons (dVar 1) dNil)) (dCB aLen (dCons (dVar 0) dNil))))) (xRet (dC (.bl false))) xNext)
  (xRet (dCB aAll (dCons (dLc (sZip2 (dVar 0) (dVar 1)) [2, 3] (gT 2 (gC (gV 2) (gC (gV 3) gN))) dYes (dCB s_is_between (dCons (dVar 3) (dCons (dC (.int 0)) (dCons (dCB aLen (dCons (dOp aIx (dVar 2) (dC (.int 1))) dNil)) dNil))))) dNil))))
/-- over zip: the pairs -/
theorem lcGo_zip {α β : Type} {g : DG} {te : DT} {r : Ro} {m : Mu} {ea : α → D} {eb : β → D} (f : α → β → D) : ∀ (as : List α) (bs : List β) (acc : List D) (Q : List D → Mu → Prop),
    (∀ a ∈ as, ∀ b ∈ bs, ∀ K : DK, K (f a b) m → g (.pair [ea a, eb b]) r fun r1 => te r1 m K) → Q (acc ++ List.zipWith f as bs) m → lcGo g dYes te r (zip2 (as.map ea) (bs.map eb)) acc m Q
  | [], bs, acc, Q, _, h => by
    rw [List.zipWith_nil_left, List.append_nil] at h
    rw [List.map_nil, zip2, List.zipWith_nil_left]
    exact h
  | a :: as, [], acc, Q, _, h => by
    rw [List.zipWith_nil_right, List.append_nil] at h
    rw [List.map_nil, zip2, List.zipWith_nil_right]
    exact h
  | a :: as, b :: bs, acc, Q, hf, h => by
    rw [List.map_cons, List.map_cons, zip2, List.zipWith_cons_cons]
    show g (.pair [ea a, eb b]) r fun r1 => te r1 m fun y m2 => lcGo g dYes te r (zip2 (as.map ea) (bs.map eb)) (acc ++ [y]) m2 Q
    refine hf a List.mem_cons_self b List.mem_cons_self _ ?_
    refine lcGo_zip f as bs (acc ++ [f a b]) Q (fun x hx y hy => hf x (List.mem_cons_of_mem _ hx) y (List.mem_cons_of_mem _ hy)) ?_
    rw [List.append_assoc]
    exact h
theorem aAll_list {bs : List Bool} {m : Mu} {Q : DK} (h : Q (.bl (bs.all id)) m) : aAll [.lst (bs.map D.bl)] m Q := ⟨_, bs, rfl, rfl, h⟩
theorem zip2_len (xs ys : List D) : (zip2 xs ys).length = min xs.length ys.length := List.length_zipWith
theorem map_zipWith' {α β γ δ : Type} (f : γ → δ) (g : α → β → γ) : ∀ (xs : List α) (ys : List β), List.zipWith (fun a b => f (g a b)) xs ys = (List.zipWith g xs ys).map f
  | [], _ => by simp
  | _ :: _, [] => by simp
  | x :: xs, y :: ys => by rw [List.zipWith_cons_cons, List.zipWith_cons_cons, List.map_cons, map_zipWith' f g xs ys]
theorem small {n k : Nat} (h : n ≤ k) (hk : k ≤ 16777216 := by decide) : n ≤ sizeLine := by rw [sizeLine_eq]; omega
theorem v_is_rollup : Body 4 t_is_rollup s_is_rollup := by
  rintro ds m Q ⟨s, d, rfl, hs, ht, q⟩
  have hq := end_rt (m0 := m) q
  obtain ⟨t, et⟩ := ht.ty
  unfold t_is_rollup
  cases d with
  | tup ls =>
    unfold encS
    walk_at "d"
    rw [List.length_map]
    by_cases hl : ls.length = s.length
    · have e1 : (ls.length : Int) = s.length := by omega
      simp only [e1, decide_true, Bool.not_true, Bool.false_eq_true, ↓reduceIte]
      refine ⟨by rw [zip2_len, List.length_map]; exact small (k := 3) (by omega), ?_⟩
      have z := lcGo_zip (g := gT 2 (gC (gV 2) (gC (gV 3) gN))) (te := (dCB s_is_between (dCons (dVar 3) (dCons (dC (.int 0)) (dCons (dCB aLen (dCons (dOp aIx (dVar 2) (dC (.int 1))) dNil)) dNil))))) (r := [some (.tup (s.map At.enc)), some (.tup ls), none, none]) (m := m) (ea := At.enc) (eb := id) (fun (a : At) l => .bl (betw l 0 a.ss.length)) s ls []
        (fun acc m2 => aAll [.lst acc] m2 (endD m Q).rt) (fun a ha l hl2 K hK => ?_) ?_
      · rw [List.map_id] at z
        exact z
      · simp only [At.enc, id_eq]
        walk_at "d"
        rw [List.length_map]
        exact ⟨l, 0, a.ss.length, rfl, ht.tup hl2, hK⟩
      · rw [List.nil_append, map_zipWith' D.bl]
        refine aAll_list ?_
        simpa only [isRoll, hl, decide_true, Bool.true_and] using hq
    · have e1 : ¬ (ls.length : Int) = s.length := by omega
      simp only [e1, decide_false, Bool.not_false, ↓reduceIte]
      simpa only [isRoll, hl, decide_false, Bool.false_and] using hq
  | _ =>
    have e2 := isi_tup et
    simp only [xSeq, xIf, dOr, dNot, dTest, dIsi, dVar]
    refine ⟨_, rfl, t, et, _, rfl, ?_⟩
    rw [e2]
    exact hq
def fineB (a b : List Nat) : Bool := (List.zipWith (fun x y => decide (x ≤ y)) a b).all id
def s_are_fine : DSp := fun ds m Q => ∃ a b : List Nat, ds = [tD a, tD b] ∧ a.length ≤ 1000 ∧ Q (.bl (fineB a b)) m
theorem l_are_fine : ∀ ds m Q, s_are_fine ds m Q → ds.length = 2 := by rintro ds m Q ⟨s, d, rfl, _⟩; rfl
def t_are_fine : DS := (xRet (dCB aAll (dCons (dLc (sZip2 (dVar 0) (dVar 1)) [2, 3] (gT 2 (gC (gV 2) (gC (gV 3) gN))) dYes (dOp aLe (dVar 2) (dVar 3))) dNil)))
theorem v_are_fine : Body 4 t_are_fine s_are_fine := by
  rintro ds m Q ⟨a, b, rfl, hl, q⟩
  have hq := end_rt (m0 := m) q
  unfold t_are_fine tD
  walk_at "d"
  refine ⟨by rw [zip2_len, List.length_map]; exact small (k := 1000) (by omega), ?_⟩
  refine lcGo_zip (fun x y => .bl (decide (x ≤ y))) a b [] _ (fun x hx y hy K hK => ?_) ?_
  · simp only [nD]
    walk_at "d"
    have e : decide ((x : Int) ≤ (y : Int)) = decide (x ≤ y) := by simp
    rw [e]
    exact hK
  · rw [List.nil_append, map_zipWith' D.bl]
    exact aAll_list hq
/-! what is needed -/
def s_need_scheme : DSp := fun ds m Q => ∃ s, ds = [encS s] ∧ SchV s ∧ Q .non m
theorem l_need_scheme : ∀ ds m Q, s_need_scheme ds m Q → ds.length = 1 := by rintro ds m Q ⟨s, rfl, _⟩; rfl
def t_need_scheme : DS := (xIf (dNot (dTest (dCB s_is_scheme (dCons (dVar 0) dNil)))) xNever xNext)
theorem v_need_scheme : Body 1 t_need_scheme s_need_scheme := by
  rintro ds m Q ⟨s, rfl, hs, q⟩
  unfold t_need_scheme
  walk_at "d"
  refine ⟨_, rfl, kn_encS m s, _, rfl, ?_⟩
  rw [hs.ok]
  exact end_nx q
def Roll (s : Sch) (r : List Nat) : Prop := isRoll s (tD r) = true
theorem Roll.len {s : Sch} {r : List Nat} (h : Roll s r) : r.length = s.length := by
  simp only [Roll, tD, isRoll, Bool.and_eq_true, decide_eq_true_eq, List.length_map] at h
  exact h.1
def s_need_rollup : DSp := fun ds m Q => ∃ s r, ds = [encS s, tD r] ∧ s.length ≤ 3 ∧ Roll s r ∧ Q .non m
theorem l_need_rollup : ∀ ds m Q, s_need_rollup ds m Q → ds.length = 2 := by rintro ds m Q ⟨s, r, rfl, _⟩; rfl
def t_need_rollup : DS := (xIf (dNot (dTest (dCB s_is_rollup (dCons (dVar 0) (dCons (dVar 1) dNil))))) xNever xNext)
theorem v_need_rollup : Body 2 t_need_rollup s_need_rollup := by
  rintro ds m Q ⟨s, r, rfl, hs, hr, q⟩
  unfold t_need_rollup
  walk_at "d"
  refine ⟨s, _, rfl, hs, kn_tD m r, _, rfl, ?_⟩
  rw [hr]
  exact end_nx q
def s_need_two : DSp := fun ds m Q => ∃ s a b, ds = [encS s, tD a, tD b] ∧ SchV s ∧ Roll s a ∧ Roll s b ∧ Q .non m
theorem l_need_two : ∀ ds m Q, s_need_two ds m Q → ds.length = 3 := by rintro ds m Q ⟨s, a, b, rfl, _⟩; rfl
def t_need_two : DS := (xSeq (xDrop (dCB s_need_scheme (dCons (dVar 0) dNil)))
  (xSeq (xDrop (dCB s_need_rollup (dCons (dVar 0) (dCons (dVar 1) dNil))))
  (xDrop (dCB s_need_rollup (dCons (dVar 0) (dCons (dVar 2) dNil))))))
theorem v_need_two : Body 3 t_need_two s_need_two := by
  rintro ds m Q ⟨s, a, b, rfl, hs, ha, hb, q⟩
  unfold t_need_two
  walk_at "d"
  refine ⟨s, rfl, hs, s, a, rfl, hs.2.1, ha, s, b, rfl, hs.2.1, hb, end_nx q⟩
def s_is_fine : DSp := fun ds m Q => ∃ s a b, ds = [encS s, tD a, tD b] ∧ SchV s ∧ Roll s a ∧ Roll s b ∧ Q (.bl (fineB a b)) m
theorem l_is_fine : ∀ ds m Q, s_is_fine ds m Q → ds.length = 3 := by rintro ds m Q ⟨s, a, b, rfl, _⟩; rfl
def t_is_fine : DS := (xSeq (xDrop (dCB s_need_two (dCons (dVar 0) (dCons (dVar 1) (dCons (dVar 2) dNil)))))
  (xRet (dCB s_are_fine (dCons (dVar 1) (dCons (dVar 2) dNil)))))
theorem v_is_fine : Body 3 t_is_fine s_is_fine := by
  rintro ds m Q ⟨s, a, b, rfl, hs, ha, hb, q⟩
  unfold t_is_fine
  walk_at "d"
  have := ha.len; have := hs.2.1
  exact ⟨s, a, b, rfl, hs, ha, hb, a, b, rfl, by omega, end_rt q⟩
end Mn

set_option linter.all false
set_option maxHeartbeats 4000000
set_option autoImplicit false
set_option maxRecDepth 100000
namespace Mn
open PySem L2
variable [Tbs]
local macro_rules | `(tactic| walk_at "d") => `(tactic| (try simp only [xNext, xSeq, xAsg, xRet, xRetF, xDrop, xIf, xPar, xPut, xAug, xFor, dVar, dC, dOp, dTest, dChain, dAndV, dOrV, dNotV, dAnd, dOr, dNot, dIf, dNil, dCons, dTup, dLst, dLstM, dCB, dIsi, dLc, dLcM, dYes, wipeD, sSeq, sSeq_tup, sSeq_lst, sRg1, sRg2, sZip2, sZip3, sEnum, gV, gN, gC, gT, aAdd_int, aAdd_tup, aAdd_lst, aSub_int, aMul_int, aDiv_int, aMod_int, aPow_int, aCmp_int, aIx_tup, aIx_lst, aIx_scr, aMax_int, aMin_int, aInt_bl, aInt_int, aLen_tup, aLen_lst, aLen_scr, aTuple_lst, aTuple_tup, aEq_int, aNe_int, startD, List.map_cons, List.map_nil, List.length_cons, List.length_nil, List.cons_append, List.nil_append, List.replicate_zero, List.replicate_succ, List.append_nil, List.getElem?_cons_zero, List.getElem?_cons_succ, List.set_cons_zero, List.set_cons_succ, Option.some.injEq, exists_eq_left', exists_eq_left, exists_eq', D.int.injEq, D.bl.injEq, D.tup.injEq, D.lst.injEq, D.ref.injEq, List.cons.injEq, Nat.sub_self, Nat.zero_add, Nat.add_sub_cancel, seqI_tup, seqI_lst, seqOf_tup, seqOf_lst, tyN_tup, tyN_lst, tyN_int, tyN_bl, tyN_str, tyN_non, isi_tt, at_0, at_1, at_2, at_3, Option.map_some, true_and, and_true, if_true, Bool.false_eq_true, if_false, Bool.not_true, Bool.not_false, ↓reduceIte, Nat.reduceAdd, Nat.reduceSub, exists_and_left, and_assoc]))
/-! small data: pure, shallow, short when shown -/
def Sm (d : D) (k n : Nat) : Prop := pur d = true ∧ (py d).canLay0 = true ∧ (py d).depth ≤ k ∧ (py d).showable = true ∧ (py d).shown.length ≤ n
theorem Sm.mono {d : D} {k n k' n' : Nat} (h : Sm d k n) (hk : k ≤ k') (hn : n ≤ n') : Sm d k' n' := ⟨h.1, h.2.1, by have := h.2.2.1; omega, h.2.2.2.1, by have := h.2.2.2.2; omega⟩
theorem sm_int {i : Int} (h : i.natAbs < 10 ^ 18) : Sm (.int i) 0 20 := by
  refine ⟨rfl, rfl, Nat.zero_le _, ?_, ?_⟩
  · show decide (i.natAbs.log2 < 1920) = true
    rw [decide_eq_true_eq]
    by_cases h0 : i.natAbs = 0
    · rw [h0]; decide
    · rw [Nat.log2_lt h0]
      exact Nat.lt_of_lt_of_le (Nat.lt_trans h (show 10 ^ 18 < 2 ^ 64 by decide)) (Nat.pow_le_pow_right (by decide) (by decide))
  · show (Str.ofString (toString i)).length ≤ 20
    have := int_text_length_le10 (k := 18) (by decide) h
    rw [ofString_length]; omega
theorem textFrom_le : ∀ (ts : List Str) (k : Nat) (acc : Str), (textFrom k acc ts).length ≤ acc.length + piled ts
  | [], k, acc => by show acc.length ≤ _; omega
  | t :: r, k, acc => by
    have h := textFrom_le r (k + 1) (acc ++ (if k > 0 then ", " else "" : String) ++ t)
    have e : (acc ++ (if k > 0 then ", " else "" : String) ++ t).length ≤ acc.length + 2 + t.length := by
      rw [strLen_append, strLen_append]
      have : (((if k > 0 then ", " else "" : String) : Str)).length ≤ 2 := by split <;> decide
      omega
    show (textFrom (k + 1) _ r).length ≤ _
    rw [piled_cons]
    omega
theorem piled_le {n : Nat} : ∀ {ts : List Str}, (∀ t ∈ ts, t.length ≤ n) → piled ts ≤ ts.length * (n + 2)
  | [], _ => by simp [piled]
  | t :: r, h => by
    have h1 := h t (by simp)
    have h2 := piled_le (ts := r) fun u hu => h u (by simp [hu])
    rw [piled_cons, List.length_cons, Nat.add_mul]
    omega
theorem listText_le (ts : List Str) : (listText ts).length ≤ piled ts + 3 := by
  unfold listText
  rw [strLen_append]
  have := textFrom_le ts 0 "["
  have e : ((("[" : String) : Str)).length = 1 := rfl
  have e2 : ((("]" : String) : Str)).length = 1 := rfl
  omega
theorem tupleText_le (ts : List Str) : (tupleText ts).length ≤ piled ts + 3 := by
  unfold tupleText
  rw [strLen_append, strLen_append]
  have e1 : ((("(" : String) : Str)).length = 1 := rfl
  have e3 : (((if ts.length == 1 then ",)" else ")" : String) : Str)).length ≤ 2 := by split <;> decide
  by_cases h : ts = []
  · subst h
    have : (Str.join ", " ([] : List Str)).length = 0 := rfl
    omega
  · have := join_length_add ts h
    omega
theorem sm_all {k n : Nat} : ∀ {ds : List D}, (∀ d ∈ ds, Sm d k n) → purL ds = true ∧ PyData.canLayAll0 (pyL ds) = true ∧ PyData.depthAll (pyL ds) ≤ k ∧ PyData.showableAll (pyL ds) = true ∧ (∀ t ∈ PyData.shownAll (pyL ds), t.length ≤ n) ∧ (PyData.shownAll (pyL ds)).length = ds.length
  | [], _ => ⟨rfl, rfl, Nat.zero_le _, rfl, (fun _ h => nomatch h), rfl⟩
  | d :: ds, h => by
    obtain ⟨a1, a2, a3, a4, a5⟩ := h d (by simp)
    obtain ⟨b1, b2, b3, b4, b5, b6⟩ := sm_all (ds := ds) fun x hx => h x (by simp [hx])
    refine ⟨?_, ?_, ?_, ?_, ?_, ?_⟩
    · rw [purL, a1, b1]; rfl
    · rw [pyL, PyData.canLayAll0, a2, b2]; rfl
    · rw [pyL, PyData.depthAll]; omega
    · rw [pyL, PyData.showableAll, a4, b4]; rfl
    · rw [pyL, PyData.shownAll]
      intro t ht
      rcases List.mem_cons.mp ht with rfl | ht
      · exact a5
      · exact b5 t ht
    · rw [pyL, PyData.shownAll, List.length_cons, List.length_cons, b6]
theorem sm_lst {k n : Nat} {ds : List D} (h : ∀ d ∈ ds, Sm d k n) : Sm (.lst ds) (k + 1) (ds.length * (n + 2) + 3) := by
  obtain ⟨b1, b2, b3, b4, b5, b6⟩ := sm_all h
  refine ⟨by rw [pur]; exact b1, by rw [py, PyData.canLay0]; exact b2, by rw [py, PyData.depth]; omega, by rw [py, PyData.showable]; exact b4, ?_⟩
  rw [py, PyData.shown]
  have := listText_le (PyData.shownAll (pyL ds))
  have := piled_le b5
  rw [b6] at this
  omega
theorem sm_tup {k n : Nat} {ds : List D} (h : ∀ d ∈ ds, Sm d k n) : Sm (.tup ds) (k + 1) (ds.length * (n + 2) + 3) := by
  obtain ⟨b1, b2, b3, b4, b5, b6⟩ := sm_all h
  refine ⟨by rw [pur]; exact b1, by rw [py, PyData.canLay0]; exact b2, by rw [py, PyData.depth]; omega, by rw [py, PyData.showable]; exact b4, ?_⟩
  rw [py, PyData.shown]
  have := tupleText_le (PyData.shownAll (pyL ds))
  have := piled_le b5
  rw [b6] at this
  omega
theorem pyM_of {d : D} (h : pur d = true) (m : Mu) : pyM d m = py d ∧ purM d m = pur d := by
  cases d <;> first | exact ⟨rfl, rfl⟩ | cases h
theorem Sm.ok {d : D} {k n : Nat} (h : Sm d k n) (hk : k ≤ 64) (m : Mu) : okD d m := by
  obtain ⟨e1, e2⟩ := pyM_of h.1 m
  refine ⟨by rw [e2]; exact h.1, ?_⟩
  rw [e1, SeqAt.shaped, h.2.1, Bool.true_and, decide_eq_true_eq]
  have := h.2.2.1
  omega
theorem Sm.shows {d : D} {k n : Nat} (h : Sm d k n) (hk : k ≤ 60) (hn : n ≤ 16777216) (m : Mu) : purM d m = true ∧ Shows (pyM d m) := by
  obtain ⟨e1, e2⟩ := pyM_of h.1 m
  refine ⟨by rw [e2]; exact h.1, ?_⟩
  rw [e1]
  refine ⟨h.2.2.2.1, PyData.hasDict_of_canLay _ h.2.1, by have := h.2.2.1; omega, ?_⟩
  have := h.2.2.2.2
  show _ ≤ 2 ^ 24
  omega
end Mn

set_option Elab.async false
set_option linter.all false
set_option maxRecDepth 100000
set_option maxHeartbeats 4000000
set_option autoImplicit false
namespace Mn
open PySem PySem.Spec PyProof.Rows L2
variable [Tbs]
/-! slices -/
abbrev DO := Ro → Mu → (Option Int → Mu → Prop) → Prop
def oNone : DO := fun _ m Q => Q none m
def oSome (t : DT) : DO := fun r m Q => t r m fun d m1 => ∃ i, d = .int i ∧ Q (some i) m1
def lfO (K : KF) (t : DO) : TO := fun s H Qv => ∃ G r m Q, RpS K G r s ∧ Rl K G H m ∧ t r m Q ∧ ∀ o H' G' m', Stp G H m G' H' m' → Rl K G' H' m' → Q o m' → Qv o H'
def PDO (X : Cx) (e : Option Expr) (t : DO) : Prop := PO X e (lfO X.kf t)
theorem poM {X : Cx} {e : Option Expr} {t t' : TO} (h : PO X e t) (i : ∀ s H Q, t' s H Q → t s H Q) : PO X e t' := ⟨fun pins s σ H Q I q => h.run pins s σ H Q I (i _ _ _ q)⟩
def cutD (ds : List D) (lo hi : Option Int) : List D := (ds.drop (HT.sIx ds.length 0 lo)).take (HT.sIx ds.length ds.length hi - HT.sIx ds.length 0 lo)
def aSl (d : D) (l h : Option Int) (m : Mu) (Q : DK) : Prop := match d with
  | .tup ds => Q (.tup (cutD ds l h)) m
  | .lst ds => Q (.lst (cutD ds l h)) m
  | .str z => z.length ≤ sizeLine ∧ Q (.str (cutS z l h)) m
  | .ref a => ∃ ds, m a = some (.lst ds) ∧ Q (.lst (cutD ds l h)) m
  | _ => False
def dSlice (ta : DT) (lo hi : DO) : DT := fun r m Q => ta r m fun d m1 => lo r m1 fun l m2 => hi r m2 fun h m3 => aSl d l h m3 Q
section
variable {X : Cx} {a b e : Expr} {ta tb te : DT} {lo hi : Option Expr} {tl th : DO} {pos p2 : Pos}
theorem pdo_none : PDO X none oNone := poM po_none fun s H Q ⟨G, r, m, Qd, hs, hr, q, w⟩ => w _ _ _ _ Stp.refl hr q
theorem pdo_some (h : PD X e te) : PDO X (some e) (oSome te) := by
  refine poM (po_some h) fun s H Q ⟨G, r, m, Qd, hs, hr, q, w⟩ => ?_
  refine ⟨G, r, m, _, hs, hr, q, fun v H1 G1 m1 d s1 r1 h1 ⟨i, e1, q1⟩ => ?_⟩
  subst e1
  cases h1
  exact ⟨i, rfl, w _ _ _ _ s1 r1 q1⟩
theorem cut_rp {K : KF} {G : Hp} {ds : List D} {vs : List V} (h : RpL K G ds vs) (l u : Option Int) : RpL K G (cutD ds l u) (cutV vs l u) := by
  unfold cutD cutV
  rw [h.len]
  exact (h.drop _).take _
theorem cutD_len (ds : List D) (l u : Option Int) : (cutD ds l u).length ≤ ds.length := by
  unfold cutD
  rw [List.length_take, List.length_drop]
  omega
theorem cutD_whole {ds : List D} {l u : Option Int} (h : HT.sIx ds.length 0 l = 0 ∧ HT.sIx ds.length ds.length u = ds.length) : cutD ds l u = ds := by
  unfold cutD
  rw [h.1, h.2, List.drop_zero, Nat.sub_zero, List.take_length]
theorem pd_slice (ha : PD X a ta) (hl : PDO X lo tl) (hu : PDO X hi th) : PD X (.Subscript a (.Slice lo hi none p2) pos) (dSlice ta tl th) := by
  refine peM (pe_slice (sl_tupF.or (sl_list.or sl_str)) ha hl hu) fun s H Q ⟨G, ro, m, Qd, hs, hr, q, w⟩ => ?_
  refine ⟨G, ro, m, _, hs, hr, q, fun v H1 G1 m1 d s1 r1 h1 q1 => ?_⟩
  refine ⟨G1, ro, m1, _, hs.same s1.g, r1, q1, fun l H2 G2 m2 s2 r2 q2 => ?_⟩
  refine ⟨G2, ro, m2, _, (hs.same s1.g).same s2.g, r2, q2, fun u H3 G3 m3 s3 r3 q3 => ?_⟩
  have w3 := w.after ((s1.trans s2).trans s3)
  have h3 := (h1.same s2.g).same s3.g
  cases d with
  | tup ds =>
    cases h3 with
    | tup hq hv hz =>
      rename_i ad vs
      refine .inl ⟨ad, vs, rfl, hq.sq r3.sub _, fun hw => ?_, fun _ => ?_⟩
      · rw [← hv.len] at hw
        have q4 : Qd (.tup ds) m3 := by
          have : Qd (.tup (cutD ds l u)) m3 := q3
          rw [cutD_whole hw] at this
          exact this
        exact w3.now r3 (.tup hq hv hz) q4
      · exact Rl.newTup w3 r3 (cut_rp hv l u) (Nat.le_trans (cutD_len _ _ _) hz) q3
  | lst ds =>
    cases h3 with
    | lst hq hv hz =>
      rename_i ad vs
      exact .inr (.inl ⟨ad, vs, rfl, .inl (.inl (r3.sub _ _ hq)), fun p hp => Rl.newLst w3 r3 (cut_rp hv l u) (Nat.le_trans (cutD_len _ _ _) hz) q3 p hp⟩)
  | ref ad =>
    cases h3
    obtain ⟨ds, e1, q4⟩ := q3
    obtain ⟨b, vs, eb, hq, hv, hz⟩ := lst_is r3 (Rp.ref ad) (show lstOf (.ref ad) m3 = some ds by simp only [lstOf, e1])
    cases eb
    exact .inr (.inl ⟨ad, vs, rfl, hq, fun p hp => Rl.newLst w3 r3 (cut_rp hv l u) (Nat.le_trans (cutD_len _ _ _) hz) q4 p hp⟩)
  | str z =>
    cases h3
    exact .inr (.inr ⟨z, rfl, q3.1, w3.now r3 (.str _) q3.2⟩)
  | non => exact q3.elim
  | bl b => exact q3.elim
  | int i => exact q3.elim
  | scr ds => exact q3.elim
  | dct ks ds => exact q3.elim
  | pair ds => exact q3.elim
/-! -x -/
def dNeg (t : DT) : DT := fun r m Q => t r m fun d m1 => ∃ i, d = .int i ∧ Q (.int (-i)) m1
theorem pd_neg (h : PD X a ta) : PD X (.UnaryOp .USub a pos) (dNeg ta) := by
  refine peM (pe_un un_neg h) fun s H Q ⟨G, ro, m, Qd, hs, hr, q, w⟩ => ?_
  refine ⟨G, ro, m, _, hs, hr, q, fun v H1 G1 m1 d s1 r1 h1 ⟨i, e1, q1⟩ => ?_⟩
  subst e1
  cases h1
  exact ⟨i, rfl, w _ _ _ _ _ s1 r1 (.int _) q1⟩
end
end Mn

set_option Elab.async false
set_option linter.all false
set_option maxRecDepth 100000
set_option maxHeartbeats 4000000
set_option autoImplicit false
namespace Mn
open PySem PySem.Spec PyProof.Rows L2
variable [Tbs]
theorem _root_.L2.Room.u1 {k : Nat} {A : Around} (r : Room k A) : A.units + 1 < cLine := by have := r.un; omega
/-! a mutable list read for the last time as such: from there on it does not change -/
def dFrz (i : Nat) : DT := fun r m Q => ∃ p ds, r[i]? = some (some (.ref p)) ∧ m p = some (.lst ds) ∧ Q (.lst ds) (er m p)
section
variable {X : Cx} {a b e o : Expr} {ta tb te to : DT} {es : List Expr} {tr : DA} {pos p2 apos cpos : Pos}
theorem pd_frz {i : Nat} {x : Str} {p : Pos} (h : PE X (.Name x p) (tVar i)) : PD X (.Name x p) (dFrz i) := by
  refine peM h fun s H Q ⟨G, r, m, Qd, hs, hr, ⟨a, ds, e1, e2, q⟩, w⟩ => ?_
  obtain ⟨v, ev, rv⟩ := hs.get i _ e1
  cases rv
  obtain ⟨G', rl, st, rp⟩ := hr.freeze e2
  exact ⟨.ref a, ev, w _ _ _ _ _ st rl rp q⟩
/-! displays with stars -/
def dStar (te : DT) (tr : DA) : DA := fun r m Q => te r m fun d m1 => ∃ xs, seqOf d m1 = some xs ∧ tr r m1 fun ys m2 => Q (xs ++ ys) m2
theorem pda_star {p : Pos} (he : PD X e te) (hr : PDA X es tr) (hs : starEach (.Starred e p :: es) X.env = (true, eval e X.env) :: starEach es X.env := by rfl) : PDA X (.Starred e p :: es) (dStar te tr) := by
  refine paM (StX.pa_star he hr hs) fun s H Q ⟨G, ro, m, Qd, hs, hr, q, w⟩ => ?_
  refine ⟨G, ro, m, _, hs, hr, q, fun v H1 G1 m1 d s1 r1 h1 ⟨xs, e1, q1⟩ => ?_⟩
  obtain ⟨a, vs, ev, hq, hv, hz⟩ := seq_is r1 h1 e1
  refine ⟨a, vs, ev, hq.symm, G1, ro, m1, _, hs.same s1.g, r1, q1, fun us H2 G2 m2 ds s2 r2 h2 q2 => ?_⟩
  exact w _ _ _ _ _ (s1.trans s2) r2 ((hv.same s2.g).app h2) q2
/-! xs.extend(ys) -/
def dExtend (to te : DT) : DT := fun r m Q => to r m fun o m1 => ∃ p ds0, o = .ref p ∧ m1 p = some (.lst ds0) ∧ te r m1 fun d m2 => ∃ ds es, m2 p = some (.lst ds) ∧ lst1 d m2 = some es ∧ ds.length + es.length ≤ sizeLine ∧ Q .non (up m2 p (.lst (ds ++ es)))
theorem pd_extend (ho : PD X o to) (he : PD X e te) (hs : starEach [e] X.env = (false, eval e X.env) :: starEach [] X.env := by rfl) (hbase : attributeBase o "extend" X.env (eval o X.env) = eval o X.env := by rfl)
    (hfew : ((backTo cpos (starEach [e] X.env)).all (fun x => !x.1) && (backToKw cpos (keywordEach [] X.env)).all (fun x => x.1.isSome)
      && decide ([e].length + ([] : List Keyword).length + (if ([] : List Keyword).isEmpty then 0 else 1) < 30)) = true := by rfl)
    (hline : (apos.endLine == cpos.line) = true := by rfl) (hplain : (backTo cpos (starEach [] X.env)).any (·.1) = false := by rfl) :
    PD X (.Call (.Attribute o "extend" apos) [e] [] cpos) (dExtend to te) := by
  refine peM (pe_bm PySem.F.plainAttrs_list PySem.F.slot_list_extend PySem.F.type_list_extend mt_extend ho (pa_cons he pa_nil hs) hbase hfew hline hs hplain) fun s H Q ⟨G, ro, m, Qd, hs, hr, q, w⟩ => ?_
  refine ⟨G, ro, m, _, hs, hr, q, fun v H1 G1 m1 d s1 r1 h1 ⟨p, ds0, e1, e2, q1⟩ => ?_⟩
  subst e1
  cases h1
  refine ⟨tyV_ref r1 e2, G1, ro, m1, _, hs.same s1.g, r1, q1, fun v2 H2 G2 m2 d2 s2 r2 h2 ⟨ds, es, e3, e4, z, q2⟩ => ?_⟩
  obtain ⟨_, x, hx, us, ex, ru, z2⟩ := r2.mu p _ e3
  subst ex
  obtain ⟨b, vs, rfl, hb, rv, z3⟩ := lst1_is r2 h2 e4
  obtain ⟨r4, s4⟩ := r2.put e3 (o := .lst (us ++ vs)) (u := .lst (ds ++ es)) ⟨_, rfl, ru.app rv, by rw [List.length_append]; exact z⟩
  exact ⟨p, b, us, vs, rfl, rfl, hx, hb, by rw [← ru.len, ← rv.len]; exact z, w _ _ _ _ _ ((s1.trans s2).trans s4) r4 .non q2⟩
/-! t.count(k) of whole numbers -/
def rCntT (K : PySem.W.Frag) : V → List V → Hp → VK → Prop := fun x xs H Q => ∃ (p : Addr) (ns : List Int) (k : Int), x = .ref p ∧ xs = [.int k] ∧ SqT K H p (ns.map V.int) ∧ Q (.int (ns.count k : Nat)) H
theorem mt_tcount : MtR X "tuple.count" (rCntT X.K) := by
  intro pins s σ H x xs v us Q I rx rxs h
  obtain ⟨p, ns, k, rfl, rfl, hs, q⟩ := h
  cases rx
  obtain ⟨u, rfl, ru⟩ := rxs.one
  obtain ⟨t, rfl⟩ := ru
  obtain ⟨its, rv, ⟨⟨cls, dd, data, sl⟩, ho, hc, n, hd⟩, hlen⟩ := I.tuple hs
  simp only at hc hd
  subst hc hd
  have hi := ints_of_vals rv
  refine call_meets PySem.F.slot_tuple_count ⟨_, ho, rfl⟩ PySem.F.entry_tuple_count (PySem.F.args_tuple_count_2 _ _)
    (SeqAt.tuple_countAt p its.toArray n dd sl (.int k t) (eqk k)) ⟨ho, fun y hy => (eqk_gives hi y (by simpa using hy)).at _ _, ?_⟩
  have ec : its.toArray.toList.countP (eqk k) = ns.count k := eqk_count hi
  refine ⟨.int (ns.count k : Nat), H, I.tok _, ⟨s.toks, ?_⟩, q⟩
  show Value.int ((its.toArray.toList.countP (eqk k) : Nat) : Int) s.toks = Value.int ((ns.count k : Nat) : Int) s.toks
  rw [ec]
/-- a method of a tuple that is known to its object -/
def tBMT (r : V → List V → Hp → VK → Prop) (to : TE) (t : TA) : TE := fun σ H Q => to σ H fun x H1 => (∃ a o vs, x = .ref a ∧ o.dict = none ∧ H1 a = some (.frz o (.tup vs))) ∧ t σ H1 fun xs H2 => r x xs H2 Q
theorem pe_bmT {name : Str} {id : String} {r : V → List V → Hp → VK → Prop} {to : TE} {t : TA} (slot : Slot "tuple" name id) (hty : typeOf (.builtin id) = pure (.type "method_descriptor")) (hm : MtR X id r) (ho : PE X o to) (ha : PA X (e :: es) t)
    (hbase : attributeBase o name X.env (eval o X.env) = eval o X.env := by rfl)
    (hfew : ((backTo cpos (starEach (e :: es) X.env)).all (fun x => !x.1) && (backToKw cpos (keywordEach [] X.env)).all (fun x => x.1.isSome)
      && decide ((e :: es).length + ([] : List Keyword).length + (if ([] : List Keyword).isEmpty then 0 else 1) < 30)) = true := by rfl)
    (hline : (apos.endLine == cpos.line) = true := by rfl) (hs : starEach (e :: es) X.env = (false, eval e X.env) :: starEach es X.env := by rfl) (hplain : (backTo cpos (starEach es X.env)).any (·.1) = false := by rfl) :
    PE X (.Call (.Attribute o name apos) (e :: es) [] cpos) (tBMT r to t) := by
  refine ⟨fun pins s σ H Q I h => ?_⟩
  refine wpAny_Call_method_late hbase hfew hline rfl (thn (ho.run pins s σ H _ I h) fun v s1 ⟨x, H1, I1, r1, ⟨a, ob, vs, ex, hdn, hf⟩, q1⟩ => ?_)
  subst ex
  cases r1
  obtain ⟨hg, _, its, _, ⟨ob2, hg2, hc, _⟩⟩ := I1.hok a _ hf
  have h1 : s1.TypeIs (.ref a) "tuple" := ⟨ob2, hg2, hc⟩
  refine ⟨"tuple", id, PySem.F.plainAttrs_tuple, slot, hty, h1, fun b eb => by cases eb; exact ⟨ob, hg, hdn⟩, ?_⟩
  have hA := ha.run cpos pins s1 σ H1 _ I1 q1
  rw [hs] at hA ⊢
  refine Calls.callWith_builtin (by show (false || (backTo cpos (starEach es X.env)).any (·.1)) = false; rw [hplain] <;> rfl) (Calls.evalArgs_plain ?_)
  exact thn hA fun us s2 ⟨vs, H2, I2, r2, q2⟩ => hm pins s2 σ H2 (.ref a) vs (.ref a) us Q I2 rfl r2 q2
def dCountT (to te : DT) : DT := fun r m Q => to r m fun o m1 => ∃ ns : List Int, o = .tup (ns.map D.int) ∧ te r m1 fun d m2 => ∃ k, d = .int k ∧ Q (.int (ns.count k : Nat)) m2
theorem pd_countT (ho : PD X o to) (he : PD X e te) (hs : starEach [e] X.env = (false, eval e X.env) :: starEach [] X.env := by rfl) (hbase : attributeBase o "count" X.env (eval o X.env) = eval o X.env := by rfl)
    (hfew : ((backTo cpos (starEach [e] X.env)).all (fun x => !x.1) && (backToKw cpos (keywordEach [] X.env)).all (fun x => x.1.isSome)
      && decide ([e].length + ([] : List Keyword).length + (if ([] : List Keyword).isEmpty then 0 else 1) < 30)) = true := by rfl)
    (hline : (apos.endLine == cpos.line) = true := by rfl) (hplain : (backTo cpos (starEach [] X.env)).any (·.1) = false := by rfl) :
    PD X (.Call (.Attribute o "count" apos) [e] [] cpos) (dCountT to te) := by
  refine peM (pe_bmT PySem.F.slot_tuple_count PySem.F.type_tuple_count mt_tcount ho (pa_cons he pa_nil hs) hbase hfew hline hs hplain) fun s H Q ⟨G, ro, m, Qd, hs, hr, q, w⟩ => ?_
  refine ⟨G, ro, m, _, hs, hr, q, fun v H1 G1 m1 d s1 r1 h1 ⟨ns, e1, q1⟩ => ?_⟩
  subst e1
  cases h1 with
  | tup hq hv hz =>
    rename_i ad vs
    have ev := hv.ints
    subst ev
    obtain ⟨ob, hdn, hq⟩ := hq
    refine ⟨⟨ad, ob, _, rfl, hdn, r1.sub _ _ hq⟩, G1, ro, m1, _, hs.same s1.g, r1, q1, fun v2 H2 G2 m2 d2 s2 r2 h2 ⟨k, e2, q2⟩ => ?_⟩
    subst e2
    cases h2
    exact ⟨ad, ns, k, rfl, rfl, .inl (.inr ⟨ob, r2.sub _ _ (s2.g _ _ hq)⟩), w _ _ _ _ _ (s1.trans s2) r2 (.int _) q2⟩
def dIndexT (to te : DT) : DT := fun r m Q => to r m fun o m1 => ∃ ns : List Int, o = .tup (ns.map D.int) ∧ te r m1 fun d m2 => ∃ k j, d = .int k ∧ ns[j]? = some k ∧ (∀ i, i < j → ns[i]? ≠ some k) ∧ Q (.int (j : Nat)) m2
/-! l.index(x) -/
def dIndexL (to te : DT) : DT := fun r m Q => to r m fun o m1 => (lst1 o m1).isSome = true ∧ te r m1 fun d m2 => ∃ es j z, lst1 o m2 = some es ∧ okD o m2 ∧ okD d m2 ∧ es[j]? = some z ∧ PyData.eqv (py z) (pyM d m2) = true ∧
  (∀ i z', i < j → es[i]? = some z' → PyData.eqv (py z') (pyM d m2) = false) ∧ Q (.int (j : Nat)) m2
theorem lst1_py {o : D} {m : Mu} {es : List D} (h : lst1 o m = some es) : pyM o m = .list (pyL es) := by
  unfold lst1 at h
  cases o with
  | lst ds => cases h; rfl
  | ref a =>
    simp only at h
    cases em : m a with
    | none => rw [em] at h; cases h
    | some u =>
      rw [em] at h
      cases u with
      | lst ds => cases h; simp only [pyM, em]
      | dN kvs => cases h
      | dE => cases h
      | dI k d => cases h
      | ins c dx fs => cases h
      | own y => cases h
      | xd fs => cases h
  | _ => cases h
theorem pd_indexL (hu : X.A.units + 65 < cLine) (ho : PD X o to) (he : PD X e te) (hs : starEach [e] X.env = (false, eval e X.env) :: starEach [] X.env := by rfl) (hbase : attributeBase o "index" X.env (eval o X.env) = eval o X.env := by rfl)
    (hfew : ((backTo cpos (starEach [e] X.env)).all (fun x => !x.1) && (backToKw cpos (keywordEach [] X.env)).all (fun x => x.1.isSome)
      && decide ([e].length + ([] : List Keyword).length + (if ([] : List Keyword).isEmpty then 0 else 1) < 30)) = true := by rfl)
    (hline : (apos.endLine == cpos.line) = true := by rfl) (hplain : (backTo cpos (starEach [] X.env)).any (·.1) = false := by rfl) :
    PD X (.Call (.Attribute o "index" apos) [e] [] cpos) (dIndexL to te) := by
  refine peM (pe_bm PySem.F.plainAttrs_list PySem.F.slot_list_index PySem.F.type_list_index (mt_indexD hu) ho (pa_cons he pa_nil hs) hbase hfew hline hs hplain) fun s H Q ⟨G, ro, m, Qd, hs, hr, q, w⟩ => ?_
  refine ⟨G, ro, m, _, hs, hr, q, fun v H1 G1 m1 d s1 r1 h1 ⟨e0, q1⟩ => ?_⟩
  obtain ⟨es0, e0⟩ := Option.isSome_iff_exists.mp e0
  obtain ⟨b, vs, rfl, hb, rv, z3⟩ := lst1_is r1 h1 e0
  refine ⟨.inl ⟨rfl, vs, .inl (.inl hb)⟩, G1, ro, m1, _, hs.same s1.g, r1, q1, fun v2 H2 G2 m2 d2 s2 r2 h2 ⟨es, j, z, e1, ok1, ok2, ej, eq1, no, q2⟩ => ?_⟩
  have hpy := lst1_py e1
  have hd1 := (h1.same s2.g).dpM r2 ok1.1
  have sh1 := ok1.2
  rw [hpy] at hd1 sh1
  have getL : ∀ (i : Nat), (pyL es)[i]? = (es[i]?).map py := fun i => by rw [pyL_map, List.getElem?_map]
  refine ⟨b, v2, pyM d2 m2, pyL es, j, py z, rfl, rfl, hd1, h2.dpM r2 ok2.1, sh1, ok2.2, by rw [getL, ej]; rfl, eq1, fun i z' hi hz => ?_, w _ _ _ _ _ (s1.trans s2) r2 (.int _) q2⟩
  rw [getL] at hz
  obtain ⟨z0, hz0, rfl⟩ := Option.map_eq_some_iff.mp hz
  exact no i z0 hi hz0
end
end Mn

set_option Elab.async false
set_option linter.all false
set_option maxRecDepth 100000
set_option maxHeartbeats 4000000
set_option autoImplicit false
namespace Mn
open PySem PySem.Spec PyProof.Rows L2
variable [Tbs]
/-! comprehensions with two fors -/
def lcIn (g : DG) (tt : DB) (te : DT) (r : Ro) : List D → List D → Mu → (List D → Mu → Prop) → Prop
  | [], acc, m, Q => Q acc m
  | d :: ds, acc, m, Q => g d r fun r1 => tt r1 m fun b m1 => if b = true then te r1 m1 fun y m2 => acc.length < sizeLine ∧ lcIn g tt te r ds (acc ++ [y]) m2 Q else lcIn g tt te r ds acc m1 Q
def lcGo2 (g : DG) (tt : DB) (src1 : DI) (vs1 : List Nat) (g1 : DG) (tt1 : DB) (te : DT) (r : Ro) : List D → List D → Mu → (List D → Mu → Prop) → Prop
  | [], acc, m, Q => Q acc m
  | d :: ds, acc, m, Q => g d r fun r1 => tt r1 m fun b m1 => if b = true then src1 r1 m1 fun items m2 => lcIn g1 tt1 te (wipeD r1 vs1) items acc m2 fun acc' m3 => lcGo2 g tt src1 vs1 g1 tt1 te r ds acc' m3 Q else lcGo2 g tt src1 vs1 g1 tt1 te r ds acc m1 Q
def dLc2 (src : DI) (vs : List Nat) (g : DG) (tt : DB) (src1 : DI) (vs1 : List Nat) (g1 : DG) (tt1 : DB) (te : DT) : DT := fun r m Q => src r m fun items m1 => lcGo2 g tt src1 vs1 g1 tt1 te (wipeD r vs) items [] m1 fun acc m2 => Q (.lst acc) m2
section
variable {X : Cx} {elt tg iter tg1 iter1 : Expr} {ifs ifs1 : List Expr} {scope : Scope} {own : List (Str × Nat)} {pos : Pos} {src src1 : DI} {g g1 : TG} {dg dg1 : DG} {tt tt1 : DB} {te : DT}
/-- where a comprehension stands: its list at D is neither fixed nor told -/
structure LcAt (K : KF) (G1 H1 : Hp) (m1 : Mu) (D : Addr) (G' H' : Hp) (m' : Mu) (us : List V) (acc : List Mn.D) : Prop where
  st : Stp G1 H1 m1 G' H' m'
  rl : Rl K G' H' m'
  hD : H' D = some (.lst us)
  gD : G' D = none
  mD : m' D = none
  ra : RpL K G' acc us
  la : acc.length ≤ sizeLine
theorem LcAt.step {K : KF} {G1 H1 G' H' G2 H2 : Hp} {m1 m' m2 : Mu} {D : Addr} {us : List V} {acc : List Mn.D} (h : LcAt K G1 H1 m1 D G' H' m' us acc) (s : Stp G' H' m' G2 H2 m2) (r : Rl K G2 H2 m2) : LcAt K G1 H1 m1 D G2 H2 m2 us acc := by
  obtain ⟨a, b, c⟩ := s.fr D _ h.hD h.gD h.mD (fun _ z => nomatch z)
  exact ⟨h.st.trans s, r, a, b, c, h.ra.same s.g, h.la⟩
theorem LcAt.push {K : KF} {G1 H1 G' H' : Hp} {m1 m' : Mu} {D : Addr} {us : List V} {acc : List Mn.D} (h : LcAt K G1 H1 m1 D G' H' m' us acc) (hD : H1 D = none) {y : V} {d : Mn.D} (ry : Rp K G' d y) (hl : acc.length < sizeLine) :
    LcAt K G1 H1 m1 D G' (upd H' D (.lst (us ++ [y]))) m' (us ++ [y]) (acc ++ [d]) := by
  refine ⟨⟨h.st.g, fun b o e1 e2 e3 nt => ?_, fun b o e => ?_⟩, h.rl.hid h.gD h.mD (.inr ⟨_, h.hD⟩) _, upd_same, h.gD, h.mD, h.ra.app (.cons ry .nil), by rw [List.length_append, List.length_singleton]; omega⟩
  · by_cases hb : b = D
    · rw [hb, hD] at e1; cases e1
    · obtain ⟨z1, z2, z3⟩ := h.st.fr b o e1 e2 e3 nt
      rw [upd_ne hb]; exact ⟨z1, z2, z3⟩
  · obtain ⟨o', z⟩ := h.st.up b o e
    by_cases hb : b = D
    · exact ⟨_, by rw [hb]; exact upd_same⟩
    · exact ⟨o', by rw [upd_ne hb]; exact z⟩
theorem lc2_data {vs vs1 : List Nat} (gc : GC X.kf g dg vs) (gc1 : GC X.kf g1 dg1 vs1) {s : L2.St} {H : Hp} {Q : VK} {QL : List D → Mu → Prop} {G : Hp} {r : Ro} {m : Mu} (hs : RpS X.kf G r s) (hr : Rl X.kf G H m)
    (q : src r m fun items m1 => lcGo2 dg tt src1 vs1 dg1 tt1 te (wipeD r vs) items [] m1 QL)
    (fin : ∀ D us acc H' G' m', H D = none → Stp G H m G' H' m' → Rl X.kf G' H' m' → H' D = some (.lst us) → G' D = none → m' D = none → RpL X.kf G' acc us → acc.length ≤ sizeLine → QL acc m' → Q (.ref D) H') :
    tLc2 (lfI X.kf src) g (lfB X.kf tt) (lfI X.kf src1) g1 (lfB X.kf tt1) (lf X.kf te) vs vs1 s H Q := by
  refine ⟨G, r, m, _, hs, hr, q, fun J H1 G1 m1 items s1 r1 wk q1 => ?_⟩
  intro D hD
  obtain ⟨gD, mD⟩ := r1.free hD
  have base : LcAt X.kf G1 H1 m1 D G1 (upd H1 D (.lst [])) m1 [] [] := by
    refine ⟨⟨Same.refl _, fun b o e1 e2 e3 _ => by rw [upd_ne (ne_of_none e1 hD)]; exact ⟨e1, e2, e3⟩, fun b o e => ⟨o, by rw [upd_ne (ne_of_none e hD)]; exact e⟩⟩, r1.hid gD mD (.inl hD) _, upd_same, gD, mD, .nil, Nat.zero_le _⟩
  refine ⟨fun i k H' => i + k = items.length ∧ ∃ G' m' us acc, LcAt X.kf G1 H1 m1 D G' H' m' us acc ∧ lcGo2 dg tt src1 vs1 dg1 tt1 te (wipeD r vs) (items.drop i) acc m' QL,
    ⟨items.length, by omega, G1, m1, [], [], base, by rw [List.drop_zero]; exact q1⟩, fun i k H' hW => ?_⟩
  obtain ⟨ek, G', m', us, acc, la, qq⟩ := hW
  by_cases hi : i < items.length
  · have ed : items[i]? = some items[i] := List.getElem?_eq_getElem hi
    rw [List.drop_eq_getElem_cons hi] at qq
    obtain ⟨go, yl⟩ := wk.go G' H' m' i _ la.st.g la.rl ed
    refine .inr ⟨go, fun H2 => (i + 1) + (k - 1) = items.length ∧ ∃ G' m' us acc, LcAt X.kf G1 H1 m1 D G' H2 m' us acc ∧ lcGo2 dg tt src1 vs1 dg1 tt1 te (wipeD r vs) (items.drop (i + 1)) acc m' QL,
      fun H2 h2 => ⟨k - 1, by omega, h2⟩, fun x H2 hy => ?_⟩
    obtain ⟨G2, rl2, st2, rx⟩ := yl x H2 hy
    have la2 := la.step st2 rl2
    refine gc G2 H2 m' (wipe s vs) (wipeD r vs) x _ _ _ rl2 ((((hs.same s1.g).same la.st.g).same st2.g).wipe vs) rx qq fun s3 r3 rs3 hw q3 => ⟨by rw [hw]; exact wipe_wipe s vs, ?_⟩
    refine ⟨G2, r3, m', _, rs3, rl2, q3, fun b H3 G3 m3 st3 rl3 q4 => ?_⟩
    have la3 := la2.step st3 rl3
    cases b with
    | false =>
      try dsimp only
      rw [if_neg Bool.false_ne_true] at q4 ⊢
      exact ⟨by omega, G3, m3, us, acc, la3, q4⟩
    | true =>
      try dsimp only
      rw [if_pos rfl] at q4 ⊢
      refine ⟨G3, r3, m3, _, rs3.same st3.g, rl3, q4, fun J1 H4 G4 m4 items1 st4 rl4 wk1 q5 => ?_⟩
      have la4 := la3.step st4 rl4
      refine ⟨fun j k1 H5 => j + k1 = items1.length ∧ ∃ G' m' us acc, Same G4 G' ∧ LcAt X.kf G1 H1 m1 D G' H5 m' us acc ∧ lcIn dg1 tt1 te (wipeD r3 vs1) (items1.drop j) acc m' fun acc' m3 => lcGo2 dg tt src1 vs1 dg1 tt1 te (wipeD r vs) (items.drop (i + 1)) acc' m3 QL,
        ⟨items1.length, by omega, G4, m4, us, acc, Same.refl _, la4, by rw [List.drop_zero]; exact q5⟩, fun j k1 H5 hW1 => ?_⟩
      obtain ⟨ek1, G5, m5, us5, acc5, sm5, la5, qq5⟩ := hW1
      by_cases hj : j < items1.length
      · have ed1 : items1[j]? = some items1[j] := List.getElem?_eq_getElem hj
        rw [List.drop_eq_getElem_cons hj] at qq5
        obtain ⟨go1, yl1⟩ := wk1.go G5 H5 m5 j _ sm5 la5.rl ed1
        refine .inr ⟨go1, fun H6 => (j + 1) + (k1 - 1) = items1.length ∧ ∃ G' m' us acc, Same G4 G' ∧ LcAt X.kf G1 H1 m1 D G' H6 m' us acc ∧ lcIn dg1 tt1 te (wipeD r3 vs1) (items1.drop (j + 1)) acc m' fun acc' m3 => lcGo2 dg tt src1 vs1 dg1 tt1 te (wipeD r vs) (items.drop (i + 1)) acc' m3 QL,
          fun H6 h6 => ⟨k1 - 1, by omega, h6⟩, fun x6 H6 hy6 => ?_⟩
        obtain ⟨G6, rl6, st6, rx6⟩ := yl1 x6 H6 hy6
        have la6 := la5.step st6 rl6
        have rs6 : RpS X.kf G6 r3 s3 := (((rs3.same st3.g).same st4.g).same sm5).same st6.g
        refine gc1 G6 H6 m5 (wipe s3 vs1) (wipeD r3 vs1) x6 _ _ _ rl6 (rs6.wipe vs1) rx6 qq5 fun s7 r7 rs7 hw7 q7 => ⟨by rw [hw7]; exact wipe_wipe s3 vs1, ?_⟩
        refine ⟨G6, r7, m5, _, rs7, rl6, q7, fun b7 H7 G7 m7 st7 rl7 q8 => ?_⟩
        have la7 := la6.step st7 rl7
        have sm7 : Same G4 G7 := (sm5.trans st6.g).trans st7.g
        cases b7 with
        | false =>
          try dsimp only
          rw [if_neg Bool.false_ne_true] at q8 ⊢
          exact ⟨by omega, G7, m7, us5, acc5, sm7, la7, q8⟩
        | true =>
          try dsimp only
          rw [if_pos rfl] at q8 ⊢
          refine ⟨G7, r7, m7, _, rs7.same st7.g, rl7, q8, fun y H8 G8 m8 d8 st8 rl8 ry ⟨hz, q9⟩ => ?_⟩
          have la8 := la7.step st8 rl8
          refine ⟨us5, la8.hD, by rw [← la8.ra.len]; exact hz, by omega, G8, m8, us5 ++ [y], acc5 ++ [d8], sm7.trans st8.g, la8.push hD ry hz, q9⟩
      · have ej : j = items1.length := by omega
        subst ej
        rw [List.drop_length] at qq5
        exact .inl ⟨wk1.stop G5 H5 m5 sm5 la5.rl, by omega, G5, m5, us5, acc5, la5, qq5⟩
  · have ei : i = items.length := by omega
    subst ei
    rw [List.drop_length] at qq
    exact .inl ⟨wk.stop G' H' m' la.st.g la.rl, fin D us acc H' G' m' (s1.free hD) (s1.trans la.st) la.rl la.hD la.gD la.mD la.ra la.la qq⟩
theorem lc2_frz {vs vs1 : List Nat} (gc : GC X.kf g dg vs) (gc1 : GC X.kf g1 dg1 vs1) {s : L2.St} {H : Hp} {Q : VK} (h : lf X.kf (dLc2 src vs dg tt src1 vs1 dg1 tt1 te) s H Q) : tLc2 (lfI X.kf src) g (lfB X.kf tt) (lfI X.kf src1) g1 (lfB X.kf tt1) (lf X.kf te) vs vs1 s H Q := by
  obtain ⟨G, r, m, Qd, hs, hr, q, w⟩ := h
  refine lc2_data gc gc1 hs hr q fun D us acc H' G' m' new st rl hD gD mD ra la qq => ?_
  have sm : Same G' (upd G' D (.lst us)) := fun b o e => by rw [upd_ne (ne_of_none e gD)]; exact e
  refine w _ _ (upd G' D (.lst us)) m' (.lst acc) ⟨st.g.trans sm, fun b o e1 e2 e3 nt => ?_, st.up⟩ (rl.hidG hD gD mD) (.lst upd_same (ra.same sm) la) qq
  · obtain ⟨z1, z2, z3⟩ := st.fr b o e1 e2 e3 nt
    rw [upd_ne (ne_of_none e1 new)]; exact ⟨z1, z2, z3⟩
section
variable {vs1 : List Nat}
theorem pds_setLc2 {i : Nat} {y : Str} {py spos : Pos} (hc : X.calm = true) (hN : X.N.Nodup) (hy : X.N[i]? = some y) (hyl : X.env.scope.names.lookup y = some .local)
    (hsw : swapsWith (.ListComp elt [⟨tg, iter, ifs, 0⟩, ⟨tg1, iter1, ifs1, 0⟩] scope pos) (some (.Name y py)) spos.line X.env = pure true) (hi : PDI X tg iter src) (ok : BlkOk X.N X.env.scope scope own) (hv : ∀ i ∈ vs1, i ∈ own.map (·.2)) (gc : GC X.kf g dg (own.map (·.2))) (gc1 : GC X.kf g1 dg1 vs1)
    (hg : ∀ (s : Shared) (H : Hp) (C : Addr) (cl : List (Str × Addr)) (fp : List Addr), PG (X.blk s H scope (compEnvC scope cl C X.env) fp) tg g) (ht : ∀ (s : Shared) (H : Hp) (C : Addr) (cl : List (Str × Addr)) (fp : List Addr), PDTs (X.blk s H scope (compEnvC scope cl C X.env) fp) ifs tt)
    (hi1 : ∀ (s : Shared) (H : Hp) (C : Addr) (cl : List (Str × Addr)) (fp : List Addr), PDI (X.blk s H scope (compEnvC scope cl C X.env) fp) tg1 iter1 src1)
    (hg1 : ∀ (s : Shared) (H : Hp) (C : Addr) (cl : List (Str × Addr)) (fp : List Addr), PG (X.blk s H scope (compEnvC scope cl C X.env) fp) tg1 g1) (ht1 : ∀ (s : Shared) (H : Hp) (C : Addr) (cl : List (Str × Addr)) (fp : List Addr), PDTs (X.blk s H scope (compEnvC scope cl C X.env) fp) ifs1 tt1)
    (he : ∀ (s : Shared) (H : Hp) (C : Addr) (cl : List (Str × Addr)) (fp : List Addr), PD (X.blk s H scope (compEnvC scope cl C X.env) fp) elt te) (hs : ∀ x, foldedSetIterable iter X.env x = pure x := by intro _; rfl) (hs1 : ∀ env x, foldedSetIterable iter1 env x = pure x := by intro _ _; rfl) :
    PDS X (.Assign [.Name y py] (.ListComp elt [⟨tg, iter, ifs, 0⟩, ⟨tg1, iter1, ifs1, 0⟩] scope pos) spos) (xAsg (dLc2 src (own.map (·.2)) dg tt src1 vs1 dg1 tt1 te) (gV i)) :=
  psM (ps_setLc2 (wi1 := lfI X.kf src1) (tt := lfB X.kf tt) (tt1 := lfB X.kf tt1) (te := lf X.kf te) hc hN hy hyl hsw hi ok hv hg ht hi1 hg1 ht1 he hs hs1) fun _ _ _ h => lc2_frz gc gc1 (lfAsg (vs := [i]) (gc_name (by simp)) h)
end
end
end Mn

set_option Elab.async false
set_option linter.all false
set_option maxRecDepth 100000
set_option maxHeartbeats 4000000
set_option autoImplicit false
namespace Mn
open PySem PySem.Spec PyProof.Rows L2
variable [Tbs]
/-! x in y -/
section
variable {X : Cx} {K : KF}
/-- the answer of x in y -/
def inA (x y : D) (m : Mu) (P : Bool → Prop) : Prop := match y with
  | .tup ds => ∃ (i : Int) (ns : List Int), x = .int i ∧ ds = ns.map D.int ∧ P (ns.contains i)
  | .lst ds => okD x m ∧ okD (.lst ds) m ∧ P (ds.any fun z => PyData.eqv (py z) (pyM x m))
  | .str z => ∃ c : Nat, x = .str ⟨#[c]⟩ ∧ P (decide (c ∈ z.cps.toList))
  | .ref a => (∃ ds, m a = some (.lst ds) ∧ okD x m ∧ okD (.ref a) m ∧ P (ds.any fun z => PyData.eqv (py z) (pyM x m))) ∨
      ∃ kvs k, m a = some (.dN kvs) ∧ x = keyD k ∧ (∃ ks, x = .tup ks) ∧ k.depth ≤ 8 ∧ P (lookN kvs k).isSome
  | .dct kl dl => ∃ k, x = keyD k ∧ (∃ ks, x = .tup ks) ∧ k.depth ≤ 8 ∧ P (lookN (kl.zip dl) k).isSome
  | _ => False
def aIn : DR2 := fun x y m Q => inA x y m fun b => Q (.bl b) m
def aNotIn : DR2 := fun x y m Q => inA x y m fun b => Q (.bl (!b)) m
def rInA (K : KF) (neg : Bool) : R2 := fun x y H Q => rIn K neg x y H Q ∨ (if neg then rNotInD K x y H Q else rInD K x y H Q) ∨ rInN K.wd neg x y H Q ∨ ∃ (c : Nat) (z : Str), x = .str ⟨#[c]⟩ ∧ y = .str z ∧ Q (.bl (if neg then !decide (c ∈ z.cps.toList) else decide (c ∈ z.cps.toList))) H
theorem op_inA (hu : X.A.units + 65 < cLine) : OpR X (compareOp .In) (rInA X.kf false) := op_in_seq.or ((op_inD hu).or ((op_inN hu).or op_in_sign))
theorem op_notInA (hu : X.A.units + 65 < cLine) : OpR X (compareOp .NotIn) (rInA X.kf true) := op_notIn_seq.or ((op_notInD hu).or ((op_notInN hu).or op_notIn_sign))
theorem inV_ints (i : Int) : ∀ ns : List Int, inV (.int i) (ns.map V.int) = ns.contains i
  | [] => rfl
  | n :: ns => by
    have ih := inV_ints i ns
    unfold inV at ih ⊢
    rw [List.map_cons, List.any_cons, ih, List.contains_cons]
    have e : eqV (.int n) (.int i) = (i == n) := by
      show (n == i) = (i == n)
      rw [Bool.beq_comm]
    rw [e]
theorem flat_ints (ns : List Int) : (ns.map V.int).all flatV = true := by
  rw [List.all_map]
  exact List.all_eq_true.mpr fun _ _ => rfl
theorem any_py (ds : List D) (d : PyData) : ((pyL ds).any fun z => PyData.eqv z d) = ds.any fun z => PyData.eqv (py z) d := by
  rw [pyL_map, List.any_map]; rfl
theorem in_is (neg : Bool) {G H : Hp} {m : Mu} {x y : V} {dx dy : D} {Q : DK} {Qv : VK} (r : Rl K G H m) (rx : Rp K G dx x) (ry : Rp K G dy y) (q : inA dx dy m fun b => Q (.bl (if neg then !b else b)) m) (w : WV K G H m Q Qv) : rInA K neg x y H Qv := by
  cases dy with
  | tup ds =>
    obtain ⟨i, ns, e1, e2, q⟩ := q
    subst e1; subst e2
    cases rx
    cases ry with
    | tup h1 h2 h3 =>
      rw [h2.ints] at h1
      refine .inl ⟨_, _, rfl, .inr (h1.sq r.sub _), rfl, flat_ints ns, w.now r (.bl _) ?_⟩
      rw [inV_ints]
      exact q
  | lst ds =>
    obtain ⟨o1, o2, q⟩ := q
    have d1 := rx.dpM r o1.1
    have d2 := ry.dpM r o2.1
    refine .inr (.inl ?_)
    cases neg with
    | false => exact ⟨_, pyL ds, d1, d2, o1.2, o2.2, w.now r (.bl _) (by rw [any_py]; exact q)⟩
    | true => exact ⟨_, pyL ds, d1, d2, o1.2, o2.2, w.now r (.bl _) (by rw [any_py]; exact q)⟩
  | str z =>
    obtain ⟨c, e1, q⟩ := q
    subst e1
    cases rx
    cases ry
    exact .inr (.inr (.inr ⟨c, z, rfl, rfl, w.now r (.bl _) q⟩))
  | ref a =>
    rcases q with ⟨ds, em, o1, o2, q⟩ | ⟨kvs, k, em, ek, ⟨ks, et⟩, h8, q⟩
    · have d1 := rx.dpM r o1.1
      have d2 := ry.dpM r o2.1
      have e2 : pyM (.ref a) m = .list (pyL ds) := by simp only [pyM, em]
      have sh := o2.2
      rw [e2] at d2 sh
      refine .inr (.inl ?_)
      cases neg with
      | false => exact ⟨_, pyL ds, d1, d2, o1.2, sh, w.now r (.bl _) (by rw [any_py]; exact q)⟩
      | true => exact ⟨_, pyL ds, d1, d2, o1.2, sh, w.now r (.bl _) (by rw [any_py]; exact q)⟩
    · cases ry
      obtain ⟨xs, dn, e1, rv, _, _, _⟩ := r.dn em
      have hk : KyH H k x := ky_of r.sub (ek ▸ rx)
      rw [et] at rx
      cases rx
      refine .inr (.inr (.inl ⟨a, xs, k, _, rfl, rfl, dn, hk, h8, w.now r (.bl _) ?_⟩))
      rw [← look_some e1]
      exact q
  | dct kl dl =>
    obtain ⟨k, ek, ⟨ks, et⟩, h8, q⟩ := q
    obtain ⟨a, xs, ea, dn, _, _, _, e1, rv, _⟩ := dct_is r.sub ry
    have hk : KyH H k x := ky_of r.sub (ek ▸ rx)
    rw [et] at rx
    cases rx
    refine .inr (.inr (.inl ⟨a, xs, k, _, rfl, ea, dn, hk, h8, w.now r (.bl _) ?_⟩))
    rw [← look_some e1]
    exact q
  | non => exact q.elim
  | bl b => exact q.elim
  | int i => exact q.elim
  | scr ds => exact q.elim
  | pair ds => exact q.elim
theorem c2_in : C2 K (rInA K false) aIn := fun G H m x y dx dy Q Qv r rx ry q w => in_is false r rx ry q w
theorem c2_notIn : C2 K (rInA K true) aNotIn := fun G H m x y dx dy Q Qv r rx ry q w => in_is true r rx ry q w
end
/-! tuple(d.values()) -/
section
variable {prog : Program} {w : World} {A : Around} {E : Value → Shared → Prop} {s : Shared} {T : String} {r d : Addr} {n : Nat} {P : Nat → Value → Prop} {OK : Heap → Prop}
theorem collect_src {Q : List Value → Shared → Prop} (K : PySem.W.KdlSrc prog w T r d n P OK) (hh : A.handled = none) (hok : OK s.heap) (hn : n ≤ sizeLine)
    (hQ : ∀ (h' : Heap) (tk : Nat) (acc : Array Value), (∀ b o, s.heap.get? b = some o → h'.get? b = some o) → ItemsOf P acc n → Q acc.toList { s with heap := h', toks := tk }) :
    wpAny (model prog w) A (collect (.ref r)) Q E s := by
  unfold collect
  refine wpAny_bind (wpAny_runValue (codeAny_builtin F.entry_proto_collect ?_))
  rw [Around.under_plainId F.plain_proto_collect _]
  show wpAny _ A.in1 (newList [] >>= fun l => again (.builtin "list.__iadd__" ⟨[l, .ref r], []⟩)) _ _ s
  refine wpAny_bind (wpAny_newObj_type ?_)
  refine wpAny_pure ⟨plainId_quiet F.plain_list_iadd _, codeAny_builtin F.entry_list_iadd ?_⟩
  rw [Around.under_plainId F.plain_list_iadd _]
  show wpAny _ A.in1 (Builtin.List.listExtendWith (.ref s.heap.objs.size) (.ref r) (.ref s.heap.objs.size)) _ _ _
  have hS : (s.heap.push { cls := .type "list", data := .seq ([] : List Value).toArray }).get? s.heap.objs.size = some { cls := .type "list", data := .seq #[] 0 } := Heap.get?_push_size _ rfl
  have hlt := K.there _ hok
  refine wpAny_mono (PySem.W.kdl_extend (A := A) (R := fun rr s' => rr = .ok (.ret (.ref s.heap.objs.size)) ∧ ∃ (h' : Heap) (tk : Nat) (acc : Array Value) (c' : Nat), s' = { s with heap := h', toks := tk } ∧
      (∀ b o, s.heap.get? b = some o → h'.get? b = some o) ∧ h'.get? s.heap.objs.size = some { cls := .type "list", dict := none, data := .seq acc c', slots := #[] } ∧ ItemsOf P acc n)
    (s := { s with heap := s.heap.push { cls := .type "list", data := .seq ([] : List Value).toArray } }) K hh (K.keep _ _ hok fun b _ o e => Heap.get?_push_of_some _ e) s.heap.objs.size (Nat.ne_of_gt hlt.1) (Nat.ne_of_gt hlt.2) _ 0 hS
    (fun h' tk acc c' hk e hi => ⟨rfl, h', tk, acc, c', rfl, fun b o q => hk b o (Nat.ne_of_lt (Heap.lt_size q)) (Heap.get?_push_of_some _ q), e, hi⟩) hn) (fun fin s' h => ?_) (fun e s' h => ?_)
  · cases fin with
    | done f =>
      obtain ⟨e, h', tk, acc, c', rfl, hk, hS', hi⟩ := h
      cases e
      show wpAny _ A (load s.heap.objs.size >>= _) _ _ _
      exact wpAny_bind (wpAny_load hS' (wpAny_pure (hQ h' tk acc hk hi)))
    | again c' =>
      refine ⟨h.1, codeAny_mono h.2 fun rr s'' hr' => ?_⟩
      obtain ⟨rfl, h', tk, acc, c', rfl, hk, hS', hi⟩ := hr'
      show wpAny _ A (load s.heap.objs.size >>= _) _ _ _
      exact wpAny_bind (wpAny_load hS' (wpAny_pure (hQ h' tk acc hk hi)))
  · exact absurd h.1 (by simp)
theorem code_tuple_new_src {Q₁ : Value → Shared → Prop} (K : PySem.W.KdlSrc prog w T r d n P OK) (hh : A.handled = none) (hok : OK s.heap) (hn : n ≤ sizeLine)
    (h : ∀ (h' : Heap) (tk : Nat) (acc : Array Value), (∀ b o, s.heap.get? b = some o → h'.get? b = some o) → ItemsOf P acc n →
      Q₁ (.ref h'.objs.size) { s with heap := h'.push { cls := .type "tuple", data := .seq acc }, toks := tk }) :
    codeAny (model prog w) A (.call (.builtin "tuple.__new__") ⟨[.type "tuple", .ref r], []⟩) (wants Q₁ E) s := by
  refine codeAny_of_tree ?_
  show wpAny _ A.in1 (do checkBuiltinCall "tuple.__new__" ⟨[.type "tuple", .ref r], []⟩; again (.builtin "tuple.__new__" ⟨[.type "tuple", .ref r], []⟩)) _ _ s
  refine wpAny_bind (wpAny_of_eq (F.newCall_tuple_1 _) (wpAny_pure ⟨plainId_quiet F.plain_tuple_new _, codeAny_builtin F.entry_tuple_new ?_⟩))
  rw [Around.under_plainId F.plain_tuple_new _]
  have hsub := sub_tuple_self
  have hinit := init_tuple_lookup
  have hmh := madeHere_tuple
  have hTI : s.TypeIs (.ref r) T := K.type s hok
  have hnt := K.notTuple
  have hh1 : A.in1.handled = none := hh
  wp_walk using wpAny_typeOf hTI, collect_src (A := A.in1) K hh1 hok hn
  intro h' tk acc hk hacc
  show wpAny _ _ (Builtin.Tuple.tupleExact acc.toList.toArray >>= fun v => ret v) _ _ _
  unfold Builtin.Tuple.tupleExact
  refine wpAny_bind (wpAny_newObj_type ?_ (by show acc.toList.toArray.size ≤ sizeLine; simp only [Array.toArray_toList]; rw [hacc.1]; exact hn))
  refine wpAny_pure ?_
  have e : acc.toList.toArray = acc := by simp
  rw [e]
  exact h h' tk acc hk hacc
theorem call_tuple_src {Q : Value → Shared → Prop} (K : PySem.W.KdlSrc prog w T r d n P OK) (hh : A.handled = none) (hok : OK s.heap) (hn : n ≤ sizeLine)
    (hQ : ∀ (h' : Heap) (tk : Nat) (acc : Array Value), (∀ b o, s.heap.get? b = some o → h'.get? b = some o) → ItemsOf P acc n →
      Q (.ref h'.objs.size) { s with heap := h'.push { cls := .type "tuple", data := .seq acc }, toks := tk }) :
    wpAny (model prog w) A (call (.type "tuple") [.ref r]) Q E s := by
  refine callType_codes (Q₁ := fun obj s₁ => s₁.TypeIs obj "tuple" ∧ Q obj s₁) F.called_tuple (F.typeCall_tuple_1 _) F.entry_object_init
    (code_tuple_new_src (A := A.in1) K hh hok hn fun h' tk acc hk hacc => ⟨⟨_, Heap.get?_push_size _ rfl, rfl⟩, hQ h' tk acc hk hacc⟩) fun obj s₁ h₁ => ?_
  exact ⟨h₁.1, F.args_object_init_2 obj _, object_init_meets F.called_tuple.init.lookup F.called_tuple.made (by decide) prog w A.in1 _ s₁ ⟨h₁.1, rfl, h₁.2⟩⟩
end
section
variable {X : Cx} {o : Expr} {to : DT} {pos p apos cpos : Pos}
theorem pairX_vals : ∀ {xs : Row3} {vs : List (NestedKey × Addr × Value)}, PairX xs vs → Vals (xs.map (·.2.2)) (vs.map (·.2.2))
  | _, _, .nil => .nil
  | _, _, .cons h r => .cons h.2.2 (pairX_vals r)
/-- tuple(d.values()) -/
def tVals (wd : World) (to : TE) : TE := fun σ H Q => to σ H fun x H1 => ∃ a xs, x = .ref a ∧ DN wd H1 a xs ∧ NewT H1 (xs.map (·.2.2)) Q
theorem pe_tupVals {to : TE} (hc : X.calm = true) (hg : Gl X "tuple") (hm : X.mg "tuple" = none) (ho : PE X o to)
    (na : starEach [.Call (.Attribute o "values" apos) [] [] cpos] X.env = (false, eval (.Call (.Attribute o "values" apos) [] [] cpos) X.env) :: starEach [] X.env := by rfl)
    (hbase : attributeBase o "values" X.env (eval o X.env) = eval o X.env := by rfl) (hline : (apos.endLine == cpos.line) = true := by rfl) :
    PE X (.Call (.Name "tuple" p) [.Call (.Attribute o "values" apos) [] [] cpos] [] pos) (tVals X.w to) := by
  refine ⟨fun pins s σ H Q I h => ?_⟩
  refine Call_ (ld_blt I hg hm boot_tuple (PyProof.Rows.callWith_type1 (PyProof.Rows.args_cons ?_ na) na))
  refine wpAny_Call_method (T := "dict") (id := "dict.values") hbase rfl hline F.plainAttrs_dict F.slot_dict_values F.type_dict_values (thn (ho.run pins s σ H _ I h) fun u s1 ⟨x, H1, I1, rx, d, xs, ex, dn, q⟩ => ?_)
  subst ex
  obtain rfl : u = Value.ref d := rx
  obtain ⟨vs, rp, dd⟩ := dn.dict I1
  obtain ⟨ob, es, ep, hob, hex, hdt, hes, hk8, hnd⟩ := id dd
  have hraw : s1.heap.DictRaw d es ep := ⟨ob, hob, hex, hdt⟩
  refine ⟨dd.typeIs, fun b eb => by cases eb; exact ⟨ob, hob, hex.2.1⟩, ?_⟩
  have hsz : es.size = vs.length := by rw [← Array.length_toList, hes, List.length_map]
  show wpAny _ _ (callWith cpos (.builtin "dict.values") [.ref d] [] []) _ X.xe s1
  refine method_meetsIn F.slot_dict_values F.entry_dict_values rfl (PySem.evalArgs_none ⟨rfl, dd.typeIs, F.args_dict_values_1 _, _, meets_dict_values_raw d dn.ns, ⟨es, ep, hraw⟩, ?_⟩)
  refine PyProof.Rows.args_nil ?_
  have I2 : Inv X pins σ H1 { s1 with heap := s1.heap.push { cls := .type "dict_values", data := .fields #[.ref d] } } := I1.kept (t' := s1.toks) fun b ob q => Heap.get?_push_of_some _ q
  refine call_tuple_src (PySem.KdlSrc.rawValues (r := s1.heap.objs.size) (d := d) (es := es) (ep := ep)) (I1.ok.hd hc) ⟨⟨_, Heap.get?_push_size _ rfl, rfl, rfl⟩, hraw.at fun o e => Heap.get?_push_of_some _ e⟩ (by rw [hsz, ← pairX_len rp]; exact dn.sz) fun h' tk acc hk hacc => ?_
  have I3 : Inv X pins σ H1 { s1 with heap := h', toks := tk } := I2.kept hk
  have hav : acc.toList = vs.map (·.2.2) := by
    apply List.ext_getElem?
    intro i
    by_cases hi : i < es.size
    · have ha : i < acc.size := by rw [hacc.1]; exact hi
      obtain ⟨hi', e1⟩ := hacc.2 i acc[i] (Array.getElem?_eq_getElem ha)
      have e2 : es.toList[i]? = some es[i] := by rw [Array.getElem?_toList]; exact Array.getElem?_eq_getElem hi
      rw [hes, List.getElem?_map] at e2
      obtain ⟨v0, hv0, ev0⟩ := Option.map_eq_some_iff.mp e2
      rw [List.getElem?_map, hv0, Array.getElem?_toList, Array.getElem?_eq_getElem ha, e1, ← ev0]
      rfl
    · rw [List.getElem?_eq_none (by rw [Array.length_toList, hacc.1]; omega), List.getElem?_eq_none (by rw [List.length_map]; omega)]
  have hvs : Vals (xs.map (·.2.2)) acc.toList := by rw [hav]; exact pairX_vals rp
  refine ⟨.ref h'.objs.size, _, I3.laid (t' := tk) (o := .frz { cls := .type "tuple", data := .seq acc } (.tup (xs.map (·.2.2)))) (fun c o e => Heap.get?_push_of_some _ e) (Nat.le_refl _) ?_, rfl, q _ _ rfl (I3.hok.fresh (Nat.le_refl _))⟩
  refine ⟨Heap.get?_push_size _ rfl, by rw [List.length_map]; exact dn.sz, acc.toList, hvs, ?_⟩
  rw [Array.toArray_toList]
  exact IsTup.new _ _
def dTupVals (to : DT) : DT := fun r m Q => to r m fun o m1 => ∃ p kvs, o = .ref p ∧ m1 p = some (.dN kvs) ∧ Q (.tup (kvs.map (·.2))) m1
theorem pd_tupVals (hc : X.calm = true) (hg : Gl X "tuple") (hm : X.mg "tuple" = none) (ho : PD X o to)
    (na : starEach [.Call (.Attribute o "values" apos) [] [] cpos] X.env = (false, eval (.Call (.Attribute o "values" apos) [] [] cpos) X.env) :: starEach [] X.env := by rfl)
    (hbase : attributeBase o "values" X.env (eval o X.env) = eval o X.env := by rfl) (hline : (apos.endLine == cpos.line) = true := by rfl) :
    PD X (.Call (.Name "tuple" p) [.Call (.Attribute o "values" apos) [] [] cpos] [] pos) (dTupVals to) := by
  refine peM (pe_tupVals hc hg hm ho na hbase hline) fun s H Q ⟨G, ro, m, Qd, hs, hr, q, w⟩ => ?_
  refine ⟨G, ro, m, _, hs, hr, q, fun v H1 G1 m1 d s1 r1 h1 ⟨p, kvs, e1, e2, q1⟩ => ?_⟩
  subst e1
  cases h1
  obtain ⟨xs, dn, ek, rv, _, z, _⟩ := r1.dn e2
  exact ⟨p, xs, rfl, dn, Rl.newTup (w.after s1) r1 rv (by rw [List.length_map]; exact z) q1⟩
end
end Mn

set_option Elab.async false
set_option linter.all false
set_option maxRecDepth 100000
set_option maxHeartbeats 4000000
set_option autoImplicit false
namespace Mn
open PySem PySem.Spec PyProof.Rows L2
variable [Tbs]
/-! loops and comprehensions over data that is given by a list -/
section
variable {α σ : Type} {g : DG} {tb : DS} {De : DE} {tt : DB} {te : DT} {r : Ro} {m : Mu} {enc : α → D}
/-- a loop as a fold over what its state stands for -/
theorem forGo_fold (f : σ → α → σ) (I : σ → Ro → Mu → Prop) : ∀ (xs : List α) (s : σ) (r : Ro) (m : Mu), I s r m →
    (∀ (s : σ) (x : α) (r : Ro) (m : Mu) (P : Ro → Mu → Prop), x ∈ xs → I s r m → (∀ r' m', I (f s x) r' m' → P r' m') → g (enc x) r fun r1 => tb { De with nx := P, ct := P, bk := De.nx } r1 m) →
    (∀ r m, I (xs.foldl f s) r m → De.nx r m) → forGo g tb De (xs.map enc) r m
  | [], s, r, m, h0, _, hd => hd r m h0
  | x :: xs, s, r, m, h0, hs, hd =>
    hs s x r m (forGo g tb De (xs.map enc)) List.mem_cons_self h0 fun r' m' h1 => forGo_fold f I xs (f s x) r' m' h1 (fun s y r m P hy => hs s y r m P (List.mem_cons_of_mem _ hy)) hd
/-- a loop that may end early: the state behind the items that were taken -/
theorem forGo_take (I : List α → Ro → Mu → Prop) (xs : List α) : ∀ (pre post : List α) (r : Ro) (m : Mu), xs = pre ++ post → I pre r m →
    (∀ (pre : List α) (x : α) (post : List α) (r : Ro) (m : Mu) (P : Ro → Mu → Prop), xs = pre ++ x :: post → I pre r m → (∀ r' m', I (pre ++ [x]) r' m' → P r' m') → g (enc x) r fun r1 => tb { De with nx := P, ct := P, bk := De.nx } r1 m) →
    (∀ r m, I xs r m → De.nx r m) → forGo g tb De (post.map enc) r m
  | pre, [], r, m, e, h0, _, hd => hd r m (by rw [e, List.append_nil]; exact h0)
  | pre, x :: post, r, m, e, h0, hs, hd =>
    hs pre x post r m (forGo g tb De (post.map enc)) e h0 fun r' m' h1 => forGo_take I xs (pre ++ [x]) post r' m' (by rw [e, List.append_assoc]; rfl) h1 hs hd
/-- a comprehension whose parts change nothing -/
theorem lcGo_maps (f : α → D) : ∀ (xs : List α) (acc : List D) (Q : List D → Mu → Prop), (∀ x ∈ xs, ∀ K : DK, K (f x) m → g (enc x) r fun r1 => te r1 m K) → Q (acc ++ xs.map f) m → lcGo g dYes te r (xs.map enc) acc m Q
  | [], acc, Q, _, h => by rw [List.map_nil, List.append_nil] at h; exact h
  | x :: xs, acc, Q, hf, h => by
    rw [List.map_cons]
    show g (enc x) r fun r1 => te r1 m fun y m2 => lcGo g dYes te r (xs.map enc) (acc ++ [y]) m2 Q
    refine hf x List.mem_cons_self _ (lcGo_maps f xs (acc ++ [f x]) Q (fun e he => hf e (List.mem_cons_of_mem _ he)) ?_)
    rw [List.append_assoc]
    exact h
/-- .. with a test -/
theorem lcGo_filt (p : α → Bool) (f : α → D) : ∀ (xs : List α) (acc : List D) (Q : List D → Mu → Prop), (∀ x ∈ xs, ∀ (A : DK) (B : Mu → Prop), (if p x = true then A (f x) m else B m) → g (enc x) r fun r1 => tt r1 m fun z m1 => if z = true then te r1 m1 A else B m1) →
    Q (acc ++ (xs.filter p).map f) m → lcGo g tt te r (xs.map enc) acc m Q
  | [], acc, Q, _, h => by rw [List.filter_nil, List.map_nil, List.append_nil] at h; exact h
  | x :: xs, acc, Q, hf, h => by
    rw [List.map_cons]
    refine hf x List.mem_cons_self (fun y m2 => lcGo g tt te r (xs.map enc) (acc ++ [y]) m2 Q) (fun m2 => lcGo g tt te r (xs.map enc) acc m2 Q) ?_
    by_cases hp : p x = true
    · rw [if_pos hp]
      rw [List.filter_cons_of_pos hp, List.map_cons] at h
      refine lcGo_filt p f xs (acc ++ [f x]) Q (fun e he => hf e (List.mem_cons_of_mem _ he)) ?_
      rw [List.append_assoc]
      exact h
    · rw [if_neg hp]
      rw [List.filter_cons_of_neg hp] at h
      exact lcGo_filt p f xs acc Q (fun e he => hf e (List.mem_cons_of_mem _ he)) h
theorem lcIn_filt {β : Type} {enc1 : β → D} (p : β → Bool) (f : β → D) : ∀ (ys : List β) (acc : List D) (Q : List D → Mu → Prop), acc.length + (ys.filter p).length ≤ sizeLine → (∀ y ∈ ys, ∀ (A : DK) (B : Mu → Prop), (if p y = true then A (f y) m else B m) → g (enc1 y) r fun r1 => tt r1 m fun z m1 => if z = true then te r1 m1 A else B m1) →
    Q (acc ++ (ys.filter p).map f) m → lcIn g tt te r (ys.map enc1) acc m Q
  | [], acc, Q, _, _, h => by rw [List.filter_nil, List.map_nil, List.append_nil] at h; exact h
  | y :: ys, acc, Q, hl, hf, h => by
    rw [List.map_cons]
    refine hf y List.mem_cons_self (fun z m2 => acc.length < sizeLine ∧ lcIn g tt te r (ys.map enc1) (acc ++ [z]) m2 Q) (fun m2 => lcIn g tt te r (ys.map enc1) acc m2 Q) ?_
    by_cases hp : p y = true
    · rw [if_pos hp]
      rw [List.filter_cons_of_pos hp, List.map_cons] at h
      rw [List.filter_cons_of_pos hp, List.length_cons] at hl
      refine ⟨by omega, lcIn_filt p f ys (acc ++ [f y]) Q (by rw [List.length_append, List.length_singleton]; omega) (fun e he => hf e (List.mem_cons_of_mem _ he)) ?_⟩
      rw [List.append_assoc]
      exact h
    · rw [if_neg hp]
      rw [List.filter_cons_of_neg hp] at h hl
      exact lcIn_filt p f ys acc Q hl (fun e he => hf e (List.mem_cons_of_mem _ he)) h
theorem lcGo2_maps {β : Type} {enc1 : β → D} {src1 : DI} {vs1 : List Nat} {g1 : DG} {tt1 : DB} (ys : α → List β) (f : α → β → D) (p : α → β → Bool) : ∀ (xs : List α) (acc : List D) (Q : List D → Mu → Prop), acc.length + (xs.flatMap fun x => (ys x).filter (p x)).length ≤ sizeLine →
    (∀ x ∈ xs, ∀ R : Ro → Prop, (∀ r1, (∀ (P : List D → Mu → Prop), P ((ys x).map enc1) m → src1 r1 m P) → (∀ y ∈ ys x, ∀ (A : DK) (B : Mu → Prop), (if p x y = true then A (f x y) m else B m) → g1 (enc1 y) (wipeD r1 vs1) fun r2 => tt1 r2 m fun z m1 => if z = true then te r2 m1 A else B m1) → R r1) → g (enc x) r R) →
    Q (acc ++ (xs.flatMap fun x => ((ys x).filter (p x)).map (f x))) m → lcGo2 g dYes src1 vs1 g1 tt1 te r (xs.map enc) acc m Q
  | [], acc, Q, _, _, h => by rw [List.flatMap_nil, List.append_nil] at h; exact h
  | x :: xs, acc, Q, hl, hf, h => by
    rw [List.flatMap_cons, List.length_append] at hl
    rw [List.flatMap_cons] at h
    rw [List.map_cons]
    show g (enc x) r fun r1 => src1 r1 m fun items m2 => lcIn g1 tt1 te (wipeD r1 vs1) items acc m2 fun acc' m3 => lcGo2 g dYes src1 vs1 g1 tt1 te r (xs.map enc) acc' m3 Q
    refine hf x List.mem_cons_self _ fun r1 h1 h2 => h1 _ (lcIn_filt (p x) (f x) (ys x) acc _ (by omega) h2 ?_)
    refine lcGo2_maps ys f p xs _ Q ?_ (fun e he => hf e (List.mem_cons_of_mem _ he)) ?_
    · rw [List.length_append, List.length_map]; omega
    · rw [List.append_assoc]; exact h
end
/-! readings at known data -/
theorem aSl_tup {ds : List D} {l h : Option Int} {m : Mu} {Q : DK} : aSl (.tup ds) l h m Q ↔ Q (.tup (cutD ds l h)) m := Iff.rfl
theorem aSl_lst {ds : List D} {l h : Option Int} {m : Mu} {Q : DK} : aSl (.lst ds) l h m Q ↔ Q (.lst (cutD ds l h)) m := Iff.rfl
theorem sqf_tup {ds : List D} {m : Mu} : seqOf (.tup ds) m = some ds := rfl
theorem sqf_lst {ds : List D} {m : Mu} : seqOf (.lst ds) m = some ds := rfl
theorem sqf_pair {ds : List D} {m : Mu} : seqOf (.pair ds) m = some ds := rfl
/-! what is walked, as a list -/
theorem zip2_map {α β : Type} {ea : α → D} {eb : β → D} : ∀ (as : List α) (bs : List β), zip2 (as.map ea) (bs.map eb) = (as.zip bs).map fun p => D.pair [ea p.1, eb p.2]
  | [], _ => by simp [zip2]
  | _ :: _, [] => by simp [zip2]
  | a :: as, b :: bs => by
    have ih := zip2_map (ea := ea) (eb := eb) as bs
    unfold zip2 at ih ⊢
    rw [List.map_cons, List.map_cons, List.zipWith_cons_cons, ih, List.zip_cons_cons, List.map_cons]
theorem zip3_map {α β γ : Type} {ea : α → D} {eb : β → D} {ec : γ → D} : ∀ (as : List α) (bs : List β) (cs : List γ), zip3 (as.map ea) (bs.map eb) (cs.map ec) = (as.zip (bs.zip cs)).map fun p => D.pair [ea p.1, eb p.2.1, ec p.2.2]
  | [], _, _ => by simp [zip3]
  | _ :: _, [], _ => by simp [zip3]
  | _ :: _, _ :: _, [] => by simp [zip3]
  | a :: as, b :: bs, c :: cs => by
    rw [List.map_cons, List.map_cons, List.map_cons, zip3, zip3_map as bs cs, List.zip_cons_cons, List.zip_cons_cons, List.map_cons]
theorem enumD_map {α : Type} {e : α → D} : ∀ (xs : List α) (k : Nat), enumD k (xs.map e) = (xs.zipIdx k).map fun p => D.pair [.int (p.2 : Nat), e p.1]
  | [], _ => rfl
  | x :: xs, k => by
    rw [List.map_cons, enumD, enumD_map xs (k + 1), List.zipIdx_cons, List.map_cons]
theorem rgD_map (k : Nat) : rgD 0 k = (List.range k).map fun i : Nat => D.int i := by
  unfold rgD
  rw [show ((k : Int) - 0).toNat = k by omega]
  simp only [Int.zero_add]
theorem rgD_map2 (a k : Nat) : rgD a k = (List.range' a (k - a)).map fun i : Nat => D.int i := by
  unfold rgD
  rw [show ((k : Int) - a).toNat = k - a by omega, List.range'_eq_map_range, List.map_map]
  refine List.map_congr_left fun i _ => ?_
  simp only [Function.comp]
  rw [Int.natCast_add]
end Mn

set_option Elab.async false
set_option linter.all false
set_option maxRecDepth 100000
set_option maxHeartbeats 4000000
set_option autoImplicit false
namespace Mn
open PySem PySem.Spec PyProof.Rows L2
variable [Tbs]
/-! ahead of a statement: a mutable list of a register, from here on not changed -/
def xFrz (i : Nat) (t : DS) : DS := fun De r m => ∃ p ds, r[i]? = some (some (.ref p)) ∧ m p = some (.lst ds) ∧ t De (r.set i (some (.lst ds))) (er m p)
section
variable {X : Cx} {st : Stmt} {sts : List Stmt} {t : DS}
/-- a, b, c = x, y, z -/
def xPar3 (i j l : Nat) (ta : DA) : DS := fun De r m => ta r m fun ds m1 => ∃ d e f, ds = [d, e, f] ∧ De.nx (((r.set i (some d)).set j (some e)).set l (some f)) m1
/-! xs.count(k) of a list of whole numbers -/
def dCountL (to te : DT) : DT := fun r m Q => to r m fun o m1 => (lst1 o m1).isSome = true ∧ te r m1 fun d m2 => ∃ (ns : List Int) (k : Int), lst1 o m2 = some (ns.map D.int) ∧ d = .int k ∧ Q (.int (ns.count k : Nat)) m2
end
end Mn

set_option Elab.async false
set_option linter.all false
set_option maxRecDepth 100000
set_option maxHeartbeats 4000000
set_option autoImplicit false
namespace Mn
open PySem PySem.Spec PyProof.Rows L2
variable [Tbs]
/-! zip over any number of lists and tuples, to any target -/
section
variable {prog : Program} {w : World} {A : Around} {E : Value → Shared → Prop}
structure Src where
  k : Bool
  it : Addr
  a : Addr
  items : Array Value
def Src.ok (d : Src) (h : Heap) (i : Nat) : Prop := ItAt d.k h d.it d.a i ∧ IsB d.k h d.a d.items
def IsZ (h : Heap) (z TI TO : Addr) (f0 : Value) (f : Bool) : Prop := h.get? z = some { cls := .type "zip", dict := none, data := .fields #[f0, .bool f, .bool false, .ref TI, .ref TO], slots := #[] }
def IsT (h : Heap) (T : Addr) (arr : Array Value) : Prop := h.get? T = some { cls := .type "tuple", data := .seq arr }
def Own0 (f0 : Value) : Prop := f0 = .none ∨ ∃ T : Addr, f0 = rawInt T
structure Apart (z TI TO : Addr) (ds : List Src) : Prop where
  zI : z ≠ TI
  zO : z ≠ TO
  IO : TI ≠ TO
  it : ∀ d ∈ ds, d.it ≠ z ∧ d.it ≠ TI ∧ d.it ≠ TO ∧ d.a ≠ z ∧ d.a ≠ TO ∧ ∀ e ∈ ds, d.a ≠ e.it
  nd : ds.Pairwise fun d e => d.it ≠ e.it
theorem Src.ok.at {d : Src} {h h' : Heap} {i : Nat} (x : d.ok h i) (q : ∀ c o, c = d.it ∨ c = d.a → h.get? c = some o → h'.get? c = some o) : d.ok h' i := by
  refine ⟨x.1.at fun o e => q _ o (.inl rfl) e, ?_⟩
  have h2 := x.2
  unfold IsB at h2 ⊢
  cases hk : d.k with
  | true => rw [hk] at h2; exact Heap.IsList.at (show h.IsList d.a d.items from h2) fun o e => q _ o (.inr rfl) e
  | false => rw [hk] at h2; exact Heap.IsTuple.at (show h.IsTuple d.a d.items from h2) fun o e => q _ o (.inr rfl) e
theorem Src.ok.over {d : Src} {h h' : Heap} {i : Nat} {x : Addr} (k : d.ok h i) (hs : Heap.SameBut x h h') (h1 : d.it ≠ x) (h2 : d.a ≠ x) : d.ok h' i :=
  k.at fun c o hc e => hs.extBut _ _ (by rcases hc with rfl | rfl <;> assumption) e
def Kept (z TO : Addr) (ds : List Src) (h h' : Heap) : Prop := ∀ c o, c ≠ z → c ≠ TO → (∀ e ∈ ds, c ≠ e.it) → h.get? c = some o → h'.get? c = some o
/-- what a step of zip leaves -/
structure ZnOut (z TI TO : Addr) (ds : List Src) (i : Nat) (h h' : Heap) (T : Addr) : Prop where
  lt : ∀ d ∈ ds, i < d.items.size
  zip : ∃ f0 f, IsZ h' z TI TO f0 f ∧ Own0 f0
  to : ∃ arr : Array Value, IsT h' TO arr ∧ arr.size = ds.length
  ok : ∀ d ∈ ds, d.ok h' (i + 1)
  tup : ∃ vs : List Value, vs.length = ds.length ∧ (∀ (j : Nat) (d : Src), ds[j]? = some d → vs[j]? = d.items[i]?) ∧ IsT h' T vs.toArray
  new : h.objs.size ≤ T
  kept : Kept z TO ds h h'
end
end Mn

set_option Elab.async false
set_option linter.all false
set_option maxRecDepth 100000
set_option maxHeartbeats 4000000
set_option autoImplicit false
namespace Mn
open PySem PySem.Spec PyProof.Rows L2
variable [Tbs]
/-! the turns of a zip of any number -/
def withIt (f : Src → Array Value) (c : Src) : Src := { c with items := f c }
theorem Apart.with {z TI TO : Addr} {cs : List Src} (ap : Apart z TI TO cs) (f : Src → Array Value) : Apart z TI TO (cs.map (withIt f)) where
  zI := ap.zI
  zO := ap.zO
  IO := ap.IO
  it := fun d hd => by
    obtain ⟨c, hc, rfl⟩ := List.mem_map.mp hd
    have q := ap.it c hc
    exact ⟨q.1, q.2.1, q.2.2.1, q.2.2.2.1, q.2.2.2.2.1, fun e he => by obtain ⟨c', hc', rfl⟩ := List.mem_map.mp he; exact q.2.2.2.2.2 c' hc'⟩
  nd := by rw [List.pairwise_map]; exact ap.nd
end Mn

set_option Elab.async false
set_option linter.all false
set_option maxRecDepth 100000
set_option maxHeartbeats 4000000
set_option autoImplicit false
namespace Mn
open PySem PySem.Spec PyProof.Rows L2
variable [Tbs]
theorem nn {n i j : Nat} (h : i ≠ j) : n + i ≠ n + j := by omega
theorem n0 {n i : Nat} (h : i ≠ 0) : n ≠ n + i := by omega
/-! zip of two, to any target -/
section
variable {K : KF}
end
section
variable {X : Cx} {tg e e2 : Expr} {t u : DT} {p pos : Pos}
end
end Mn

set_option Elab.async false
set_option linter.all false
set_option maxRecDepth 100000
set_option maxHeartbeats 4000000
set_option autoImplicit false
namespace Mn
open PySem PySem.Spec PyProof.Rows L2
variable [Tbs]
/-! zip of four -/
end Mn

set_option Elab.async false
set_option linter.all false
set_option maxRecDepth 100000
set_option maxHeartbeats 4000000
set_option autoImplicit false
namespace Mn
open PySem PySem.Spec PyProof.Rows L2
variable [Tbs]
def zip4 : List D → List D → List D → List D → List D
  | x :: xs, y :: ys, z :: zs, w :: ws => .pair [x, y, z, w] :: zip4 xs ys zs ws
  | _, _, _, _ => []
def sZip4 (t u v x : DT) : DI := fun r m Q => t r m fun d m1 => u r m1 fun e m2 => v r m2 fun f m3 => x r m3 fun g m4 => ∃ xs ys zs ws, seqI d = some xs ∧ seqI e = some ys ∧ seqI f = some zs ∧ seqI g = some ws ∧ Q (zip4 xs ys zs ws) m4
section
variable {K : KF}
end
section
variable {X : Cx} {tg e e2 e3 e4 : Expr} {t u v x : DT} {p pos : Pos}
end
end Mn

set_option linter.all false
set_option maxHeartbeats 4000000
set_option autoImplicit false
set_option maxRecDepth 100000
namespace Mn
open PySem L2
variable [Tbs]
local macro_rules | `(tactic| walk_at "d") => `(tactic| (try simp only [xNext, xSeq, xAsg, xRet, xRetF, xDrop, xIf, xPar, xPar3, xFrz, xPut, xAug, xFor, dVar, dC, dOp, dTest, dChain, dAndV, dOrV, dNotV, dAnd, dOr, dNot, dIf, dNil, dCons, dTup, dLst, dLstM, dCB, dIsi, dLc, dLcM, dYes, wipeD, dSlice, oSome, oNone, aSl_tup, aSl_lst, dNeg, dStar, dNewD, dTupVals, dCountL, dExtend, dAppend, dFrz, dLc2, dCountT, dIndexT, sqf_tup, sqf_lst, sqf_pair, sSeq, sSeq_tup, sSeq_lst, sRg1, sRg2, sZip2, sZip3, sZip4, sEnum, gV, gN, gC, gT, tupOf_tup, tupOf_pair, aAdd_int, aAdd_tup, aAdd_lst, aSub_int, aMul_int, aDiv_int, aMod_int, aPow_int, aCmp_int, aIx_tup, aIx_lst, aIx_scr, aIx_pair, aMax_int, aMin_int, aInt_bl, aInt_int, aLen_tup, aLen_lst, aLen_scr, aLen_pair, aTuple_lst, aTuple_tup, aEq_int, aNe_int, startD, List.map_cons, List.map_nil, List.length_cons, List.length_nil, List.cons_append, List.nil_append, List.replicate_zero, List.replicate_succ, List.append_nil, List.getElem?_cons_zero, List.getElem?_cons_succ, List.set_cons_zero, List.set_cons_succ, Option.some.injEq, exists_eq_left', exists_eq_left, exists_eq', D.int.injEq, D.bl.injEq, D.tup.injEq, D.lst.injEq, D.pair.injEq, D.ref.injEq, List.cons.injEq, Nat.sub_self, Nat.zero_add, Nat.add_sub_cancel, seqI_tup, seqI_lst, seqOf_tup, seqOf_lst, tyN_tup, tyN_lst, tyN_int, tyN_bl, tyN_str, tyN_non, isi_tt, at_0, at_1, at_2, at_3, Option.map_some, true_and, and_true, if_true, Bool.false_eq_true, if_false, Bool.not_true, Bool.not_false, ↓reduceIte, Nat.reduceAdd, Nat.reduceSub, exists_and_left, and_assoc]))
/-! attributes, in plain data -/
def maxN (l : List Nat) : Nat := l.foldl max 0
theorem le_maxN {l : List Nat} : ∀ {x : Nat}, x ∈ l → x ≤ maxN l := by
  have key : ∀ (l : List Nat) (a : Nat), a ≤ l.foldl max a ∧ ∀ x ∈ l, x ≤ l.foldl max a := by
    intro l
    induction l with
    | nil => intro a; exact ⟨Nat.le_refl _, fun _ h => nomatch h⟩
    | cons y l ih =>
      intro a
      have := ih (max a y)
      simp only [List.foldl_cons]
      refine ⟨by omega, fun x hx => ?_⟩
      rcases List.mem_cons.mp hx with rfl | hx
      · omega
      · exact this.2 x hx
  intro x hx
  exact (key l 0).2 x hx
theorem maxN_le {b : Nat} : ∀ {l : List Nat}, (∀ x ∈ l, x ≤ b) → maxN l ≤ b := by
  have key : ∀ (l : List Nat) (a : Nat), a ≤ b → (∀ x ∈ l, x ≤ b) → l.foldl max a ≤ b := by
    intro l
    induction l with
    | nil => intro a h _; exact h
    | cons y l ih =>
      intro a h hl
      exact ih (max a y) (by have := hl y List.mem_cons_self; omega) fun x hx => hl x (List.mem_cons_of_mem _ hx)
  intro l hl
  exact key l 0 (Nat.zero_le _) hl
/-- how many groups a level has -/
def At.sz (a : At) : Nat → Nat
  | 0 => a.n
  | l + 1 => maxN (a.ss.getD l []) + 1
def stepG (st : List Nat) (g : Nat) : Nat := st.getD g 0
theorem stepG_get {st : List Nat} {g : Nat} (h : g < st.length) : stepG st g = st[g] := by
  unfold stepG; rw [List.getD_eq_getElem?_getD, List.getElem?_eq_getElem h]; rfl
/-- the group above -/
def At.up (a : At) (g lo hi : Nat) : Nat := ((a.ss.drop lo).take (hi - lo)).foldl (fun g st => stepG st g) g
theorem Stp1.max {g g' : Nat} {s : List Nat} (h : Stp1 g s g') (hg : 1 ≤ g) : maxN s + 1 = g' := by
  obtain ⟨hl, hlt, hx, hy⟩ := h
  have h1 : 1 ≤ g' := by
    cases s with
    | nil => rw [List.length_nil] at hl; omega
    | cons a r => have := hx a (by simp); omega
  have a := maxN_le (b := g' - 1) fun x hx' => by have := hx x hx'; omega
  have b := le_maxN (hy (g' - 1) (by omega))
  omega
theorem stepsV_at : ∀ {ss : List (List Nat)} {g : Nat}, 1 ≤ g → stepsV g ss → ∀ (l : Nat) (s : List Nat), ss[l]? = some s → ∃ gl, (if l = 0 then gl = g else gl = maxN (ss.getD (l - 1) []) + 1) ∧ 1 ≤ gl ∧ gl ≤ g ∧ Stp1 gl s (maxN s + 1)
  | [], _, _, _, l, s, e => by simp at e
  | st :: ss, g, hg, ⟨g', h1, h2⟩, 0, s, e => by
    simp only [List.getElem?_cons_zero, Option.some.injEq] at e
    subst e
    refine ⟨g, by simp, hg, Nat.le_refl _, ?_⟩
    rw [h1.max hg]
    exact h1
  | st :: ss, g, hg, ⟨g', h1, h2⟩, l + 1, s, e => by
    have hm := h1.max hg
    have g1 : 1 ≤ g' := by omega
    obtain ⟨gl, q1, q2, q3, q4⟩ := stepsV_at g1 h2 l s (by simpa using e)
    refine ⟨gl, ?_, q2, ?_, q4⟩
    · rw [if_neg (by omega)]
      cases l with
      | zero => rw [if_pos rfl] at q1; simp [q1, hm]
      | succ k => rw [if_neg (by omega)] at q1; simpa using q1
    · have := h1.2.1; omega
theorem At.V.step {a : At} (h : a.V) {l : Nat} (hl : l < a.ss.length) : Stp1 (a.sz l) (a.ss.getD l []) (a.sz (l + 1)) := by
  obtain ⟨h1, h2, h3, h4⟩ := h
  have e : a.ss[l]? = some (a.ss.getD l []) := by rw [List.getD_eq_getElem?_getD, List.getElem?_eq_getElem hl]; rfl
  obtain ⟨gl, q1, q2, q3, q4⟩ := stepsV_at h1 h4 l _ e
  cases l with
  | zero => rw [if_pos rfl] at q1; rw [q1] at q4; exact q4
  | succ k => rw [if_neg (by omega)] at q1; rw [q1] at q4; exact q4
theorem At.V.sz_le {a : At} (h : a.V) : ∀ {l : Nat}, l ≤ a.ss.length → 1 ≤ a.sz l ∧ a.sz l ≤ a.n
  | 0, _ => ⟨h.1, Nat.le_refl _⟩
  | l + 1, hl => by
    have := (h.step (l := l) hl).2.1
    have ih := h.sz_le (l := l) (by omega)
    refine ⟨by show 1 ≤ maxN _ + 1; omega, by omega⟩
theorem At.V.lt {a : At} (h : a.V) {l g : Nat} (hl : l < a.ss.length) (hg : g < a.sz l) : stepG (a.ss.getD l []) g < a.sz (l + 1) := by
  obtain ⟨s1, s2, s3, s4⟩ := h.step hl
  refine s3 _ ?_
  rw [stepG_get (by omega)]
  exact List.getElem_mem _
theorem up_same_ (a : At) (g l : Nat) : a.up g l l = g := by unfold At.up; rw [Nat.sub_self, List.take_zero]; rfl
theorem up_succ {a : At} {g lo hi : Nat} (h1 : lo ≤ hi) (h2 : hi < a.ss.length) : a.up g lo (hi + 1) = stepG (a.ss.getD hi []) (a.up g lo hi) := by
  unfold At.up
  have e : hi + 1 - lo = (hi - lo) + 1 := by omega
  have hk : hi - lo < (a.ss.drop lo).length := by rw [List.length_drop]; omega
  rw [e, List.take_succ_eq_append_getElem hk, List.foldl_append, List.foldl_cons, List.foldl_nil, List.getElem_drop]
  congr 1
  rw [List.getD_eq_getElem?_getD, List.getElem?_eq_getElem h2]
  simp only [Option.getD_some]
  congr 1
  omega
theorem At.V.up_lt {a : At} (h : a.V) {g lo : Nat} (hg : g < a.sz lo) : ∀ {hi : Nat}, lo ≤ hi → hi ≤ a.ss.length → a.up g lo hi < a.sz hi
  | hi, h1, h2 => by
    induction hi with
    | zero => obtain rfl : lo = 0 := by omega
              rw [up_same_]; exact hg
    | succ k ih =>
      by_cases e : lo = k + 1
      · subst e; rw [up_same_]; exact hg
      · rw [up_succ (by omega) (by omega)]
        exact h.lt (by omega) (ih (by omega) (by omega))
theorem up_trans {a : At} {g lo mid : Nat} (h1 : lo ≤ mid) : ∀ {hi : Nat}, mid ≤ hi → hi ≤ a.ss.length → a.up (a.up g lo mid) mid hi = a.up g lo hi
  | hi, h2, h3 => by
    induction hi with
    | zero => obtain rfl : mid = 0 := by omega
              rw [up_same_]
    | succ k ih =>
      by_cases e : mid = k + 1
      · subst e; rw [up_same_]
      · rw [up_succ (by omega) (by omega), up_succ (by omega) (by omega), ih (by omega) (by omega)]
theorem At.V.surj {a : At} (h : a.V) {l y : Nat} (hl : l < a.ss.length) (hy : y < a.sz (l + 1)) : ∃ x, x < a.sz l ∧ stepG (a.ss.getD l []) x = y := by
  obtain ⟨s1, s2, s3, s4⟩ := h.step hl
  obtain ⟨i, hi, e⟩ := List.mem_iff_getElem.mp (s4 y hy)
  exact ⟨i, by omega, by rw [stepG_get hi]; exact e⟩
theorem At.V.up_surj {a : At} (h : a.V) {lo : Nat} : ∀ {hi y : Nat}, lo ≤ hi → hi ≤ a.ss.length → y < a.sz hi → ∃ x, x < a.sz lo ∧ a.up x lo hi = y
  | hi, y, h1, h2, hy => by
    induction hi generalizing y with
    | zero => obtain rfl : lo = 0 := by omega
              exact ⟨y, hy, up_same_ _ _ _⟩
    | succ k ih =>
      by_cases e : lo = k + 1
      · subst e; exact ⟨y, hy, up_same_ _ _ _⟩
      · obtain ⟨z, hz, ez⟩ := h.surj (l := k) (by omega) hy
        obtain ⟨x, hx, ex⟩ := ih _ (by omega) (by omega) hz
        exact ⟨x, hx, by rw [up_succ (by omega) (by omega), ex, ez]⟩
/-! all tuples below -/
def cellsN (ns : List Nat) : List (List Nat) := ns.foldl (fun rows k => rows.flatMap fun row => (List.range k).map fun j => row ++ [j]) [[]]
theorem cellsN_snoc (ns : List Nat) (k : Nat) : cellsN (ns ++ [k]) = (cellsN ns).flatMap fun row => (List.range k).map fun j => row ++ [j] := by
  unfold cellsN; rw [List.foldl_append]; rfl
theorem sum_const {α : Type} (l : List α) (k : Nat) : (l.map fun _ => k).sum = l.length * k := by
  induction l with
  | nil => simp
  | cons a l ih => simp only [List.map_cons, List.sum_cons, ih, List.length_cons]; rw [Nat.add_mul]; omega
theorem cellsN_length_step (rows : List (List Nat)) (k : Nat) : (rows.flatMap fun row => (List.range k).map fun j => row ++ [j]).length = rows.length * k := by
  rw [List.length_flatMap]
  simp only [List.length_map, List.length_range]
  exact sum_const rows k
theorem cellsN_len (ns : List Nat) : (cellsN ns).length = prodN ns := by
  unfold cellsN prodN
  have key : ∀ (ns : List Nat) (rows : List (List Nat)), (ns.foldl (fun rows k => rows.flatMap fun row => (List.range k).map fun j => row ++ [j]) rows).length = ns.foldl (fun a n => a * n) rows.length := by
    intro ns
    induction ns with
    | nil => intro rows; rfl
    | cons k ns ih =>
      intro rows
      rw [List.foldl_cons, List.foldl_cons, ih, cellsN_length_step]
  exact key ns [[]]
/-- c is a cell below ns -/
def Below (c ns : List Nat) : Prop := c.length = ns.length ∧ ∀ (i : Nat) (x n : Nat), c[i]? = some x → ns[i]? = some n → x < n
theorem below_snoc {c ns : List Nat} {x n : Nat} : Below (c ++ [x]) (ns ++ [n]) ↔ Below c ns ∧ x < n := by
  constructor
  · rintro ⟨h1, h2⟩
    rw [List.length_append, List.length_append, List.length_singleton, List.length_singleton] at h1
    have h1 : c.length = ns.length := by omega
    refine ⟨⟨h1, fun i y k hy hk => h2 i y k ?_ ?_⟩, h2 c.length x n ?_ ?_⟩
    · rw [List.getElem?_append_left (List.getElem?_eq_some_iff.mp hy).1]; exact hy
    · rw [List.getElem?_append_left (List.getElem?_eq_some_iff.mp hk).1]; exact hk
    · rw [List.getElem?_append_right (Nat.le_refl _), Nat.sub_self]; rfl
    · rw [h1, List.getElem?_append_right (Nat.le_refl _), Nat.sub_self]; rfl
  · rintro ⟨⟨h1, h2⟩, hx⟩
    refine ⟨by rw [List.length_append, List.length_append, h1]; rfl, fun i y k hy hk => ?_⟩
    by_cases hi : i < c.length
    · rw [List.getElem?_append_left hi] at hy
      rw [List.getElem?_append_left (by omega)] at hk
      exact h2 i y k hy hk
    · rw [List.getElem?_append_right (by omega)] at hy hk
      have : i - c.length = 0 := by
        have := (List.getElem?_eq_some_iff.mp hy).1
        rw [List.length_singleton] at this; omega
      rw [this] at hy
      rw [show i - ns.length = 0 by omega] at hk
      cases hy; cases hk
      exact hx
theorem mem_cellsN (ns : List Nat) : ∀ c, c ∈ cellsN ns ↔ Below c ns := by
  have key : ∀ (n : Nat) (ns : List Nat), ns.length = n → ∀ c, c ∈ cellsN ns ↔ Below c ns := by
    intro n
    induction n with
    | zero =>
      intro ns hn c
      obtain rfl : ns = [] := List.eq_nil_of_length_eq_zero hn
      constructor
      · intro h
        obtain rfl : c = [] := by simpa [cellsN] using h
        exact ⟨rfl, by simp⟩
      · intro h
        obtain rfl : c = [] := List.eq_nil_of_length_eq_zero h.1
        simp [cellsN]
    | succ n ih =>
      intro ns hn c
      obtain ⟨ms, k, rfl⟩ : ∃ ms k, ns = ms ++ [k] := ⟨ns.dropLast, ns.getLast (by intro e; rw [e] at hn; simp at hn), (List.dropLast_concat_getLast _).symm⟩
      rw [List.length_append, List.length_singleton] at hn
      rw [cellsN_snoc, List.mem_flatMap]
      constructor
      · rintro ⟨row, hr, hc⟩
        obtain ⟨j, hj, rfl⟩ := List.mem_map.mp hc
        exact below_snoc.mpr ⟨(ih ms (by omega) row).mp hr, List.mem_range.mp hj⟩
      · intro h
        have hl : c.length = ms.length + 1 := by have := h.1; rw [List.length_append, List.length_singleton] at this; exact this
        obtain ⟨d, x, rfl⟩ : ∃ d x, c = d ++ [x] := ⟨c.dropLast, c.getLast (by intro e; rw [e] at hl; simp at hl), (List.dropLast_concat_getLast _).symm⟩
        obtain ⟨h1, h2⟩ := below_snoc.mp h
        exact ⟨d, (ih ms (by omega) d).mpr h1, List.mem_map.mpr ⟨x, List.mem_range.mpr h2, rfl⟩⟩
  exact key ns.length ns rfl
theorem nodup_flatMap_snoc {k : Nat} : ∀ {rows : List (List Nat)}, rows.Nodup → (rows.flatMap fun row => (List.range k).map fun j => row ++ [j]).Nodup
  | [], _ => by simp
  | row :: rows, h => by
    rw [List.nodup_cons] at h
    rw [List.flatMap_cons, List.nodup_append]
    refine ⟨?_, nodup_flatMap_snoc h.2, fun a ha b hb => ?_⟩
    · exact List.Pairwise.map _ (fun x y hxy e => hxy (by have := List.append_cancel_left e; simpa using this)) List.nodup_range
    · obtain ⟨j, _, rfl⟩ := List.mem_map.mp ha
      obtain ⟨r2, hr2, hb⟩ := List.mem_flatMap.mp hb
      obtain ⟨i, _, rfl⟩ := List.mem_map.mp hb
      intro e
      have := (List.append_inj' e rfl).1
      subst this
      exact h.1 hr2
theorem cellsN_nodup (ns : List Nat) : (cellsN ns).Nodup := by
  unfold cellsN
  have key : ∀ (ns : List Nat) (rows : List (List Nat)), rows.Nodup → (ns.foldl (fun rows k => rows.flatMap fun row => (List.range k).map fun j => row ++ [j]) rows).Nodup := by
    intro ns
    induction ns with
    | nil => intro rows h; exact h
    | cons k ns ih => intro rows h; exact ih _ (nodup_flatMap_snoc h)
  exact key ns [[]] (by simp)
/-! rollups, cells of schemes -/
def szs (s : Sch) (r : List Nat) : List Nat := List.zipWith At.sz s r
def cellsOf (s : Sch) (r : List Nat) : List (List Nat) := cellsN (szs s r)
def finN (s : Sch) : List Nat := List.replicate s.length 0
theorem Roll.at {s : Sch} {r : List Nat} (h : Roll s r) {i : Nat} {a : At} {l : Nat} (ha : s[i]? = some a) (hl : r[i]? = some l) : l ≤ a.ss.length := by
  simp only [Roll, tD, isRoll, Bool.and_eq_true, decide_eq_true_eq, List.length_map] at h
  have h2 := h.2
  rw [List.all_eq_true] at h2
  have hz : (List.zipWith (fun (a : At) l => betw l 0 a.ss.length) s (r.map nD))[i]? = some (betw (nD l) 0 a.ss.length) := by
    rw [List.getElem?_zipWith, ha, List.getElem?_map, hl]; rfl
  have := h2 _ (List.mem_of_getElem? hz)
  simp only [betw, nD, id, Bool.and_eq_true, decide_eq_true_eq] at this
  omega
theorem prodN_mono : ∀ {l l' : List Nat} (a a' : Nat), a ≤ a' → l.length = l'.length → (∀ (i : Nat) (x y : Nat), l[i]? = some x → l'[i]? = some y → x ≤ y) → l.foldl (fun a n => a * n) a ≤ l'.foldl (fun a n => a * n) a'
  | [], [], a, a', h, _, _ => h
  | [], _ :: _, _, _, _, e, _ => by simp at e
  | _ :: _, [], _, _, _, e, _ => by simp at e
  | x :: l, y :: l', a, a', h, e, hh => by
    rw [List.foldl_cons, List.foldl_cons]
    exact prodN_mono (a * x) (a' * y) (Nat.mul_le_mul h (hh 0 x y rfl rfl)) (by simpa using e) fun i u v hu hv => hh (i + 1) u v (by simpa using hu) (by simpa using hv)
theorem szs_len {s : Sch} {r : List Nat} (h : Roll s r) : (szs s r).length = s.length := by unfold szs; rw [List.length_zipWith, h.len]; omega
theorem szs_at {s : Sch} {r : List Nat} {i k : Nat} (h : (szs s r)[i]? = some k) : ∃ a l, s[i]? = some a ∧ r[i]? = some l ∧ k = a.sz l := by
  unfold szs at h
  rw [List.getElem?_zipWith] at h
  cases ha : s[i]? with
  | none => rw [ha] at h; simp at h
  | some a =>
    cases hl : r[i]? with
    | none => rw [ha, hl] at h; simp at h
    | some l => rw [ha, hl] at h; simp at h; exact ⟨a, l, rfl, rfl, h.symm⟩
theorem szs_prod {s : Sch} {r : List Nat} (hs : SchV s) (h : Roll s r) : prodN (szs s r) ≤ 60 := by
  refine Nat.le_trans (prodN_mono 1 1 (Nat.le_refl _) (by rw [szs_len h, List.length_map]) fun i x y hx hy => ?_) hs.2.2.2
  obtain ⟨a, l, ha, hl, rfl⟩ := szs_at hx
  rw [List.getElem?_map, ha] at hy
  cases hy
  exact ((hs.2.2.1 a (List.mem_of_getElem? ha)).sz_le (h.at ha hl)).2
theorem szs_le {s : Sch} {r : List Nat} (hs : SchV s) (h : Roll s r) : ∀ k ∈ szs s r, 1 ≤ k ∧ k ≤ 6 := by
  intro k hk
  obtain ⟨i, hi⟩ := List.mem_iff_getElem?.mp hk
  obtain ⟨a, l, ha, hl, rfl⟩ := szs_at hi
  have hv := hs.2.2.1 a (List.mem_of_getElem? ha)
  have := hv.sz_le (h.at ha hl)
  have := hv.2.1
  omega
theorem fin_roll (s : Sch) : Roll s (finN s) := by
  unfold finN
  simp only [Roll, tD, isRoll, Bool.and_eq_true, decide_eq_true_eq, List.length_map, List.length_replicate, true_and]
  rw [List.all_eq_true]
  intro b hb
  obtain ⟨i, hi, rfl⟩ := List.mem_iff_getElem.mp hb
  rw [List.getElem_zipWith, List.getElem_map, List.getElem_replicate]
  simp only [betw, nD, id, Bool.and_eq_true, decide_eq_true_eq]
  omega
theorem szs_fin (s : Sch) : szs s (finN s) = s.map At.n := by
  unfold szs finN
  induction s with
  | nil => rfl
  | cons a s ih => rw [List.length_cons, List.replicate_succ, List.zipWith_cons_cons, ih]; rfl
/-- the cell above -/
def abv (s : Sch) (r c o : List Nat) : List Nat := (s.zip (c.zip (r.zip o))).map fun p => p.1.up p.2.1 p.2.2.1 p.2.2.2
end Mn

set_option linter.all false
set_option maxHeartbeats 4000000
set_option autoImplicit false
set_option maxRecDepth 100000
namespace Mn
open PySem L2
variable [Tbs]
local macro_rules | `(tactic| walk_at "d") => `(tactic| (try simp only [xNext, xSeq, xAsg, xRet, xRetF, xDrop, xIf, xPar, xPar3, xFrz, xPut, xAug, xFor, dVar, dC, dOp, dTest, dChain, dAndV, dOrV, dNotV, dAnd, dOr, dNot, dIf, dNil, dCons, dTup, dLst, dLstM, dCB, dIsi, dLc, dLcM, dYes, wipeD, dSlice, oSome, oNone, aSl_tup, aSl_lst, dNeg, dStar, dNewD, dTupVals, dCountL, dExtend, dAppend, dFrz, dLc2, dCountT, dIndexT, sqf_tup, sqf_lst, sqf_pair, sSeq, sSeq_tup, sSeq_lst, sRg1, sRg2, sZip2, sZip3, sZip4, sEnum, gV, gN, gC, gT, tupOf_tup, tupOf_pair, aAdd_int, aAdd_tup, aAdd_lst, aSub_int, aMul_int, aDiv_int, aMod_int, aPow_int, aCmp_int, aIx_tup, aIx_lst, aIx_scr, aIx_pair, aMax_int, aMin_int, aInt_bl, aInt_int, aLen_tup, aLen_lst, aLen_scr, aLen_pair, aTuple_lst, aTuple_tup, aEq_int, aNe_int, startD, List.map_cons, List.map_nil, List.length_cons, List.length_nil, List.cons_append, List.nil_append, List.replicate_zero, List.replicate_succ, List.append_nil, List.getElem?_cons_zero, List.getElem?_cons_succ, List.set_cons_zero, List.set_cons_succ, Option.some.injEq, exists_eq_left', exists_eq_left, exists_eq', D.int.injEq, D.bl.injEq, D.tup.injEq, D.lst.injEq, D.pair.injEq, D.ref.injEq, List.cons.injEq, Nat.sub_self, Nat.zero_add, Nat.add_sub_cancel, seqI_tup, seqI_lst, seqOf_tup, seqOf_lst, tyN_tup, tyN_lst, tyN_int, tyN_bl, tyN_str, tyN_non, isi_tt, at_0, at_1, at_2, at_3, Option.map_some, true_and, and_true, if_true, Bool.false_eq_true, if_false, Bool.not_true, Bool.not_false, ↓reduceIte, Nat.reduceAdd, Nat.reduceSub, exists_and_left, and_assoc]))
theorem at_nat (ds : List D) (k : Nat) : at_ ds (k : Int) = ds[k]? := by
  unfold at_; rw [if_pos (by omega), Int.toNat_natCast]
theorem maxI_nat : ∀ (l : List Nat), l ≠ [] → maxI (l.map fun k : Nat => (k : Int)) = maxN l
  | [], h => absurd rfl h
  | n :: r, _ => by
    unfold maxN
    simp only [List.map_cons, maxI, List.foldl_cons]
    have key : ∀ (r : List Nat) (a : Nat), (r.map fun k : Nat => (k : Int)).foldl max (a : Int) = ((r.foldl max a : Nat) : Int) := by
      intro r
      induction r with
      | nil => intro a; rfl
      | cons x r ih =>
        intro a
        rw [List.map_cons, List.foldl_cons, List.foldl_cons, show max (a : Int) (x : Int) = ((max a x : Nat) : Int) by omega, ih]
    rw [key, Nat.zero_max]
/-- max of a tuple of numbers -/
theorem aMax_tD {l : List Nat} {m : Mu} {Q : DK} (h : l ≠ []) (q : Q (nD (maxN l)) m) : aMax [tD l] m Q := by
  cases l with
  | nil => exact absurd rfl h
  | cons n r =>
    unfold tD
    simp only [aMax]
    refine ⟨(n : Int), r.map fun k : Nat => (k : Int), ?_, ?_⟩
    · first | rfl | (simp only [List.map_cons, List.map_map, nD]; rfl)
    · have e := maxI_nat (n :: r) (by simp)
      simp only [List.map_cons, maxI] at e
      rw [e]
      exact q
/-! groups -/
def s_groups_at : DSp := fun ds m Q => ∃ (a : At) (l : Nat), ds = [a.enc, nD l] ∧ a.V ∧ l ≤ a.ss.length ∧ Q (nD (a.sz l)) m
theorem l_groups_at : ∀ ds m Q, s_groups_at ds m Q → ds.length = 2 := by rintro ds m Q ⟨a, l, rfl, _⟩; rfl
def t_groups_at : DS := (xRet (dIf (dTest (dOp aEq (dVar 1) (dC (.int 0)))) (dOp aIx (dVar 0) (dC (.int 0))) (dOp aAdd (dCB aMax (dCons (dOp aIx (dOp aIx (dVar 0) (dC (.int 1))) (dOp aSub (dVar 1) (dC (.int 1)))) dNil)) (dC (.int 1)))))
theorem v_groups_at : Body 2 t_groups_at s_groups_at := by
  rintro ds m Q ⟨a, l, rfl, ha, hl, q⟩
  have hq := end_rt (m0 := m) q
  unfold t_groups_at At.enc nD
  walk_at "d"
  cases l with
  | zero => exact hq
  | succ k =>
    have hk : ¬ (((k + 1 : Nat) : Int) = 0) := by omega
    have hst := ha.step (l := k) hl
    simp only [hk, decide_false, Bool.false_eq_true, ↓reduceIte]
    rw [show (((k + 1 : Nat) : Int) - 1) = (k : Int) by omega]
    walk_at "d"
    refine ⟨tD (a.ss.getD k []), ?_, ?_⟩
    · rw [at_nat, List.getElem?_map, List.getElem?_eq_getElem (by omega), List.getD_eq_getElem?_getD, List.getElem?_eq_getElem (by omega)]; rfl
    · refine aMax_tD ?_ ?_
      · intro e
        have := hst.1
        rw [e, List.length_nil] at this
        have := (ha.sz_le (l := k) (by omega)).1
        omega
      · unfold nD
        walk_at "d"
        exact hq
theorem cutD_nat (ds : List D) (lo hi : Nat) (h : hi ≤ ds.length) : cutD ds (some (lo : Int)) (some (hi : Int)) = (ds.drop lo).take (hi - lo) := by
  unfold cutD
  rw [HT.sIx_nat, HT.sIx_nat, Nat.min_eq_left h]
  by_cases hl : lo ≤ ds.length
  · rw [Nat.min_eq_left hl]
  · rw [Nat.min_eq_right (by omega), List.drop_length, List.drop_eq_nil_of_le (by omega), List.take_nil, List.take_nil]
def s_group_above : DSp := fun ds m Q => ∃ (a : At) (g lo hi : Nat), ds = [a.enc, nD g, nD lo, nD hi] ∧ a.V ∧ lo ≤ hi ∧ hi ≤ a.ss.length ∧ g < a.sz lo ∧ Q (nD (a.up g lo hi)) m
theorem l_group_above : ∀ ds m Q, s_group_above ds m Q → ds.length = 4 := by rintro ds m Q ⟨a, g, lo, hi, rfl, _⟩; rfl
def t_group_above : DS := (xSeq (xFor (sSeq (dSlice (dOp aIx (dVar 0) (dC (.int 1))) (oSome (dVar 2)) (oSome (dVar 3)))) (gV 4) (xAsg (dOp aIx (dVar 4) (dVar 1)) (gV 1)))
  (xRet (dVar 1)))
theorem v_group_above : Body 5 t_group_above s_group_above := by
  rintro ds m Q ⟨a, g, lo, hi, rfl, ha, h1, h2, hg, q⟩
  have hq := end_rt (m0 := m) q
  unfold t_group_above At.enc nD
  walk_at "d"
  rw [cutD_nat _ _ _ (by rw [List.length_map]; exact h2), ← List.map_drop, ← List.map_take]
  refine ⟨_, .inr rfl, ?_⟩
  refine forGo_take (enc := tD) (fun pre r m' => m' = m ∧ ∃ x4, r = [some (.tup [.int (a.n : Int), .tup (a.ss.map tD)]), some (nD (pre.foldl (fun g st => stepG st g) g)), some (.int (lo : Int)), some (.int (hi : Int)), x4]) ((a.ss.drop lo).take (hi - lo)) [] _ _ _ rfl ⟨rfl, none, rfl⟩ ?_ ?_
  · rintro pre st post r m' P e ⟨rfl, x4, rfl⟩ hP
    walk_at "d"
    have hpl : pre.length < hi - lo := by
      have := congrArg List.length e
      rw [List.length_append, List.length_cons, List.length_take, List.length_drop] at this
      omega
    have hpre : pre = (a.ss.drop lo).take (lo + pre.length - lo) := by
      have e1 : pre = ((a.ss.drop lo).take (hi - lo)).take pre.length := by rw [e, List.take_left']; rfl
      rw [List.take_take, Nat.min_eq_left (by omega)] at e1
      rw [show lo + pre.length - lo = pre.length by omega]
      exact e1
    have hst : st = a.ss.getD (lo + pre.length) [] := by
      have e1 : ((a.ss.drop lo).take (hi - lo))[pre.length]? = some st := by rw [e, List.getElem?_append_right (Nat.le_refl _), Nat.sub_self]; rfl
      rw [List.getElem?_take_of_lt (by omega), List.getElem?_drop] at e1
      rw [List.getD_eq_getElem?_getD, e1]; rfl
    have hlt : a.up g lo (lo + pre.length) < a.sz (lo + pre.length) := ha.up_lt hg (by omega) (by omega)
    have hs := ha.step (l := lo + pre.length) (by omega)
    have eup : pre.foldl (fun g st => stepG st g) g = a.up g lo (lo + pre.length) := by
      unfold At.up; rw [← hpre]
    rw [eup]
    unfold tD nD
    walk_at "d"
    refine ⟨nD (stepG st (a.up g lo (lo + pre.length))), ?_, hP _ _ ⟨rfl, some (tD st), ?_⟩⟩
    · rw [at_nat, List.getElem?_map, List.getElem?_eq_getElem (by rw [hst]; have := hs.1; omega), stepG_get (by rw [hst]; have := hs.1; omega)]; rfl
    · rw [List.foldl_append, List.foldl_cons, List.foldl_nil, eup]; rfl
  · rintro r m' ⟨rfl, x4, rfl⟩
    walk_at "d"
    exact hq
theorem filt_true {α : Type} (l : List α) : l.filter (fun _ => true) = l := List.filter_eq_self.mpr fun _ _ => rfl
/-! tuples below -/
def s_tuples_below : DSp := fun ds m Q => ∃ ns : List Nat, ds = [.lst (ns.map nD)] ∧ ns.length ≤ 3 ∧ (∀ k ∈ ns, k ≤ 6) ∧ Q (.lst ((cellsN ns).map tD)) m
theorem l_tuples_below : ∀ ds m Q, s_tuples_below ds m Q → ds.length = 1 := by rintro ds m Q ⟨ns, rfl, _⟩; rfl
def t_tuples_below : DS := (xSeq (xAsg (dLst (dCons (dTup dNil) dNil)) (gV 1))
  (xSeq (xFor (sSeq (dVar 0)) (gV 2) (xAsg (dLc2 (sSeq (dVar 1)) [3, 4] (gV 3) dYes (sRg1 (dVar 2)) [4] (gV 4) dYes (dTup (dStar (dVar 3) (dCons (dVar 4) dNil)))) (gV 1)))
  (xRet (dVar 1))))
theorem prodN_le : ∀ (ns : List Nat), ns.length ≤ 3 → (∀ k ∈ ns, k ≤ 6) → prodN ns ≤ 216
  | [], _, _ => by decide
  | [a], _, h => by have := h a (by simp); unfold prodN; simp only [List.foldl_cons, List.foldl_nil, Nat.one_mul]; omega
  | [a, b], _, h => by
    have h1 := h a (by simp); have h2 := h b (by simp)
    have := Nat.mul_le_mul h1 h2
    unfold prodN; simp only [List.foldl_cons, List.foldl_nil, Nat.one_mul]; omega
  | [a, b, c], _, h => by
    have h1 := h a (by simp); have h2 := h b (by simp); have h3 := h c (by simp)
    have := Nat.mul_le_mul (Nat.mul_le_mul h1 h2) h3
    unfold prodN; simp only [List.foldl_cons, List.foldl_nil, Nat.one_mul]; omega
  | _ :: _ :: _ :: _ :: _, h, _ => by simp at h
theorem cells_item {c : List Nat} {ns : List Nat} (h : c ∈ cellsN ns) : c.length = ns.length := ((mem_cellsN ns c).mp h).1
theorem v_tuples_below : Body 5 t_tuples_below s_tuples_below := by
  rintro ds m Q ⟨ns, rfl, hl, hk, q⟩
  have hq := end_rt (m0 := m) q
  unfold t_tuples_below
  walk_at "d"
  refine ⟨by decide, by decide, _, .inl rfl, ?_⟩
  refine forGo_take (enc := nD) (fun pre r m' => m' = m ∧ ∃ x2 x3 x4, r = [some (.lst (ns.map nD)), some (.lst ((cellsN pre).map tD)), x2, x3, x4]) ns [] _ _ _ rfl ⟨rfl, none, none, none, rfl⟩ ?_ ?_
  · rintro pre k post r m' P e ⟨rfl, x2, x3, x4, rfl⟩ hP
    unfold nD
    walk_at "d"
    have hk6 : k ≤ 6 := hk k (by rw [e]; simp)
    have hp3 : pre.length < 3 := by have := congrArg List.length e; rw [List.length_append, List.length_cons] at this; omega
    have hpp : prodN pre ≤ 216 := prodN_le pre (by omega) fun x hx => hk x (by rw [e]; simp [hx])
    refine ⟨_, .inl rfl, ?_⟩
    refine lcGo2_maps (enc := tD) (enc1 := fun i : Nat => D.int i) (fun _ => List.range k) (fun row j => tD (row ++ [j])) (fun _ _ => true) (cellsN pre) [] _ ?_ ?_ ?_
    · rw [List.length_nil, Nat.zero_add, List.length_flatMap]
      simp only [filt_true, List.length_range]
      rw [sum_const, cellsN_len, sizeLine_eq]
      have := Nat.mul_le_mul hpp hk6
      omega
    · intro row hrow R hR
      walk_at "d"
      have hrl := cells_item hrow
      refine hR _ (fun P2 h2 => ?_) fun j hj A B hAB => ?_
      · walk_at "d"
        refine ⟨by omega, by omega, ?_⟩
        rw [rgD_map]
        exact h2
      · rw [if_pos rfl] at hAB
        walk_at "d"
        refine ⟨row.map nD, by unfold tD; rfl, ?_⟩
        rw [List.length_append, List.length_map]
        refine ⟨small (k := 1000) (by rw [List.length_singleton]; omega), ?_⟩
        unfold tD at hAB
        rw [List.map_append] at hAB
        exact hAB
    · rw [List.nil_append]
      simp only [filt_true]
      have ec : ((cellsN pre).flatMap fun x => (List.range k).map fun j => tD (x ++ [j])) = (cellsN (pre ++ [k])).map tD := by
        rw [cellsN_snoc, List.map_flatMap]
        simp only [List.map_map]
        rfl
      rw [ec]
      exact hP _ _ ⟨rfl, _, _, _, rfl⟩
  · rintro r m' ⟨rfl, x2, x3, x4, rfl⟩
    walk_at "d"
    exact hq
end Mn

set_option linter.all false
set_option maxHeartbeats 4000000
set_option autoImplicit false
set_option maxRecDepth 100000
namespace Mn
open PySem L2
variable [Tbs]
local macro_rules | `(tactic| walk_at "d") => `(tactic| (try simp only [xNext, xSeq, xAsg, xRet, xRetF, xDrop, xIf, xPar, xPut, xAug, xFor, dVar, dC, dOp, dTest, dChain, dAndV, dOrV, dNotV, dAnd, dOr, dNot, dIf, dNil, dCons, dTup, dLst, dLstM, dCB, dIsi, dLc, dLcM, dYes, wipeD, sSeq, sSeq_tup, sSeq_lst, sRg1, sRg2, sZip2, sZip3, sEnum, gV, gN, gC, gT, tupOf_tup, tupOf_pair, aAdd_int, aAdd_tup, aAdd_lst, aSub_int, aMul_int, aDiv_int, aMod_int, aPow_int, aCmp_int, aIx_tup, aIx_lst, aIx_scr, aIx_pair, aMax_int, aMin_int, aInt_bl, aInt_int, aLen_tup, aLen_lst, aLen_scr, aLen_pair, aTuple_lst, aTuple_tup, aEq_int, aNe_int, startD, List.map_cons, List.map_nil, List.length_cons, List.length_nil, List.cons_append, List.nil_append, List.replicate_zero, List.replicate_succ, List.append_nil, List.getElem?_cons_zero, List.getElem?_cons_succ, List.set_cons_zero, List.set_cons_succ, Option.some.injEq, exists_eq_left', exists_eq_left, exists_eq', D.int.injEq, D.bl.injEq, D.tup.injEq, D.lst.injEq, D.pair.injEq, D.ref.injEq, List.cons.injEq, Nat.sub_self, Nat.zero_add, Nat.add_sub_cancel, seqI_tup, seqI_lst, seqOf_tup, seqOf_lst, tyN_tup, tyN_lst, tyN_int, tyN_bl, tyN_str, tyN_non, isi_tt, at_0, at_1, at_2, at_3, Option.map_some, true_and, and_true, if_true, Bool.false_eq_true, if_false, Bool.not_true, Bool.not_false, ↓reduceIte, Nat.reduceAdd, Nat.reduceSub, exists_and_left, and_assoc]))
/-! a supply of numbers: a mutable list of three -/
def PenU (m : Mu) (p : Addr) (n : Nat) (m' : Mu) : Prop := ∃ a b c : Int, m' = up m p (.lst [.int a, .int b, .int c]) ∧ 0 ≤ a ∧ 0 ≤ b ∧ b < 2147483648 ∧ 0 ≤ c ∧ c ≤ n
def Pen (m : Mu) (p : Addr) (n : Nat) : Prop := ∃ a b c : Int, m p = some (.lst [.int a, .int b, .int c]) ∧ 0 ≤ a ∧ 0 ≤ b ∧ b < 2147483648 ∧ 0 ≤ c ∧ c ≤ n
theorem PenU.pen {m m' : Mu} {p : Addr} {n : Nat} (h : PenU m p n m') : Pen m' p n := by
  obtain ⟨a, b, c, rfl, h⟩ := h
  exact ⟨a, b, c, up_same, h⟩
theorem PenU.trans {m m1 m2 : Mu} {p : Addr} {n k : Nat} (h : PenU m p n m1) (h2 : PenU m1 p k m2) : PenU m p k m2 := by
  obtain ⟨a, b, c, rfl, _⟩ := h
  obtain ⟨a', b', c', rfl, h⟩ := h2
  exact ⟨a', b', c', up_up, h⟩
theorem up_self {m : Mu} {p : Addr} {o : MO} (h : m p = some o) : up m p o = m := by
  funext b; unfold up
  by_cases e : b = p
  · rw [if_pos e, e, h]
  · rw [if_neg e]
theorem Pen.u {m : Mu} {p : Addr} {n : Nat} (h : Pen m p n) : PenU m p n m := by
  obtain ⟨a, b, c, e, h⟩ := h
  exact ⟨a, b, c, (up_self e).symm, h⟩
theorem PenU.mono {m m' : Mu} {p : Addr} {n k : Nat} (h : PenU m p n m') (hk : n ≤ k) : PenU m p k m' := by
  obtain ⟨a, b, c, e, h1, h2, h3, h4, h5⟩ := h
  exact ⟨a, b, c, e, h1, h2, h3, h4, by omega⟩
theorem PenU.other {m m' : Mu} {p q : Addr} {n : Nat} (h : PenU m p n m') (hq : q ≠ p) : m' q = m q := by
  obtain ⟨a, b, c, rfl, _⟩ := h
  exact up_ne hq
def s_law_draw : DSp := fun ds m Q => ∃ (p : Addr) (k n : Nat), ds = [.ref p, nD k] ∧ Pen m p n ∧ n ≤ 1000000000 ∧ 1 ≤ k ∧ k ≤ 100000000 ∧ ∀ r m', r < k → PenU m p (n + 1) m' → Q (nD r) m'
theorem l_law_draw : ∀ ds m Q, s_law_draw ds m Q → ds.length = 2 := by rintro ds m Q ⟨s, d, n, rfl, _⟩; rfl
def t_law_draw : DS := (xSeq (xIf (dTest (dOp aGt (dOp aIx (dVar 0) (dC (.int 0))) (dC (.int 0)))) (xSeq (xAsg (dOp aMod (dOp aIx (dVar 0) (dC (.int 0))) (dVar 1)) (gV 3))
  (xSeq (xPut (dOp aDiv (dOp aIx (dVar 0) (dC (.int 0))) (dVar 1)) (dVar 0) (dC (.int 0)))
  (xRet (dVar 3)))) xNext)
  (xSeq (xPut (dOp aAdd (dOp aIx (dVar 0) (dC (.int 2))) (dC (.int 1))) (dVar 0) (dC (.int 2)))
  (xSeq (xAsg (dOp aMod (dOp aMulA (dOp aAdd (dOp aIx (dVar 0) (dC (.int 1))) (dOp aMulA (dC (.int 17)) (dOp aIx (dVar 0) (dC (.int 2))))) (dOp aAdd (dC (.int 69621)) (dOp aMulA (dC (.int 2)) (dOp aIx (dVar 0) (dC (.int 2)))))) (dC (.int 2147483647))) (gV 2))
  (xSeq (xAsg (dOp aMod (dOp aAdd (dOp aAdd (dOp aMulA (dVar 2) (dVar 2)) (dOp aMulA (dC (.int 40503)) (dOp aIx (dVar 0) (dC (.int 2))))) (dC (.int 5))) (dC (.int 2147483629))) (gV 2))
  (xRet (dOp aMod (dOp aDiv (dOp aMod (dOp aMulA (dVar 2) (dC (.int 48271))) (dC (.int 2147483647))) (dC (.int 32))) (dVar 1)))))))
theorem v_law_draw : Body 4 t_law_draw s_law_draw := by
  rintro ds m Q ⟨p, k, n, rfl, ⟨a, b, c, hp, ha, hb, hb2, hc, hcn⟩, hn, hk1, hk2, q⟩
  have hkk : (0 : Int) < k := by omega
  have hkl : (k : Int) < 1073741824 := by omega
  unfold t_law_draw nD
  walk_at "d"
  simp only [aIx_ref hp]
  walk_at "d"
  by_cases h0 : 0 < a
  · simp only [h0, decide_true, ↓reduceIte]
    iterate 2 (simp only [aIx_ref hp]; walk_at "d")
    refine ⟨hkk, ⟨hkk, hkl⟩, _, hp, 0, rfl, ?_⟩
    walk_at "d"
    have r1 := Int.emod_nonneg a (show (k : Int) ≠ 0 by omega)
    have r2 := Int.emod_lt_of_pos a hkk
    have z := q (a % k).toNat (up m p (.lst [.int (a / k), .int b, .int c])) (by omega) ⟨a / k, b, c, rfl, Int.ediv_nonneg ha (by omega), hb, hb2, hc, by omega⟩
    unfold nD at z
    rw [Int.toNat_of_nonneg r1] at z
    exact ⟨_, fun _ _ e => e, z⟩
  · simp only [h0, decide_false, Bool.false_eq_true, ↓reduceIte]
    simp only [aIx_ref hp]
    walk_at "d"
    refine ⟨_, hp, 2, rfl, ?_⟩
    walk_at "d"
    have hp2 : up m p (.lst [.int a, .int b, .int (c + 1)]) p = some (.lst [.int a, .int b, .int (c + 1)]) := up_same
    iterate 5 (try simp only [aIx_ref hp2]; walk_at "d")
    have hm : ∀ x : Int, 0 ≤ x % 2147483647 ∧ x % 2147483647 < 2147483647 := fun x => ⟨Int.emod_nonneg _ (by decide), Int.emod_lt_of_pos _ (by decide)⟩
    have hm2 : ∀ x : Int, 0 ≤ x % 2147483629 ∧ x % 2147483629 < 2147483629 := fun x => ⟨Int.emod_nonneg _ (by decide), Int.emod_lt_of_pos _ (by decide)⟩
    refine ⟨.inl ⟨by decide, by decide⟩, .inl ⟨by decide, by decide⟩, .inr ⟨by omega, by omega⟩, by decide, .inl ⟨by have := hm ((b + 17 * (c + 1)) * (69621 + 2 * (c + 1))); omega, by have := hm ((b + 17 * (c + 1)) * (69621 + 2 * (c + 1))); omega⟩, .inl ⟨by decide, by decide⟩, by decide, .inr ⟨by decide, by decide⟩, by decide, ⟨by decide, by decide⟩, hkk, ?_⟩
    generalize ((((b + 17 * (c + 1)) * (69621 + 2 * (c + 1)) % 2147483647) * ((b + 17 * (c + 1)) * (69621 + 2 * (c + 1)) % 2147483647) + 40503 * (c + 1) + 5) % 2147483629 * 48271 % 2147483647 / 32) = y
    have r1 := Int.emod_nonneg y (show (k : Int) ≠ 0 by omega)
    have r2 := Int.emod_lt_of_pos y hkk
    have z := q (y % k).toNat _ (by omega) ⟨a, b, c + 1, rfl, ha, hb, hb2, by omega, by omega⟩
    unfold nD at z
    rw [Int.toNat_of_nonneg r1] at z
    exact ⟨_, fun _ _ e => e, z⟩
end Mn

set_option linter.all false
set_option maxHeartbeats 4000000
set_option autoImplicit false
set_option maxRecDepth 100000
namespace Mn
open PySem L2
variable [Tbs]
local macro_rules | `(tactic| walk_at "d") => `(tactic| (try simp only [xNext, xSeq, xAsg, xRet, xRetF, xDrop, xIf, xPar, xPut, xAug, xFor, dVar, dC, dOp, dTest, dChain, dAndV, dOrV, dNotV, dAnd, dOr, dNot, dIf, dNil, dCons, dTup, dLst, dLstM, dCB, dIsi, dLc, dLcM, dYes, wipeD, sSeq, sSeq_tup, sSeq_lst, sRg1, sRg2, sZip2, sZip3, sEnum, gV, gN, gC, gT, tupOf_tup, tupOf_pair, aAdd_int, aAdd_tup, aAdd_lst, aSub_int, aMul_int, aDiv_int, aMod_int, aPow_int, aCmp_int, aIx_tup, aIx_lst, aIx_scr, aIx_pair, aMax_int, aMin_int, aInt_bl, aInt_int, aLen_tup, aLen_lst, aLen_scr, aLen_pair, aTuple_lst, aTuple_tup, aEq_int, aNe_int, startD, List.map_cons, List.map_nil, List.length_cons, List.length_nil, List.cons_append, List.nil_append, List.replicate_zero, List.replicate_succ, List.append_nil, List.getElem?_cons_zero, List.getElem?_cons_succ, List.set_cons_zero, List.set_cons_succ, Option.some.injEq, exists_eq_left', exists_eq_left, exists_eq', D.int.injEq, D.bl.injEq, D.tup.injEq, D.lst.injEq, D.pair.injEq, D.ref.injEq, List.cons.injEq, Nat.sub_self, Nat.zero_add, Nat.add_sub_cancel, seqI_tup, seqI_lst, seqOf_tup, seqOf_lst, tyN_tup, tyN_lst, tyN_int, tyN_bl, tyN_str, tyN_non, isi_tt, at_0, at_1, at_2, at_3, Option.map_some, true_and, and_true, if_true, Bool.false_eq_true, if_false, Bool.not_true, Bool.not_false, ↓reduceIte, Nat.reduceAdd, Nat.reduceSub, exists_and_left, and_assoc]))
def s_law_cell_at : DSp := fun ds m Q => ∃ (ns : List Int) (k : Int), ds = [.scr (ns.map D.int), .int k] ∧ 0 ≤ k ∧ ∀ z, Q (.int z) m
theorem l_law_cell_at : ∀ ds m Q, s_law_cell_at ds m Q → ds.length = 2 := by rintro ds m Q ⟨s, d, rfl, _⟩; rfl
def t_law_cell_at : DS := (xSeq (xIf (dTest (dOp aLt (dVar 1) (dCB aLen (dCons (dVar 0) dNil)))) (xRet (dOp aIx (dVar 0) (dVar 1))) xNext)
  (xRet (dC (.int 0))))
theorem v_law_cell_at : Body 2 t_law_cell_at s_law_cell_at := by
  rintro ds m Q ⟨ns, k, rfl, hk, q⟩
  unfold t_law_cell_at
  walk_at "d"
  simp only [aLen_scr, List.length_map]
  walk_at "d"
  by_cases h : k < (ns.length : Int)
  · simp only [h, decide_true, ↓reduceIte]
    refine ⟨.int (ns[k.toNat]'(by omega)), ?_, end_rt (q _)⟩
    unfold at_
    rw [if_pos hk, List.getElem?_map, List.getElem?_eq_getElem (by omega)]
    rfl
  · simp only [h, decide_false, Bool.false_eq_true, ↓reduceIte]
    exact end_rt (q 0)
def s_law_pen : DSp := fun ds m Q => ∃ z : Int, ds = [.int z] ∧ ∀ p m', m p = none → PenU m p 0 m' → Q (.ref p) m'
theorem l_law_pen : ∀ ds m Q, s_law_pen ds m Q → ds.length = 1 := by rintro ds m Q ⟨s, rfl, _⟩; rfl
def t_law_pen : DS := (xRet (dLstM (dCons (dCB aMax (dCons (dC (.int 0)) (dCons (dOp aSub (dVar 0) (dOp aPow (dC (.int 10)) (dC (.int 18)))) dNil))) (dCons (dOp aMod (dVar 0) (dC (.int 1000000007))) (dCons (dC (.int 0)) dNil)))))
theorem v_law_pen : Body 1 t_law_pen s_law_pen := by
  rintro ds m Q ⟨z, rfl, q⟩
  unfold t_law_pen
  walk_at "d"
  refine ⟨⟨by decide, by decide, by decide⟩, by decide, by decide, fun p hp => ?_⟩
  exact end_rtL (m2 := up m p _) (fun _ _ e => e) (q p _ hp ⟨_, _, _, rfl, by omega, Int.emod_nonneg _ (by decide), by have := Int.emod_lt_of_pos z (show (0 : Int) < 1000000007 by decide); omega, by decide, by decide⟩)
/-- a sequence, apart from the pen -/
def Line (p : Addr) (d : D) (es : List D) (m : Mu) : Prop := d = .lst es ∨ d = .tup es ∨ ∃ a, a ≠ p ∧ d = .ref a ∧ m a = some (.lst es)
def s_law_pick : DSp := fun ds m Q => ∃ (p : Addr) (d : D) (es : List D) (n : Nat), ds = [.ref p, d] ∧ Line p d es m ∧ Pen m p n ∧ n ≤ 1000000000 ∧ 1 ≤ es.length ∧ es.length ≤ 1000 ∧ ∀ d m', d ∈ es → PenU m p (n + 1) m' → Q d m'
theorem l_law_pick : ∀ ds m Q, s_law_pick ds m Q → ds.length = 2 := by rintro ds m Q ⟨s, d, es, n, rfl, _⟩; rfl
def t_law_pick : DS := (xRet (dOp aIx (dVar 1) (dCB s_law_draw (dCons (dVar 0) (dCons (dCB aLen (dCons (dVar 1) dNil)) dNil)))))
theorem v_law_pick : Body 2 t_law_pick s_law_pick := by
  rintro ds m Q ⟨p, d, es, n, rfl, hL, hp, hn, h1, h2, q⟩
  unfold t_law_pick
  rcases hL with rfl | rfl | ⟨a, ha, rfl, hm⟩
  · walk_at "d"
    refine ⟨p, es.length, n, rfl, hp, hn, h1, by omega, fun r m' hr hu => ?_⟩
    unfold nD
    simp only [aIx_lst, at_n]
    exact ⟨es[r], List.getElem?_eq_getElem hr, _, fun _ _ e => e, q _ _ (List.getElem_mem hr) hu⟩
  · walk_at "d"
    refine ⟨p, es.length, n, rfl, hp, hn, h1, by omega, fun r m' hr hu => ?_⟩
    unfold nD
    simp only [aIx_tup, at_n]
    exact ⟨es[r], List.getElem?_eq_getElem hr, _, fun _ _ e => e, q _ _ (List.getElem_mem hr) hu⟩
  · walk_at "d"
    simp only [aLen_ref hm]
    refine ⟨p, es.length, n, rfl, hp, hn, h1, by omega, fun r m' hr hu => ?_⟩
    have hm' : m' a = some (.lst es) := by rw [hu.other ha]; exact hm
    unfold nD
    simp only [aIx_ref hm', at_n]
    exact ⟨es[r], List.getElem?_eq_getElem hr, _, fun _ _ e => e, q _ _ (List.getElem_mem hr) hu⟩
/-! mixing -/
def MixI (m0 : Mu) (p q1 q2 : Addr) (es : List D) (n0 : Nat) : Nat → Ro → Mu → Prop := fun n r m => ∃ left found : List D,
  r = [some (.ref p), some (.lst es), some (.ref q1), some (.ref q2)] ∧ left.length = n ∧ (found ++ left).Perm es ∧ Pen m p (n0 + found.length) ∧ m q1 = some (.lst left) ∧ m q2 = some (.lst found) ∧
  (∀ a, a ≠ p → a ≠ q1 → a ≠ q2 → m a = m0 a)
def s_law_mixed : DSp := fun ds m Q => ∃ (p : Addr) (es : List D) (n : Nat), ds = [.ref p, .lst es] ∧ Pen m p n ∧ n + es.length ≤ 1000000000 ∧ es.length ≤ 1000 ∧ (∀ d ∈ es, Sm d 20 1000) ∧
  ∀ es' m', es'.Perm es → PenU m p (n + es.length) m' → Q (.lst es') m'
theorem l_law_mixed : ∀ ds m Q, s_law_mixed ds m Q → ds.length = 2 := by rintro ds m Q ⟨s, d, n, rfl, _⟩; rfl
def t_law_mixed : DS := (xSeq (xPar 2 3 (dCons (dCB aListM (dCons (dVar 1) dNil)) (dCons (dLstM dNil) dNil)))
  (xSeq (xWhile (dTest (dOp aNe (dVar 2) (dLst dNil))) (xDrop (dAppend (dVar 3) (dPopAt (dVar 2) (dCB s_law_draw (dCons (dVar 0) (dCons (dCB aLen (dCons (dVar 2) dNil)) dNil)))))))
  (xRetF 3)))
theorem perm_out {α : Type} : ∀ {l : List α} {j : Nat} (hj : j < l.length), ([l[j]] ++ l.eraseIdx j).Perm l
  | a :: r, 0, _ => List.Perm.refl _
  | a :: r, j + 1, hj => by
    have := perm_out (l := r) (j := j) (by simpa using hj)
    simp only [List.eraseIdx_cons_succ, List.getElem_cons_succ, List.singleton_append] at this ⊢
    exact (List.Perm.swap _ _ _).trans (List.Perm.cons _ this)
theorem perm_take {left found es : List D} {j : Nat} (h : (found ++ left).Perm es) (hj : j < left.length) : ((found ++ [left[j]]) ++ left.eraseIdx j).Perm es := by
  refine List.Perm.trans ?_ h
  rw [List.append_assoc]
  refine List.Perm.append_left found ?_
  exact perm_out hj
theorem eqv_nil (left : List D) (m : Mu) : PyData.eqv (PyData.list (pyL left)) (pyM (.lst []) m) = decide (left = []) := by
  cases left with
  | nil => rfl
  | cons d r => rfl
theorem v_law_mixed : Body 4 t_law_mixed s_law_mixed := by
  rintro ds m Q ⟨p, es, n, rfl, hp, hn, hl, hs, q⟩
  unfold t_law_mixed
  walk_at "d"
  simp only [aListM, List.cons.injEq, and_true, exists_eq_left', seqOf_lst, Option.some.injEq, exists_and_left]
  intro q1 h1
  refine ⟨by decide, fun q2 h2 => ?_⟩
  have hpe : ∃ o, m p = some o := by obtain ⟨a, b, c, e, _⟩ := hp; exact ⟨_, e⟩
  have n1 : q1 ≠ p := by rintro rfl; obtain ⟨o, e⟩ := hpe; rw [h1] at e; cases e
  have n12 : q2 ≠ q1 := by rintro rfl; rw [up_same] at h2; cases h2
  have h2' : m q2 = none := by rw [up_ne n12] at h2; exact h2
  have n2 : q2 ≠ p := by rintro rfl; obtain ⟨o, e⟩ := hpe; rw [h2'] at e; cases e
  unfold xWhile
  refine ⟨MixI m p q1 q2 es n, ⟨es.length, es, [], rfl, rfl, by simp, ?_, ?_, up_same, ?_⟩, ?_⟩
  · obtain ⟨a, b, c, e, h⟩ := hp
    exact ⟨a, b, c, by rw [up_ne n2.symm, up_ne n1.symm]; exact e, h⟩
  · rw [up_ne n12.symm, up_same]
  · intro a ha hb hc
    rw [up_ne hc, up_ne hb]
  · rintro k r m' ⟨left, found, rfl, rfl, hpm, hpen, e1, e2, hfr⟩
    have hlen : found.length + left.length = es.length := by rw [← List.length_append]; exact hpm.length_eq
    have hsl : ∀ d ∈ left, Sm d 20 1000 := fun d hd => hs d (hpm.subset (List.mem_append_right _ hd))
    walk_at "d"
    have hok : okD (.ref q1) m' := by
      have z := (sm_lst hsl).ok (by decide) m'
      unfold okD at z ⊢
      simp only [purM, pyM, e1]
      exact z
    have hpy : pyM (.ref q1) m' = .list (pyL left) := by simp only [pyM, e1]
    refine ⟨by decide, ?_⟩
    show okD _ _ ∧ okD _ _ ∧ _
    refine ⟨hok, ok_nil _, ?_⟩
    rw [hpy, eqv_nil]
    refine ⟨_, rfl, ?_⟩
    by_cases h0 : left = []
    · subst h0
      simp only [decide_true, Bool.not_true, Bool.false_eq_true, ↓reduceIte]
      refine ⟨found, e2, ?_⟩
      obtain ⟨a, b, c, ep, hh⟩ := hpen
      have hfl : found.length = es.length := by rw [List.length_nil] at hlen; omega
      refine end_rtL (m2 := up m p (.lst [.int a, .int b, .int c])) (fun x o e => ?_) (q found _ (by simpa using hpm) ⟨a, b, c, rfl, by rw [← hfl]; exact hh⟩)
      by_cases hx : x = p
      · subst hx
        rw [up_same] at e
        rw [er_ne n2.symm, ep]; exact e
      · rw [up_ne hx] at e
        have x1 : x ≠ q1 := by rintro rfl; rw [h1] at e; cases e
        have x2 : x ≠ q2 := by rintro rfl; rw [h2'] at e; cases e
        rw [er_ne x2, hfr x hx x1 x2]; exact e
    · have hpos : 0 < left.length := List.length_pos_iff.mpr h0
      simp only [h0, decide_false, Bool.not_false, ↓reduceIte]
      unfold dAppend dPopAt
      walk_at "d"
      refine ⟨_, e2, _, e1, ?_⟩
      simp only [aLen_ref e1]
      refine ⟨p, left.length, _, rfl, hpen, by omega, by omega, by omega, fun r m2 hr hu => ?_⟩
      have u1 : m2 q1 = some (.lst left) := by rw [hu.other n1]; exact e1
      have u2 : m2 q2 = some (.lst found) := by rw [hu.other n2]; exact e2
      refine ⟨left, left[r], r, rfl, u1, List.getElem?_eq_getElem hr, found, by rw [up_ne n12]; exact u2, by show _ < 2 ^ 24; omega, left.length - 1, by omega, left.eraseIdx r, found ++ [left[r]], rfl, ?_, perm_take hpm hr, ?_, ?_, up_same, ?_⟩
      · rw [List.length_eraseIdx_of_lt hr]
      · obtain ⟨a, b, c, e, hh⟩ := hu.pen
        refine ⟨a, b, c, by rw [up_ne n2.symm, up_ne n1.symm]; exact e, ?_⟩
        rw [List.length_append, List.length_singleton, ← Nat.add_assoc]
        exact hh
      · rw [up_ne n12.symm, up_same]
      · intro x hx x1 x2
        rw [up_ne x2, up_ne x1, hu.other hx]
        exact hfr x hx x1 x2

def s_law_attribute : DSp := fun ds m Q => ∃ (p : Addr) (most n : Nat), ds = [.ref p, nD most] ∧ Pen m p n ∧ n ≤ 900000000 ∧ 1 ≤ most ∧ most ≤ 6 ∧ ∀ a m', At.V a → a.n ≤ most → PenU m p (n + 100) m' → Q a.enc m'
theorem l_law_attribute : ∀ ds m Q, s_law_attribute ds m Q → ds.length = 2 := by rintro ds m Q ⟨s, d, n, rfl, _⟩; rfl
def t_law_attribute : DS := (xSeq (xAsg (dOp aAdd (dC (.int 1)) (dCB s_law_draw (dCons (dVar 0) (dCons (dVar 1) dNil)))) (gV 2))
  (xSeq (xPar 4 5 (dCons (dVar 2) (dCons (dLstM dNil) dNil)))
  (xSeq (xFor (sRg1 (dCB s_law_draw (dCons (dVar 0) (dCons (dC (.int 4)) dNil)))) (gV 3) (xIf (dTest (dOp aGt (dVar 4) (dC (.int 1)))) (xSeq (xAsg (dOp aAdd (dC (.int 1)) (dCB s_law_draw (dCons (dVar 0) (dCons (dOp aSub (dVar 4) (dC (.int 1))) dNil)))) (gV 6))
  (xSeq (xAsg (dLc (sRg1 (dOp aSub (dVar 4) (dVar 6))) [8] (gV 8) dYes (dCB s_law_draw (dCons (dVar 0) (dCons (dVar 6) dNil)))) (gV 7))
  (xSeq (xDrop (dAppend (dVar 5) (dCB aTuple (dCons (dCB s_law_mixed (dCons (dVar 0) (dCons (dOp aAdd (dListRg (dVar 6)) (dVar 7)) dNil))) dNil))))
  (xAsg (dVar 6) (gV 4))))) xNext))
  (xRet (dTup (dCons (dVar 2) (dCons (dCB aTuple (dCons (dVar 5) dNil)) dNil)))))))
/-- the steps so far lead from g0 groups to g groups -/
def leads : Nat → List (List Nat) → Nat → Prop
  | g, [], g1 => g = g1
  | g, s :: r, g1 => ∃ g', Stp1 g s g' ∧ leads g' r g1
theorem leads_snoc : ∀ {ss : List (List Nat)} {g g1 g2 : Nat} {s : List Nat}, leads g ss g1 → Stp1 g1 s g2 → leads g (ss ++ [s]) g2
  | [], g, g1, g2, s, h, h2 => by cases h; exact ⟨g2, h2, rfl⟩
  | a :: r, g, g1, g2, s, ⟨g', h1, h3⟩, h2 => ⟨g', h1, leads_snoc h3 h2⟩
theorem leads_V : ∀ {ss : List (List Nat)} {g g1 : Nat}, leads g ss g1 → stepsV g ss
  | [], _, _, _ => trivial
  | s :: r, g, g1, ⟨g', h1, h2⟩ => ⟨g', h1, leads_V h2⟩
theorem perm_map_inv {α β : Type} {f : α → β} {l : List α} {es : List β} (h : es.Perm (l.map f)) : ∃ l' : List α, es = l'.map f ∧ l'.Perm l := by
  have key : ∀ {xs es : List β}, xs.Perm es → ∀ l : List α, xs = l.map f → ∃ l' : List α, es = l'.map f ∧ l'.Perm l := by
    intro xs es h
    induction h with
    | nil => intro l e; exact ⟨[], rfl, by cases l with | nil => exact List.Perm.refl _ | cons a r => cases e⟩
    | cons x h ih =>
      intro l e
      cases l with
      | nil => cases e
      | cons a r =>
        rw [List.map_cons] at e
        obtain ⟨rfl, e2⟩ := List.cons.inj e
        obtain ⟨l', rfl, h2⟩ := ih r e2
        exact ⟨a :: l', rfl, h2.cons a⟩
    | swap x y zs =>
      intro l e
      match l, e with
      | a :: b :: r, e =>
        rw [List.map_cons, List.map_cons] at e
        obtain ⟨rfl, e2⟩ := List.cons.inj e
        obtain ⟨rfl, rfl⟩ := List.cons.inj e2
        exact ⟨b :: a :: r, rfl, List.Perm.swap _ _ _⟩
    | trans h1 h2 i1 i2 =>
      intro l e
      obtain ⟨l1, e1, p1⟩ := i1 l e
      obtain ⟨l2, e2, p2⟩ := i2 l1 e1
      exact ⟨l2, e2, p2.trans p1⟩
  exact key h.symm l rfl
theorem small' {n k : Nat} (h : n ≤ k) (hk : k < 16777216 := by decide) : n < sizeLine := by show n < 2 ^ 24; omega
theorem rgD_nat (k : Nat) : rgD 0 k = (List.range k).map nD := by
  unfold rgD nD
  rw [show ((k : Int) - 0).toNat = k by omega]
  simp only [Int.zero_add]
def AtI (m0 : Mu) (p q : Addr) (most many n0 : Nat) : Nat → Ro → Mu → Prop := fun i r m => ∃ (g : Nat) (ss : List (List Nat)) (x3 x6 x7 x8 : Option D),
  r = [some (.ref p), some (nD most), some (nD many), x3, some (nD g), some (.ref q), x6, x7, x8] ∧ Pen m p (n0 + 20 * i) ∧ m q = some (.lst (ss.map tD)) ∧ ss.length ≤ i ∧ leads many ss g ∧ 1 ≤ g ∧ g ≤ most ∧
  ∀ a, a ≠ p → a ≠ q → m a = m0 a
theorem v_law_attribute : Body 9 t_law_attribute s_law_attribute := by
  rintro ds m Q ⟨p, most, n, rfl, hp, hn, h1, h6, q⟩
  unfold t_law_attribute
  walk_at "d"
  refine ⟨p, most, n, rfl, hp, by omega, h1, by omega, fun r1 m1 hr1 hu1 => ?_⟩
  simp only [nD]
  walk_at "d"
  refine ⟨by decide, fun q1 hq1 => ?_⟩
  have hm1 : ∃ o, m1 p = some o := by obtain ⟨a, b, c, e, _⟩ := hu1.pen; exact ⟨_, e⟩
  have nq : q1 ≠ p := by rintro rfl; obtain ⟨o, e⟩ := hm1; rw [hq1] at e; cases e
  have hq0 : m q1 = none := by rw [hu1.other nq] at hq1; exact hq1
  have hpen : Pen (up m1 q1 (.lst [])) p (n + 1) := by
    obtain ⟨a, b, c, e, h⟩ := hu1.pen
    exact ⟨a, b, c, by rw [up_ne nq.symm]; exact e, h⟩
  refine ⟨p, 4, n + 1, rfl, hpen, by omega, by decide, by decide, fun r2 m2 hr2 hu2 => ⟨(r2 : Nat), rfl, by omega, by omega, ?_⟩⟩
  rw [rgD_nat]
  refine forGo_inv (AtI m p q1 most (1 + r1) (n + 2)) _ _ _ 0 ⟨1 + r1, [], none, none, none, none, rfl, hu2.pen, ?_, Nat.le_refl _, rfl, by omega, by omega, ?_⟩ ?_ ?_
  · rw [hu2.other nq, up_same]; rfl
  · intro a ha hb
    rw [hu2.other ha, up_ne hb, hu1.other ha]
  · rintro j d r m3 P hd ⟨g, ss, x3, x6, x7, x8, rfl, hpen3, hq3, hss, hle, hg1, hg2, hfr⟩ hP
    have hj : j < 4 := by
      have := (List.getElem?_eq_some_iff.mp hd).1
      rw [List.length_map, List.length_range] at this
      omega
    simp only [nD]
    walk_at "d"
    by_cases hg : (1 : Int) < (g : Int)
    · simp only [hg, decide_true, ↓reduceIte]
      refine ⟨p, g - 1, _, by rw [show ((g : Int) - 1) = ((g - 1 : Nat) : Int) by omega]; rfl, hpen3, by omega, by omega, by omega, fun r4 m4 hr4 hu4 => ?_⟩
      simp only [nD]
      walk_at "d"
      rw [show (g : Int) - (1 + (r4 : Int)) = ((g - (1 + r4) : Nat) : Int) by omega, rgD_nat, show (1 + (r4 : Int)) = ((1 + r4 : Nat) : Int) by omega]
      refine ⟨by omega, by omega, small (k := 1000) (by rw [List.length_map, List.length_range]; omega), ?_⟩
      refine lcGo_inv (fun i acc m' => ∃ ks : List Nat, acc = ks.map nD ∧ ks.length = i ∧ (∀ k ∈ ks, k < 1 + r4) ∧ PenU m3 p (n + 2 + 20 * (0 + j) + 1 + i) m') _ [] m4 0 ⟨[], rfl, rfl, (fun _ h => nomatch h), hu4⟩ ?_ ?_
      · rintro i x acc m5 P5 hx ⟨ks, rfl, hks, hlt, hu5⟩ hP5
        have hi : i < 6 := by
          have := (List.getElem?_eq_some_iff.mp hx).1
          rw [List.length_map, List.length_range] at this
          omega
        walk_at "d"
        refine ⟨p, 1 + r4, _, rfl, hu5.pen, by omega, by omega, by omega, fun r6 m6 hr6 hu6 => ?_⟩
        refine hP5 _ _ ⟨ks ++ [r6], by rw [List.map_append]; rfl, by rw [List.length_append, List.length_singleton, hks], fun k hk => ?_, hu5.trans hu6⟩
        rcases List.mem_append.mp hk with hk | hk
        · exact hlt k hk
        · rw [List.mem_singleton.mp hk]; exact hr6
      · rintro acc m5 ⟨ks, rfl, hks, hlt, hu5⟩
        rw [List.length_map, List.length_range] at hks hu5
        unfold dAppend dListRg
        walk_at "d"
        refine ⟨_, by rw [hu5.other nq]; exact hq3, by omega, by omega, ?_⟩
        rw [rgD_nat, ← List.map_append]
        simp only [List.length_map, List.length_range]
        refine ⟨small (k := 1000) (by omega), p, _, _, rfl, hu5.pen, ?_⟩
        have hlen : (List.range (1 + r4) ++ ks).length = g := by rw [List.length_append, List.length_range]; omega
        rw [List.length_map, hlen]
        refine ⟨by omega, by omega, fun d hd => ?_, fun es' m6 hpm hu6 => ?_⟩
        · obtain ⟨k, hk, rfl⟩ := List.mem_map.mp hd
          have : k < 1000 := by
            rcases List.mem_append.mp hk with hk | hk
            · have := List.mem_range.mp hk; omega
            · have := hlt k hk; omega
          exact (sm_int (i := (k : Int)) (by omega)).mono (by decide) (by decide)
        · obtain ⟨st, rfl, hst⟩ := perm_map_inv hpm
          walk_at "d"
          have hu7 := hu5.trans hu6
          refine ⟨ss.map tD, by rw [hu7.other nq]; exact hq3, small' (k := 1000) (by rw [List.length_map]; omega), ?_⟩
          refine hP _ _ ⟨1 + r4, ss ++ [st], _, _, _, _, rfl, ?_, ?_, ?_, leads_snoc hle ⟨?_, by omega, ?_, ?_⟩, by omega, by omega, ?_⟩
          · obtain ⟨a, b, c, e, hh⟩ := (hu7.mono (k := n + 2 + 20 * (0 + j + 1)) (by omega)).pen
            exact ⟨a, b, c, by rw [up_ne nq.symm]; exact e, hh⟩
          · rw [up_same, List.map_append]; rfl
          · rw [List.length_append, List.length_singleton]; omega
          · rw [hst.length_eq]; exact hlen
          · intro x hx
            rcases List.mem_append.mp (hst.subset hx) with hk | hk
            · exact List.mem_range.mp hk
            · exact hlt x hk
          · intro y hy
            exact hst.symm.subset (List.mem_append_left _ (List.mem_range.mpr hy))
          · intro x hx hx1
            rw [up_ne hx1, hu7.other hx]
            exact hfr x hx hx1
    · simp only [hg, decide_false, Bool.false_eq_true, ↓reduceIte]
      refine hP _ _ ⟨g, ss, _, x6, x7, x8, rfl, ?_, hq3, by omega, hle, hg1, hg2, hfr⟩
      exact (hpen3.u.mono (by omega)).pen
  · rintro r m3 ⟨g, ss, x3, x6, x7, x8, rfl, hpen3, hq3, hss, hle, hg1, hg2, hfr⟩
    rw [List.length_map, List.length_range] at hpen3 hss
    simp only [nD]
    walk_at "d"
    simp only [aTuple_ref hq3]
    walk_at "d"
    obtain ⟨a, b, c, ep, hh⟩ := hpen3
    refine ⟨by decide, end_rtL (m2 := up m p (.lst [.int a, .int b, .int c])) (fun x o e => ?_) (q ⟨1 + r1, ss⟩ _ ⟨by show 1 ≤ 1 + r1; omega, by show 1 + r1 ≤ 6; omega, by show ss.length ≤ 3; omega, leads_V hle⟩ (by show 1 + r1 ≤ most; omega) ?_)⟩
    · by_cases hx : x = p
      · subst hx
        rw [up_same] at e
        rw [ep]; exact e
      · rw [up_ne hx] at e
        have x1 : x ≠ q1 := by rintro rfl; rw [hq0] at e; cases e
        rw [hfr x hx x1]; exact e
    · exact ⟨a, b, c, rfl, hh.1, hh.2.1, hh.2.2.1, hh.2.2.2.1, by have := hh.2.2.2.2; omega⟩
end Mn

set_option linter.all false
set_option maxHeartbeats 4000000
set_option autoImplicit false
set_option maxRecDepth 100000
namespace Mn
open PySem L2
variable [Tbs]
local macro_rules | `(tactic| walk_at "d") => `(tactic| (try simp only [xNext, xSeq, xAsg, xRet, xRetF, xDrop, xIf, xPar, xPar3, xFrz, xPut, xAug, xFor, dVar, dC, dOp, dTest, dChain, dAndV, dOrV, dNotV, dAnd, dOr, dNot, dIf, dNil, dCons, dTup, dLst, dLstM, dCB, dIsi, dLc, dLcM, dYes, wipeD, dSlice, oSome, oNone, aSl_tup, aSl_lst, dNeg, dStar, dNewD, dTupVals, dCountL, dExtend, dAppend, dFrz, dLc2, dCountT, dIndexT, sqf_tup, sqf_lst, sqf_pair, sSeq, sSeq_tup, sSeq_lst, sRg1, sRg2, sZip2, sZip3, sZip4, sEnum, gV, gN, gC, gT, tupOf_tup, tupOf_pair, aAdd_int, aAdd_tup, aAdd_lst, aSub_int, aMul_int, aDiv_int, aMod_int, aPow_int, aCmp_int, aIx_tup, aIx_lst, aIx_scr, aIx_pair, aMax_int, aMin_int, aInt_bl, aInt_int, aLen_tup, aLen_lst, aLen_scr, aLen_pair, aTuple_lst, aTuple_tup, aEq_int, aNe_int, startD, List.map_cons, List.map_nil, List.length_cons, List.length_nil, List.cons_append, List.nil_append, List.replicate_zero, List.replicate_succ, List.append_nil, List.getElem?_cons_zero, List.getElem?_cons_succ, List.set_cons_zero, List.set_cons_succ, Option.some.injEq, exists_eq_left', exists_eq_left, exists_eq', D.int.injEq, D.bl.injEq, D.tup.injEq, D.lst.injEq, D.pair.injEq, D.ref.injEq, List.cons.injEq, Nat.sub_self, Nat.zero_add, Nat.add_sub_cancel, seqI_tup, seqI_lst, seqOf_tup, seqOf_lst, tyN_tup, tyN_lst, tyN_int, tyN_bl, tyN_str, tyN_non, isi_tt, at_0, at_1, at_2, at_3, Option.map_some, true_and, and_true, if_true, Bool.false_eq_true, if_false, Bool.not_true, Bool.not_false, ↓reduceIte, Nat.reduceAdd, Nat.reduceSub, exists_and_left, and_assoc]))
theorem zip_mem {α β : Type} {as : List α} {bs : List β} {p : α × β} (h : p ∈ as.zip bs) : ∃ i : Nat, as[i]? = some p.1 ∧ bs[i]? = some p.2 := by
  obtain ⟨i, hi⟩ := List.mem_iff_getElem?.mp h
  rw [List.getElem?_zip_eq_some] at hi
  exact ⟨i, hi⟩
theorem zipWith_zip {α β γ : Type} (f : α → β → γ) : ∀ (as : List α) (bs : List β), List.zipWith f as bs = (as.zip bs).map fun p => f p.1 p.2
  | [], _ => by simp
  | _ :: _, [] => by simp
  | a :: as, b :: bs => by rw [List.zipWith_cons_cons, List.zip_cons_cons, List.map_cons, zipWith_zip f as bs]
def s_sizes_at : DSp := fun ds m Q => ∃ (s : Sch) (r : List Nat), ds = [encS s, tD r] ∧ SchV s ∧ Roll s r ∧ Q (.lst ((szs s r).map nD)) m
theorem l_sizes_at : ∀ ds m Q, s_sizes_at ds m Q → ds.length = 2 := by rintro ds m Q ⟨s, r, rfl, _⟩; rfl
def t_sizes_at : DS := (xRet (dLc (sZip2 (dVar 0) (dVar 1)) [2, 3] (gT 2 (gC (gV 2) (gC (gV 3) gN))) dYes (dCB s_groups_at (dCons (dVar 2) (dCons (dVar 3) dNil)))))
theorem v_sizes_at : Body 4 t_sizes_at s_sizes_at := by
  rintro ds m Q ⟨s, r, rfl, hs, hr, q⟩
  have hq := end_rt (m0 := m) q
  have hl := hr.len; have h3 := hs.2.1
  unfold t_sizes_at encS tD
  walk_at "d"
  rw [zip2_map]
  refine ⟨small (k := 1000) (by rw [List.length_map, List.length_zip]; omega), ?_⟩
  refine lcGo_maps (fun p : At × Nat => nD (p.1.sz p.2)) _ [] _ (fun p hp K hK => ?_) ?_
  · obtain ⟨i, h1, h2⟩ := zip_mem hp
    walk_at "d"
    exact ⟨p.1, p.2, rfl, hs.2.2.1 _ (List.mem_of_getElem? h1), hr.at h1 h2, hK⟩
  · rw [List.nil_append]
    have e : ((s.zip r).map fun p : At × Nat => nD (p.1.sz p.2)) = (szs s r).map nD := by unfold szs; rw [zipWith_zip, List.map_map]; rfl
    rw [e]
    exact hq
def s_cells_of : DSp := fun ds m Q => ∃ (s : Sch) (r : List Nat), ds = [encS s, tD r] ∧ SchV s ∧ Roll s r ∧ Q (.lst ((cellsOf s r).map tD)) m
theorem l_cells_of : ∀ ds m Q, s_cells_of ds m Q → ds.length = 2 := by rintro ds m Q ⟨s, r, rfl, _⟩; rfl
def t_cells_of : DS := (xRet (dCB s_tuples_below (dCons (dCB s_sizes_at (dCons (dVar 0) (dCons (dVar 1) dNil))) dNil)))
theorem v_cells_of : Body 2 t_cells_of s_cells_of := by
  rintro ds m Q ⟨s, r, rfl, hs, hr, q⟩
  have h3 := hs.2.1
  unfold t_cells_of
  walk_at "d"
  exact ⟨s, r, rfl, hs, hr, szs s r, rfl, by rw [szs_len hr]; exact h3, fun k hk => (szs_le hs hr k hk).2, end_rt q⟩
def s_size_of : DSp := fun ds m Q => ∃ (s : Sch) (r : List Nat), ds = [encS s, tD r] ∧ SchV s ∧ Roll s r ∧ Q (nD (prodN (szs s r))) m
theorem l_size_of : ∀ ds m Q, s_size_of ds m Q → ds.length = 2 := by rintro ds m Q ⟨s, r, rfl, _⟩; rfl
def t_size_of : DS := (xRet (dCB s_product_of (dCons (dCB s_sizes_at (dCons (dVar 0) (dCons (dVar 1) dNil))) dNil)))
theorem v_size_of : Body 2 t_size_of s_size_of := by
  rintro ds m Q ⟨s, r, rfl, hs, hr, q⟩
  have h3 := hs.2.1
  unfold t_size_of
  walk_at "d"
  refine ⟨s, r, rfl, hs, hr, (szs s r).map fun k : Nat => (k : Int), by rw [List.map_map]; rfl, fun n hn => ?_, by rw [List.length_map, szs_len hr]; omega, ?_⟩
  · obtain ⟨k, hk, rfl⟩ := List.mem_map.mp hn
    have := szs_le hs hr k hk
    omega
  · have e : prodI ((szs s r).map fun k : Nat => (k : Int)) = (prodN (szs s r) : Nat) := prod_cast (szs s r) 1
    rw [e]
    exact end_rt q
def s_finest : DSp := fun ds m Q => ∃ s : Sch, ds = [encS s] ∧ SchV s ∧ Q (tD (finN s)) m
theorem l_finest : ∀ ds m Q, s_finest ds m Q → ds.length = 1 := by rintro ds m Q ⟨s, rfl, _⟩; rfl
def t_finest : DS := (xRet (dOp aMulA (dTup (dCons (dC (.int 0)) dNil)) (dCB aLen (dCons (dVar 0) dNil))))
theorem rep_tD (k : Nat) : (List.replicate k [D.int 0]).flatten = (List.replicate k 0).map nD := by
  induction k with
  | zero => rfl
  | succ k ih => rw [List.replicate_succ, List.flatten_cons, ih, List.replicate_succ]; rfl
theorem v_finest : Body 1 t_finest s_finest := by
  rintro ds m Q ⟨s, rfl, hs, q⟩
  have hq := end_rt (m0 := m) q
  have h1 := hs.1; have h3 := hs.2.1
  unfold t_finest encS
  walk_at "d"
  rw [List.length_map]
  refine ⟨by decide, by simp, by simp, by omega, by omega, ?_⟩
  rw [Int.toNat_natCast, rep_tD]
  exact hq
/-! cells -/
def isCell (s : Sch) (r : List Nat) (d : D) : Bool := match d with
  | .tup ds => decide (ds.length = s.length) && (List.zipWith (fun x (k : Nat) => betw x 0 ((k : Int) - 1)) ds (szs s r)).all id
  | _ => false
def Cell (s : Sch) (r c : List Nat) : Prop := Below c (szs s r)
theorem Cell.ok {s : Sch} {r c : List Nat} (hr : Roll s r) (h : Cell s r c) : isCell s r (tD c) = true := by
  have hl := szs_len hr
  simp only [isCell, tD, List.length_map, Bool.and_eq_true, decide_eq_true_eq]
  refine ⟨by have := h.1; omega, ?_⟩
  rw [List.all_eq_true]
  intro b hb
  obtain ⟨i, hi⟩ := List.mem_iff_getElem?.mp hb
  rw [List.getElem?_zipWith, List.getElem?_map] at hi
  cases hc : c[i]? with
  | none => rw [hc] at hi; simp at hi
  | some x =>
    cases hk : (szs s r)[i]? with
    | none => rw [hc, hk] at hi; simp at hi
    | some k =>
      rw [hc, hk] at hi
      simp only [Option.map_some, Option.some.injEq] at hi
      subst hi
      have := h.2 i x k hc hk
      simp only [betw, nD, id, Bool.and_eq_true, decide_eq_true_eq]
      omega
theorem Cell.len {s : Sch} {r c : List Nat} (hr : Roll s r) (h : Cell s r c) : c.length = s.length := by rw [h.1, szs_len hr]
theorem Cell.at {s : Sch} {r c : List Nat} (h : Cell s r c) {i : Nat} {a : At} {l x : Nat} (ha : s[i]? = some a) (hl : r[i]? = some l) (hx : c[i]? = some x) : x < a.sz l := by
  refine h.2 i x _ hx ?_
  unfold szs
  rw [List.getElem?_zipWith, ha, hl]
theorem cell_iff {s : Sch} {r c : List Nat} : c ∈ cellsOf s r ↔ Cell s r c := mem_cellsN _ _
def s_is_cell : DSp := fun ds m Q => ∃ (s : Sch) (r : List Nat) (d : D), ds = [encS s, tD r, d] ∧ SchV s ∧ Roll s r ∧ Kn m d ∧ Q (.bl (isCell s r d)) m
theorem l_is_cell : ∀ ds m Q, s_is_cell ds m Q → ds.length = 3 := by rintro ds m Q ⟨s, r, d, rfl, _⟩; rfl
def t_is_cell : DS := (xSeq (xIf (dOr (dNot (dTest (dIsi "tuple" (dVar 2)))) (dTest (dOp aNe (dCB aLen (dCons (dVar 2) dNil)) (dCB aLen (dCons (dVar 0) dNil))))) (xRet (dC (.bl false))) xNext)
  (xRet (dCB aAll (dCons (dLc (sZip2 (dVar 2) (dCB s_sizes_at (dCons (dVar 0) (dCons (dVar 1) dNil)))) [3, 4] (gT 2 (gC (gV 3) (gC (gV 4) gN))) dYes (dCB s_is_between (dCons (dVar 3) (dCons (dC (.int 0)) (dCons (dOp aSub (dVar 4) (dC (.int 1))) dNil))))) dNil))))
theorem zip2_id {β : Type} {eb : β → D} (ds : List D) (bs : List β) : zip2 ds (bs.map eb) = (ds.zip bs).map fun p => D.pair [p.1, eb p.2] := by
  have := zip2_map (ea := id) (eb := eb) ds bs
  rw [List.map_id] at this
  exact this
theorem v_is_cell : Body 5 t_is_cell s_is_cell := by
  rintro ds m Q ⟨s, r, d, rfl, hs, hr, ht, q⟩
  have hq := end_rt (m0 := m) q
  obtain ⟨t, et⟩ := ht.ty
  unfold t_is_cell
  cases d with
  | tup ls =>
    have e0 : encS s = .tup (s.map At.enc) := rfl
    walk_at "d"
    simp only [e0]
    walk_at "d"
    rw [List.length_map]
    by_cases hl : ls.length = s.length
    · have e1 : (ls.length : Int) = s.length := by omega
      simp only [e1, decide_true, Bool.not_true, Bool.false_eq_true, ↓reduceIte]
      refine ⟨s, r, rfl, hs, hr, _, rfl, ?_⟩
      have h3 := hs.2.1
      rw [zip2_id]
      refine ⟨small (k := 1000) (by rw [List.length_map, List.length_zip]; omega), ?_⟩
      refine lcGo_maps (fun p : D × Nat => .bl (betw p.1 0 ((p.2 : Int) - 1))) _ [] _ (fun p hp K hK => ?_) ?_
      · obtain ⟨i, h1, h2⟩ := zip_mem hp
        unfold nD
        walk_at "d"
        exact ⟨p.1, 0, _, rfl, ht.tup (List.mem_of_getElem? h1), hK⟩
      · rw [List.nil_append]
        have e : ((ls.zip (szs s r)).map fun p : D × Nat => D.bl (betw p.1 0 ((p.2 : Int) - 1))) = (List.zipWith (fun x (k : Nat) => betw x 0 ((k : Int) - 1)) ls (szs s r)).map D.bl := by
          rw [zipWith_zip, List.map_map]; rfl
        rw [e]
        refine aAll_list ?_
        simpa only [isCell, hl, decide_true, Bool.true_and] using hq
    · have e1 : ¬ (ls.length : Int) = s.length := by omega
      simp only [e1, decide_false, Bool.not_false, ↓reduceIte]
      simpa only [isCell, hl, decide_false, Bool.false_and] using hq
  | _ =>
    have e2 := isi_tup et
    simp only [xSeq, xIf, dOr, dNot, dTest, dIsi, dVar]
    refine ⟨_, rfl, t, et, _, rfl, ?_⟩
    rw [e2]
    exact hq
def s_need_cell : DSp := fun ds m Q => ∃ (s : Sch) (r c : List Nat), ds = [encS s, tD r, tD c] ∧ SchV s ∧ Roll s r ∧ Cell s r c ∧ Q .non m
theorem l_need_cell : ∀ ds m Q, s_need_cell ds m Q → ds.length = 3 := by rintro ds m Q ⟨s, r, d, rfl, _⟩; rfl
def t_need_cell : DS := (xIf (dNot (dTest (dCB s_is_cell (dCons (dVar 0) (dCons (dVar 1) (dCons (dVar 2) dNil)))))) xNever xNext)
theorem v_need_cell : Body 3 t_need_cell s_need_cell := by
  rintro ds m Q ⟨s, r, c, rfl, hs, hr, hc, q⟩
  unfold t_need_cell
  walk_at "d"
  refine ⟨s, r, _, rfl, hs, hr, kn_tD m c, _, rfl, ?_⟩
  rw [hc.ok hr]
  exact end_nx q
theorem fine_at {a b : List Nat} (h : fineB a b = true) {i x y : Nat} (hx : a[i]? = some x) (hy : b[i]? = some y) : x ≤ y := by
  unfold fineB at h
  rw [List.all_eq_true] at h
  have : (List.zipWith (fun x y => decide (x ≤ y)) a b)[i]? = some (decide (x ≤ y)) := by rw [List.getElem?_zipWith, hx, hy]
  exact of_decide_eq_true (h _ (List.mem_of_getElem? this))
theorem fine_of {a b : List Nat} (h : ∀ (i x y : Nat), a[i]? = some x → b[i]? = some y → x ≤ y) : fineB a b = true := by
  unfold fineB
  rw [List.all_eq_true]
  intro c hc
  obtain ⟨i, hi⟩ := List.mem_iff_getElem?.mp hc
  rw [List.getElem?_zipWith] at hi
  cases ha : a[i]? with
  | none => rw [ha] at hi; simp at hi
  | some x =>
    cases hb : b[i]? with
    | none => rw [ha, hb] at hi; simp at hi
    | some y =>
      rw [ha, hb] at hi
      simp only [Option.some.injEq] at hi
      rw [← hi]
      exact decide_eq_true (h i x y ha hb)
/-! the cell above -/
def s_cell_above : DSp := fun ds m Q => ∃ (s : Sch) (r c o : List Nat), ds = [encS s, tD r, tD c, tD o] ∧ SchV s ∧ Roll s r ∧ Cell s r c ∧ Roll s o ∧ fineB r o = true ∧ Q (tD (abv s r c o)) m
theorem l_cell_above : ∀ ds m Q, s_cell_above ds m Q → ds.length = 4 := by rintro ds m Q ⟨s, r, c, o, rfl, _⟩; rfl
def t_cell_above : DS := (xSeq (xAsg (dLstM dNil) (gV 4))
  (xSeq (xFor (sEnum (dVar 0)) (gT 2 (gC (gV 5) (gC (gV 6) gN))) (xDrop (dAppend (dVar 4) (dCB s_group_above (dCons (dVar 6) (dCons (dOp aIx (dVar 2) (dVar 5)) (dCons (dOp aIx (dVar 1) (dVar 5)) (dCons (dOp aIx (dVar 3) (dVar 5)) dNil))))))))
  (xRet (dCB aTuple (dCons (dVar 4) dNil)))))
theorem abv_len {s : Sch} {r c o : List Nat} (hr : r.length = s.length) (hc : c.length = s.length) (ho : o.length = s.length) : (abv s r c o).length = s.length := by
  unfold abv; simp only [List.length_map, List.length_zip]; omega
theorem abv_at {s : Sch} {r c o : List Nat} {i : Nat} {a : At} {x l k : Nat} (ha : s[i]? = some a) (hx : c[i]? = some x) (hl : r[i]? = some l) (hk : o[i]? = some k) : (abv s r c o)[i]? = some (a.up x l k) := by
  unfold abv
  rw [List.getElem?_map]
  have : (s.zip (c.zip (r.zip o)))[i]? = some (a, x, l, k) := by
    rw [List.getElem?_zip_eq_some, List.getElem?_zip_eq_some, List.getElem?_zip_eq_some]
    exact ⟨ha, hx, hl, hk⟩
  rw [this]; rfl
theorem get_ex {α : Type} {l : List α} {i : Nat} (h : i < l.length) : ∃ x, l[i]? = some x := ⟨l[i], List.getElem?_eq_getElem h⟩
theorem v_cell_above : Body 7 t_cell_above s_cell_above := by
  rintro ds m Q ⟨s, r, c, o, rfl, hs, hr, hc, ho, hf, q⟩
  have hrl := hr.len; have hol := ho.len; have hcl := hc.len hr; have h3 := hs.2.1
  unfold t_cell_above encS
  walk_at "d"
  refine ⟨by decide, fun p hp => ?_⟩
  rw [enumD_map]
  refine forGo_take (enc := fun p : At × Nat => D.pair [.int (p.2 : Nat), p.1.enc]) (fun pre rr m' => ∃ x5 x6, rr = [some (.tup (s.map At.enc)), some (tD r), some (tD c), some (tD o), some (.ref p), x5, x6] ∧ m' = up m p (.lst (((abv s r c o).take pre.length).map nD))) (s.zipIdx 0) [] _ _ _ rfl ⟨none, none, rfl, rfl⟩ ?_ ?_
  · rintro pre ⟨a, i⟩ post rr m' P e ⟨x5, x6, rfl, rfl⟩ hP
    have hi : (s.zipIdx 0)[pre.length]? = some (a, i) := by rw [e, List.getElem?_append_right (Nat.le_refl _), Nat.sub_self]; rfl
    rw [List.getElem?_zipIdx] at hi
    obtain ⟨a', ha, e2⟩ := Option.map_eq_some_iff.mp hi
    simp only [Prod.mk.injEq, Nat.zero_add] at e2
    obtain ⟨rfl, rfl⟩ := e2
    have hil : pre.length < s.length := (List.getElem?_eq_some_iff.mp ha).1
    obtain ⟨x, hx⟩ := get_ex (l := c) (i := pre.length) (by omega)
    obtain ⟨l, hl⟩ := get_ex (l := r) (i := pre.length) (by omega)
    obtain ⟨k, hk⟩ := get_ex (l := o) (i := pre.length) (by omega)
    have ta : ∀ (z : List Nat) (y : Nat), z[pre.length]? = some y → at_ (z.map nD) (pre.length : Int) = some (nD y) := fun z y hy => by rw [at_nat, List.getElem?_map, hy]; rfl
    walk_at "d"
    refine ⟨_, up_same, ?_⟩
    unfold tD
    walk_at "d"
    refine ⟨_, ta c x hx, _, ta r l hl, _, ta o k hk, ?_⟩
    refine ⟨a', x, l, k, rfl, hs.2.2.1 a' (List.mem_of_getElem? ha), fine_at hf hl hk, ho.at ha hk, hc.at ha hl hx, ?_⟩
    refine ⟨_, up_same, ?_⟩
    rw [up_up]
    refine ⟨small' (k := 1000) (by rw [List.length_map, List.length_take]; omega), hP _ _ ⟨_, _, rfl, ?_⟩⟩
    rw [List.length_append, List.length_singleton, List.take_add_one, abv_at ha hx hl hk, List.map_append]
    rfl
  · rintro rr m' ⟨x5, x6, rfl, rfl⟩
    walk_at "d"
    have e : (s.zipIdx 0).length = (abv s r c o).length := by rw [List.length_zipIdx, abv_len hrl hcl hol]
    rw [e, List.take_length]
    simp only [aTuple_ref up_same]
    refine end_rtL (m2 := m) (fun b z hb => ?_) q
    rw [up_ne (fun z => by subst z; rw [hp] at hb; cases hb)]
    exact hb
end Mn

set_option linter.all false
set_option maxHeartbeats 4000000
set_option autoImplicit false
set_option maxRecDepth 100000
namespace Mn
open PySem L2
variable [Tbs]
local macro_rules | `(tactic| walk_at "d") => `(tactic| (try simp only [xNext, xSeq, xAsg, xRet, xRetF, xDrop, xIf, xPar, xPar3, xFrz, xPut, xAug, xFor, dVar, dC, dOp, dTest, dChain, dAndV, dOrV, dNotV, dAnd, dOr, dNot, dIf, dNil, dCons, dTup, dLst, dLstM, dCB, dIsi, dLc, dLcM, dYes, wipeD, dSlice, oSome, oNone, aSl_tup, aSl_lst, dNeg, dStar, dNewD, dTupVals, dCountL, dExtend, dAppend, dFrz, dLc2, dCountT, dIndexT, sqf_tup, sqf_lst, sqf_pair, sSeq, sSeq_tup, sSeq_lst, sRg1, sRg2, sZip2, sZip3, sZip4, sEnum, gV, gN, gC, gT, tupOf_tup, tupOf_pair, aAdd_int, aAdd_tup, aAdd_lst, aSub_int, aMul_int, aDiv_int, aMod_int, aPow_int, aCmp_int, aIx_tup, aIx_lst, aIx_scr, aIx_pair, aMax_int, aMin_int, aInt_bl, aInt_int, aLen_tup, aLen_lst, aLen_scr, aLen_pair, aTuple_lst, aTuple_tup, aEq_int, aNe_int, startD, List.map_cons, List.map_nil, List.length_cons, List.length_nil, List.cons_append, List.nil_append, List.replicate_zero, List.replicate_succ, List.append_nil, List.getElem?_cons_zero, List.getElem?_cons_succ, List.set_cons_zero, List.set_cons_succ, Option.some.injEq, exists_eq_left', exists_eq_left, exists_eq', D.int.injEq, D.bl.injEq, D.tup.injEq, D.lst.injEq, D.pair.injEq, D.ref.injEq, List.cons.injEq, Nat.sub_self, Nat.zero_add, Nat.add_sub_cancel, seqI_tup, seqI_lst, seqOf_tup, seqOf_lst, tyN_tup, tyN_lst, tyN_int, tyN_bl, tyN_str, tyN_non, isi_tt, at_0, at_1, at_2, at_3, Option.map_some, true_and, and_true, if_true, Bool.false_eq_true, if_false, Bool.not_true, Bool.not_false, ↓reduceIte, Nat.reduceAdd, Nat.reduceSub, exists_and_left, and_assoc]))
/-! own groups -/
def ownG (a : At) (l g : Nat) : Nat × Nat :=
  if h : l < a.ss.length ∧ (a.ss.getD l []).count (stepG (a.ss.getD l []) g) = 1 then ownG a (l + 1) (stepG (a.ss.getD l []) g) else (l, g)
termination_by a.ss.length - l
decreasing_by omega
theorem ownG_yes {a : At} {l g : Nat} (h1 : l < a.ss.length) (h2 : (a.ss.getD l []).count (stepG (a.ss.getD l []) g) = 1) : ownG a l g = ownG a (l + 1) (stepG (a.ss.getD l []) g) := by
  rw [ownG, dif_pos ⟨h1, h2⟩]
theorem ownG_no {a : At} {l g : Nat} (h : ¬ (l < a.ss.length ∧ (a.ss.getD l []).count (stepG (a.ss.getD l []) g) = 1)) : ownG a l g = (l, g) := by
  rw [ownG, dif_neg h]
theorem count_cast (st : List Nat) (y : Nat) : (st.map fun k : Nat => (k : Int)).count (y : Int) = st.count y := by
  induction st with
  | nil => rfl
  | cons x st ih =>
    rw [List.map_cons, List.count_cons, List.count_cons, ih]
    congr 1
    by_cases h : x = y
    · subst h; simp
    · have : ¬ ((x : Int) = (y : Int)) := by omega
      simp [h, this]
theorem tD_ints (st : List Nat) : tD st = .tup ((st.map fun k : Nat => (k : Int)).map D.int) := by
  unfold tD; rw [List.map_map]; rfl
def s_own_group : DSp := fun ds m Q => ∃ (a : At) (l g : Nat), ds = [a.enc, nD l, nD g] ∧ a.V ∧ l ≤ a.ss.length ∧ g < a.sz l ∧ Q (.tup [nD (ownG a l g).1, nD (ownG a l g).2]) m
theorem l_own_group : ∀ ds m Q, s_own_group ds m Q → ds.length = 3 := by rintro ds m Q ⟨a, l, g, rfl, _⟩; rfl
def t_own_group : DS := (xSeq (xAsg (dOp aIx (dVar 0) (dC (.int 1))) (gV 3))
  (xSeq (xWhile (dAnd (dTest (dOp aLt (dVar 1) (dCB aLen (dCons (dVar 3) dNil)))) (dTest (dOp aEq (dCountT (dOp aIx (dVar 3) (dVar 1)) (dOp aIx (dOp aIx (dVar 3) (dVar 1)) (dVar 2))) (dC (.int 1))))) (xSeq (xAsg (dOp aIx (dOp aIx (dVar 3) (dVar 1)) (dVar 2)) (gV 2))
  (xAsg (dOp aAdd (dVar 1) (dC (.int 1))) (gV 1))))
  (xRet (dTup (dCons (dVar 1) (dCons (dVar 2) dNil))))))
def OwnW (m0 : Mu) (a : At) (l g : Nat) : Nat → Ro → Mu → Prop := fun n r m' => m' = m0 ∧ ∃ l' g', r = [some (.tup [nD a.n, .tup (a.ss.map tD)]), some (nD l'), some (nD g'), some (.tup (a.ss.map tD))] ∧ l' ≤ a.ss.length ∧ g' < a.sz l' ∧ ownG a l' g' = ownG a l g ∧ n = a.ss.length - l'
theorem v_own_group : Body 4 t_own_group s_own_group := by
  rintro ds m Q ⟨a, l, g, rfl, ha, hl, hg, q⟩
  have hq := end_rt (m0 := m) q
  unfold t_own_group At.enc
  walk_at "d"
  unfold xWhile
  refine ⟨OwnW m a l g, ⟨_, rfl, l, g, rfl, hl, hg, rfl, rfl⟩, ?_⟩
  rintro n r m' ⟨rfl, l', g', rfl, hl', hg', eo, rfl⟩
  unfold nD
  walk_at "d"
  rw [List.length_map]
  by_cases h1 : l' < a.ss.length
  · have hst := ha.step h1
    have e1 : at_ (a.ss.map tD) (l' : Int) = some (tD (a.ss.getD l' [])) := by
      rw [at_nat, List.getElem?_map, List.getElem?_eq_getElem h1, List.getD_eq_getElem?_getD, List.getElem?_eq_getElem h1]; rfl
    have e2 : at_ ((a.ss.getD l' []).map nD) (g' : Int) = some (nD (stepG (a.ss.getD l' []) g')) := by
      rw [at_nat, List.getElem?_map, List.getElem?_eq_getElem (by rw [hst.1]; exact hg'), stepG_get (by rw [hst.1]; exact hg')]; rfl
    have h1' : (l' : Int) < (a.ss.length : Int) := by omega
    simp only [h1', decide_true, ↓reduceIte]
    refine ⟨_, e1, (a.ss.getD l' []).map fun k : Nat => (k : Int), tD_ints _, _, e1, ?_⟩
    unfold tD
    walk_at "d"
    refine ⟨_, e2, _, rfl, ?_⟩
    unfold nD
    walk_at "d"
    rw [count_cast]
    by_cases h2 : (a.ss.getD l' []).count (stepG (a.ss.getD l' []) g') = 1
    · have h2' : (((a.ss.getD l' []).count (stepG (a.ss.getD l' []) g') : Nat) : Int) = 1 := by omega
      simp only [h2', decide_true, ↓reduceIte]
      refine ⟨_, e1, ?_⟩
      unfold tD
      walk_at "d"
      refine ⟨_, e2, ?_⟩
      exact ⟨a.ss.length - (l' + 1), by omega, rfl, l' + 1, stepG (a.ss.getD l' []) g', rfl, h1, ha.lt h1 hg', by rw [← ownG_yes h1 h2]; exact eo, rfl⟩
    · have h2' : ¬ (((a.ss.getD l' []).count (stepG (a.ss.getD l' []) g') : Nat) : Int) = 1 := by omega
      simp only [h2', decide_false, Bool.false_eq_true, ↓reduceIte]
      rw [← eo, ownG_no (fun h => h2 h.2)] at hq
      exact ⟨by decide, hq⟩
  · have h1' : ¬ ((l' : Int) < (a.ss.length : Int)) := by omega
    simp only [h1', decide_false, Bool.false_eq_true, ↓reduceIte]
    rw [← eo, ownG_no (fun h => h1 h.1)] at hq
    exact ⟨by decide, hq⟩
def ownL (s : Sch) (r c : List Nat) : List Nat := (s.zip (r.zip c)).map fun p => (ownG p.1 p.2.1 p.2.2).1
def ownC (s : Sch) (r c : List Nat) : List Nat := (s.zip (r.zip c)).map fun p => (ownG p.1 p.2.1 p.2.2).2
def s_own_of : DSp := fun ds m Q => ∃ (s : Sch) (r c : List Nat), ds = [encS s, tD r, tD c] ∧ SchV s ∧ Roll s r ∧ Cell s r c ∧ Q (.tup [tD (ownL s r c), tD (ownC s r c)]) m
theorem l_own_of : ∀ ds m Q, s_own_of ds m Q → ds.length = 3 := by rintro ds m Q ⟨s, r, c, rfl, _⟩; rfl
def t_own_of : DS := (xSeq (xAsg (dLc (sZip3 (dVar 0) (dVar 1) (dVar 2)) [4, 5, 6] (gT 3 (gC (gV 4) (gC (gV 5) (gC (gV 6) gN)))) dYes (dCB s_own_group (dCons (dVar 4) (dCons (dVar 5) (dCons (dVar 6) dNil))))) (gV 3))
  (xRet (dTup (dCons (dCB aTuple (dCons (dLc (sSeq (dVar 3)) [5, 6] (gT 2 (gC (gV 5) (gC (gV 6) gN))) dYes (dVar 5)) dNil)) (dCons (dCB aTuple (dCons (dLc (sSeq (dVar 3)) [5, 6] (gT 2 (gC (gV 5) (gC (gV 6) gN))) dYes (dVar 6)) dNil)) dNil)))))
theorem zip3_mem {α β γ : Type} {as : List α} {bs : List β} {cs : List γ} {p : α × β × γ} (h : p ∈ as.zip (bs.zip cs)) : ∃ i : Nat, as[i]? = some p.1 ∧ bs[i]? = some p.2.1 ∧ cs[i]? = some p.2.2 := by
  obtain ⟨i, h1, h2⟩ := zip_mem h
  rw [List.getElem?_zip_eq_some] at h2
  exact ⟨i, h1, h2⟩
theorem v_own_of : Body 7 t_own_of s_own_of := by
  rintro ds m Q ⟨s, r, c, rfl, hs, hr, hc, q⟩
  have hq := end_rt (m0 := m) q
  have hl := hr.len; have h3 := hs.2.1; have hcl := hc.len hr
  unfold t_own_of encS tD
  walk_at "d"
  rw [zip3_map]
  have hz : ((s.zip (r.zip c)).map fun p => (p : At × Nat × Nat)).length ≤ sizeLine := small (k := 1000) (by rw [List.length_map, List.length_zip]; omega)
  rw [List.map_id'] at hz
  refine ⟨by rw [List.length_map]; exact hz, ?_⟩
  refine lcGo_maps (fun p : At × Nat × Nat => .tup [nD (ownG p.1 p.2.1 p.2.2).1, nD (ownG p.1 p.2.1 p.2.2).2]) _ [] _ (fun p hp K hK => ?_) ?_
  · obtain ⟨i, h1, h2, h4⟩ := zip3_mem hp
    walk_at "d"
    exact ⟨p.1, p.2.1, p.2.2, rfl, hs.2.2.1 _ (List.mem_of_getElem? h1), hr.at h1 h2, hc.at h1 h2 h4, hK⟩
  · rw [List.nil_append]
    refine ⟨_, .inl rfl, by rw [List.length_map]; exact hz, ?_⟩
    refine lcGo_maps (fun p : At × Nat × Nat => nD (ownG p.1 p.2.1 p.2.2).1) _ [] _ (fun p hp K hK => ?_) ?_
    · walk_at "d"
      exact hK
    · rw [List.nil_append]
      walk_at "d"
      refine ⟨_, .inl rfl, by rw [List.length_map]; exact hz, ?_⟩
      refine lcGo_maps (fun p : At × Nat × Nat => nD (ownG p.1 p.2.1 p.2.2).2) _ [] _ (fun p hp K hK => ?_) ?_
      · walk_at "d"
        exact hK
      · rw [List.nil_append]
        walk_at "d"
        refine ⟨by decide, ?_⟩
        have e1 : ((s.zip (r.zip c)).map fun p : At × Nat × Nat => nD (ownG p.1 p.2.1 p.2.2).1) = (ownL s r c).map nD := by unfold ownL; rw [List.map_map]; rfl
        have e2 : ((s.zip (r.zip c)).map fun p : At × Nat × Nat => nD (ownG p.1 p.2.1 p.2.2).2) = (ownC s r c).map nD := by unfold ownC; rw [List.map_map]; rfl
        rw [e1, e2]
        exact hq
def s_own_cell : DSp := fun ds m Q => ∃ (s : Sch) (r c : List Nat), ds = [encS s, tD r, tD c] ∧ SchV s ∧ Roll s r ∧ Cell s r c ∧ Q (.tup [tD (ownL s r c), tD (ownC s r c)]) m
theorem l_own_cell : ∀ ds m Q, s_own_cell ds m Q → ds.length = 3 := by rintro ds m Q ⟨s, r, c, rfl, _⟩; rfl
def t_own_cell : DS := (xSeq (xDrop (dCB s_need_scheme (dCons (dVar 0) dNil)))
  (xSeq (xDrop (dCB s_need_rollup (dCons (dVar 0) (dCons (dVar 1) dNil))))
  (xSeq (xDrop (dCB s_need_cell (dCons (dVar 0) (dCons (dVar 1) (dCons (dVar 2) dNil)))))
  (xRet (dCB s_own_of (dCons (dVar 0) (dCons (dVar 1) (dCons (dVar 2) dNil))))))))
theorem v_own_cell : Body 3 t_own_cell s_own_cell := by
  rintro ds m Q ⟨s, r, c, rfl, hs, hr, hc, q⟩
  unfold t_own_cell
  walk_at "d"
  exact ⟨s, rfl, hs, s, r, rfl, hs.2.1, hr, s, r, c, rfl, hs, hr, hc, s, r, c, rfl, hs, hr, hc, end_rt q⟩
end Mn

set_option linter.all false
set_option maxHeartbeats 4000000
set_option autoImplicit false
set_option maxRecDepth 100000
namespace Mn
open PySem L2
variable [Tbs]
local macro_rules | `(tactic| walk_at "d") => `(tactic| (try simp only [xNext, xSeq, xAsg, xRet, xRetF, xDrop, xIf, xPar, xPar3, xFrz, xPut, xAug, xFor, dVar, dC, dOp, dTest, dChain, dAndV, dOrV, dNotV, dAnd, dOr, dNot, dIf, dNil, dCons, dTup, dLst, dLstM, dCB, dIsi, dLc, dLcM, dYes, wipeD, dSlice, oSome, oNone, aSl_tup, aSl_lst, dNeg, dStar, dNewD, dTupVals, dCountL, dExtend, dAppend, dFrz, dLc2, dCountT, dIndexT, sqf_tup, sqf_lst, sqf_pair, sSeq, sSeq_tup, sSeq_lst, sRg1, sRg2, sZip2, sZip3, sZip4, sEnum, gV, gN, gC, gT, tupOf_tup, tupOf_pair, aAdd_int, aAdd_tup, aAdd_lst, aSub_int, aMul_int, aDiv_int, aMod_int, aPow_int, aCmp_int, aIx_tup, aIx_lst, aIx_scr, aIx_pair, aMax_int, aMin_int, aInt_bl, aInt_int, aLen_tup, aLen_lst, aLen_scr, aLen_pair, aTuple_lst, aTuple_tup, aEq_int, aNe_int, startD, List.map_cons, List.map_nil, List.length_cons, List.length_nil, List.cons_append, List.nil_append, List.replicate_zero, List.replicate_succ, List.append_nil, List.getElem?_cons_zero, List.getElem?_cons_succ, List.set_cons_zero, List.set_cons_succ, Option.some.injEq, exists_eq_left', exists_eq_left, exists_eq', D.int.injEq, D.bl.injEq, D.tup.injEq, D.lst.injEq, D.pair.injEq, D.ref.injEq, List.cons.injEq, Nat.sub_self, Nat.zero_add, Nat.add_sub_cancel, seqI_tup, seqI_lst, seqOf_tup, seqOf_lst, tyN_tup, tyN_lst, tyN_int, tyN_bl, tyN_str, tyN_non, isi_tt, at_0, at_1, at_2, at_3, Option.map_some, true_and, and_true, if_true, Bool.false_eq_true, if_false, Bool.not_true, Bool.not_false, ↓reduceIte, Nat.reduceAdd, Nat.reduceSub, exists_and_left, and_assoc]))
/-! the law's own view: rows of groups, value by value -/
def rowN (a : At) (l : Nat) : List Nat := (List.range a.n).map fun v => a.up v 0 l
def rowsN (a : At) : List (List Nat) := (List.range (a.ss.length + 1)).map (rowN a)
def lD (l : List Nat) : D := .lst (l.map nD)
def s_law_rows : DSp := fun ds m Q => ∃ a : At, ds = [a.enc] ∧ a.V ∧ Q (.lst ((rowsN a).map lD)) m
theorem l_law_rows : ∀ ds m Q, s_law_rows ds m Q → ds.length = 1 := by rintro ds m Q ⟨a, rfl, _⟩; rfl
def t_law_rows : DS := (xSeq (xAsg (dLstM (dCons (dListRg (dOp aIx (dVar 0) (dC (.int 0)))) dNil)) (gV 1))
  (xSeq (xFor (sSeq (dOp aIx (dVar 0) (dC (.int 1)))) (gV 2) (xDrop (dAppend (dVar 1) (dLc (sSeq (dOp aIx (dVar 1) (dNeg (dC (.int 1))))) [3] (gV 3) dYes (dOp aIx (dVar 2) (dVar 3))))))
  (xRetF 1)))
theorem rowN_zero (a : At) : rowN a 0 = List.range a.n := by
  unfold rowN
  have : ∀ v ∈ List.range a.n, a.up v 0 0 = id v := fun v _ => up_same_ a v 0
  rw [List.map_congr_left this, List.map_id]
theorem at_last (ds : List D) (d : D) : at_ (ds ++ [d]) (-1) = some d := by
  unfold at_
  rw [if_neg (by decide), if_pos (by rw [List.length_append, List.length_singleton]; omega), List.length_append, List.length_singleton]
  rw [show (-1 + ((ds.length + 1 : Nat) : Int)).toNat = ds.length by omega, List.getElem?_append_right (Nat.le_refl _), Nat.sub_self]
  rfl
theorem er_back {m : Mu} {p : Addr} {o : MO} (h : m p = none) : er (up m p o) p = m := er_up h
theorem v_law_rows : Body 4 t_law_rows s_law_rows := by
  rintro ds m Q ⟨a, rfl, ha, q⟩
  have hq := end_rt (m0 := m) q
  have h6 := ha.2.1; have h3 := ha.2.2.1
  unfold t_law_rows At.enc dListRg nD
  walk_at "d"
  refine ⟨by omega, by omega, by decide, fun p hp => ?_⟩
  rw [rgD_nat]
  refine ⟨_, .inr rfl, ?_⟩
  refine forGo_take (enc := tD) (fun pre rr m' => ∃ x2 x3, rr = [some a.enc, some (.ref p), x2, x3] ∧ m' = up m p (.lst (((List.range (pre.length + 1)).map (rowN a)).map lD))) a.ss [] _ _ _ rfl ⟨none, none, rfl, ?_⟩ ?_ ?_
  · rw [List.length_nil, Nat.zero_add, show List.range 1 = [0] from rfl, List.map_cons, List.map_nil, List.map_cons, List.map_nil, rowN_zero]; rfl
  · rintro pre st post rr m' P e ⟨x2, x3, rfl, rfl⟩ hP
    have hpl : pre.length < a.ss.length := by have := congrArg List.length e; rw [List.length_append, List.length_cons] at this; omega
    have hst : st = a.ss.getD pre.length [] := by
      rw [List.getD_eq_getElem?_getD, e, List.getElem?_append_right (Nat.le_refl _), Nat.sub_self]; rfl
    have hs := ha.step hpl
    have hlast : ((List.range (pre.length + 1)).map (rowN a)).map lD = (((List.range pre.length).map (rowN a)).map lD) ++ [lD (rowN a pre.length)] := by
      rw [List.range_succ, List.map_append, List.map_append]; rfl
    walk_at "d"
    refine ⟨_, up_same, ?_⟩
    simp only [aIx_ref up_same]
    refine ⟨lD (rowN a pre.length), by rw [hlast]; exact at_last _ _, _, .inl rfl, small (k := 1000) (by rw [List.length_map]; unfold rowN; rw [List.length_map, List.length_range]; omega), ?_⟩
    refine lcGo_maps (fun g => nD (stepG st g)) (rowN a pre.length) [] _ (fun g hg K hK => ?_) ?_
    · obtain ⟨v, hv, rfl⟩ := List.mem_map.mp hg
      have hlt : a.up v 0 pre.length < a.sz pre.length := ha.up_lt (List.mem_range.mp hv) (Nat.zero_le _) (by omega)
      unfold tD nD
      walk_at "d"
      refine ⟨_, ?_, hK⟩
      rw [at_nat, List.getElem?_map, List.getElem?_eq_getElem (by rw [hst, hs.1]; exact hlt), stepG_get (by rw [hst, hs.1]; exact hlt)]
      rfl
    · rw [List.nil_append]
      refine ⟨_, up_same, small' (k := 1000) (by rw [List.length_map, List.length_map, List.length_range]; omega), ?_⟩
      rw [up_up]
      refine hP _ _ ⟨_, _, rfl, ?_⟩
      have erow : ((rowN a pre.length).map fun g => nD (stepG st g)) = (rowN a (pre.length + 1)).map nD := by
        unfold rowN
        rw [List.map_map, List.map_map]
        refine List.map_congr_left fun v _ => ?_
        simp only [Function.comp]
        rw [up_succ (Nat.zero_le _) hpl, ← hst]
      have e2 : ((List.range (pre.length + 1 + 1)).map (rowN a)).map lD = ((List.range (pre.length + 1)).map (rowN a)).map lD ++ [lD (rowN a (pre.length + 1))] := by
        rw [List.range_succ (n := pre.length + 1), List.map_append, List.map_append]; rfl
      rw [List.length_append, List.length_singleton, e2, erow]
      rfl
  · rintro rr m' ⟨x2, x3, rfl, rfl⟩
    walk_at "d"
    refine ⟨_, up_same, ?_⟩
    rw [er_back hp]
    exact hq
def s_law_tuples3 : DSp := fun ds m Q => ∃ ns : List Nat, ds = [.lst (ns.map nD)] ∧ ns.length ≤ 3 ∧ (∀ k ∈ ns, k ≤ 6) ∧ Q (.lst ((cellsN ns).map tD)) m
def s_law_tuples8 : DSp := fun ds m Q => ∃ ns : List Nat, ds = [.lst (ns.map nD)] ∧ ns.length ≤ 8 ∧ (∀ k ∈ ns, k ≤ 2) ∧ Q (.lst ((cellsN ns).map tD)) m
def s_law_tuples : DSp := fun ds m Q => s_law_tuples3 ds m Q ∨ s_law_tuples8 ds m Q
theorem l_law_tuples : ∀ ds m Q, s_law_tuples ds m Q → ds.length = 1 := by rintro ds m Q (⟨ns, rfl, _⟩ | ⟨ns, rfl, _⟩) <;> rfl
def t_law_tuples : DS := (xSeq (xAsg (dLst (dCons (dTup dNil) dNil)) (gV 1))
  (xSeq (xFor (sSeq (dVar 0)) (gV 2) (xSeq (xAsg (dLstM dNil) (gV 3))
  (xSeq (xFor (sSeq (dVar 1)) (gV 4) (xDrop (dExtend (dVar 3) (dLc (sRg1 (dVar 2)) [5] (gV 5) dYes (dOp aAdd (dVar 4) (dTup (dCons (dVar 5) dNil)))))))
  (xAsg (dFrz 3) (gV 1)))))
  (xRet (dVar 1))))
theorem prodN_le2 (ns : List Nat) (h : ns.length ≤ 8) (hk : ∀ k ∈ ns, k ≤ 2) : prodN ns ≤ 256 := by
  have key : ∀ ns : List Nat, (∀ k ∈ ns, k ≤ 2) → ∀ a, ns.foldl (· * ·) a ≤ a * 2 ^ ns.length := fun ns => by
    induction ns with
    | nil => intro _ a; simp
    | cons k ns ih =>
      intro hk a
      rw [List.foldl_cons, List.length_cons, Nat.pow_succ]
      refine Nat.le_trans (ih (fun x hx => hk x (List.mem_cons_of_mem _ hx)) (a * k)) ?_
      rw [Nat.mul_comm (2 ^ ns.length), ← Nat.mul_assoc]
      exact Nat.mul_le_mul_right _ (Nat.mul_le_mul_left _ (hk k List.mem_cons_self))
  refine Nat.le_trans (key ns hk 1) ?_
  rw [Nat.one_mul]
  exact Nat.pow_le_pow_right (n := 2) (by decide) h
theorem v_law_tuples3 : Body 6 t_law_tuples s_law_tuples3 := by
  rintro ds m Q ⟨ns, rfl, hl, hk, q⟩
  have hq := end_rt (m0 := m) q
  unfold t_law_tuples
  walk_at "d"
  refine ⟨by decide, by decide, _, .inl rfl, ?_⟩
  refine forGo_take (enc := nD) (fun pre r m' => m' = m ∧ ∃ x2 x3 x4 x5, r = [some (.lst (ns.map nD)), some (.lst ((cellsN pre).map tD)), x2, x3, x4, x5]) ns [] _ _ _ rfl ⟨rfl, none, none, none, none, rfl⟩ ?_ ?_
  · rintro pre k post r m' P e ⟨rfl, x2, x3, x4, x5, rfl⟩ hP
    unfold nD
    walk_at "d"
    have hk6 : k ≤ 6 := hk k (by rw [e]; simp)
    have hp3 : pre.length < 3 := by have := congrArg List.length e; rw [List.length_append, List.length_cons] at this; omega
    have hpp : prodN pre ≤ 216 := prodN_le pre (by omega) fun x hx => hk x (by rw [e]; simp [hx])
    refine ⟨by decide, fun p hp => ⟨_, .inl rfl, ?_⟩⟩
    refine forGo_take (enc := tD) (fun done r2 m2 => m2 = up m' p (.lst ((done.flatMap fun row => (List.range k).map fun j => row ++ [j]).map tD)) ∧ ∃ x4 x5, r2 = [some (.lst (ns.map nD)), some (.lst ((cellsN pre).map tD)), some (nD k), some (.ref p), x4, x5]) (cellsN pre) [] _ _ _ rfl ⟨rfl, x4, x5, rfl⟩ ?_ ?_
    · rintro done row post2 r2 m2 P2 e2 ⟨rfl, y4, y5, rfl⟩ hP2
      unfold nD
      walk_at "d"
      have hrow : row ∈ cellsN pre := by rw [e2]; simp
      have hrl := cells_item hrow
      have hdl : done.length ≤ 216 := by
        have := congrArg List.length e2
        rw [cellsN_len, List.length_append] at this
        omega
      refine ⟨_, up_same, by omega, by omega, ?_⟩
      rw [rgD_map]
      refine ⟨small (k := 1000) (by rw [List.length_map, List.length_range]; omega), ?_⟩
      refine lcGo_maps (fun j : Nat => tD (row ++ [j])) (List.range k) [] _ (fun j hj K hK => ?_) ?_
      · unfold tD at hK ⊢
        walk_at "d"
        refine ⟨by decide, small (k := 1000) (by rw [List.length_map]; omega), ?_⟩
        rw [List.map_append] at hK
        exact hK
      · rw [List.nil_append]
        refine ⟨_, up_same, _, rfl, ?_, ?_⟩
        · rw [List.length_map, List.length_map, List.length_range, cellsN_length_step, sizeLine_eq]
          have := Nat.mul_le_mul hdl hk6
          omega
        · rw [up_up]
          refine hP2 _ _ ⟨?_, _, _, rfl⟩
          rw [List.flatMap_append, List.map_append, List.flatMap_cons, List.flatMap_nil, List.append_nil, List.map_map]
          rfl
    · rintro r2 m2 ⟨rfl, y4, y5, rfl⟩
      walk_at "d"
      refine ⟨_, up_same, ?_⟩
      rw [er_back hp, ← cellsN_snoc]
      exact hP _ _ ⟨rfl, _, _, _, _, rfl⟩
  · rintro r m' ⟨rfl, x2, x3, x4, x5, rfl⟩
    walk_at "d"
    exact hq
theorem v_law_tuples8 : Body 6 t_law_tuples s_law_tuples8 := by
  rintro ds m Q ⟨ns, rfl, hl, hk, q⟩
  have hq := end_rt (m0 := m) q
  unfold t_law_tuples
  walk_at "d"
  refine ⟨by decide, by decide, _, .inl rfl, ?_⟩
  refine forGo_take (enc := nD) (fun pre r m' => m' = m ∧ ∃ x2 x3 x4 x5, r = [some (.lst (ns.map nD)), some (.lst ((cellsN pre).map tD)), x2, x3, x4, x5]) ns [] _ _ _ rfl ⟨rfl, none, none, none, none, rfl⟩ ?_ ?_
  · rintro pre k post r m' P e ⟨rfl, x2, x3, x4, x5, rfl⟩ hP
    unfold nD
    walk_at "d"
    have hk6 : k ≤ 2 := hk k (by rw [e]; simp)
    have hp3 : pre.length < 8 := by have := congrArg List.length e; rw [List.length_append, List.length_cons] at this; omega
    have hpp : prodN pre ≤ 256 := prodN_le2 pre (by omega) fun x hx => hk x (by rw [e]; simp [hx])
    refine ⟨by decide, fun p hp => ⟨_, .inl rfl, ?_⟩⟩
    refine forGo_take (enc := tD) (fun done r2 m2 => m2 = up m' p (.lst ((done.flatMap fun row => (List.range k).map fun j => row ++ [j]).map tD)) ∧ ∃ x4 x5, r2 = [some (.lst (ns.map nD)), some (.lst ((cellsN pre).map tD)), some (nD k), some (.ref p), x4, x5]) (cellsN pre) [] _ _ _ rfl ⟨rfl, x4, x5, rfl⟩ ?_ ?_
    · rintro done row post2 r2 m2 P2 e2 ⟨rfl, y4, y5, rfl⟩ hP2
      unfold nD
      walk_at "d"
      have hrow : row ∈ cellsN pre := by rw [e2]; simp
      have hrl := cells_item hrow
      have hdl : done.length ≤ 256 := by
        have := congrArg List.length e2
        rw [cellsN_len, List.length_append] at this
        omega
      refine ⟨_, up_same, by omega, by omega, ?_⟩
      rw [rgD_map]
      refine ⟨small (k := 1000) (by rw [List.length_map, List.length_range]; omega), ?_⟩
      refine lcGo_maps (fun j : Nat => tD (row ++ [j])) (List.range k) [] _ (fun j hj K hK => ?_) ?_
      · unfold tD at hK ⊢
        walk_at "d"
        refine ⟨by decide, small (k := 1000) (by rw [List.length_map]; omega), ?_⟩
        rw [List.map_append] at hK
        exact hK
      · rw [List.nil_append]
        refine ⟨_, up_same, _, rfl, ?_, ?_⟩
        · rw [List.length_map, List.length_map, List.length_range, cellsN_length_step, sizeLine_eq]
          have := Nat.mul_le_mul hdl hk6
          omega
        · rw [up_up]
          refine hP2 _ _ ⟨?_, _, _, rfl⟩
          rw [List.flatMap_append, List.map_append, List.flatMap_cons, List.flatMap_nil, List.append_nil, List.map_map]
          rfl
    · rintro r2 m2 ⟨rfl, y4, y5, rfl⟩
      walk_at "d"
      refine ⟨_, up_same, ?_⟩
      rw [er_back hp, ← cellsN_snoc]
      exact hP _ _ ⟨rfl, _, _, _, _, rfl⟩
  · rintro r m' ⟨rfl, x2, x3, x4, x5, rfl⟩
    walk_at "d"
    exact hq
theorem v_law_tuples : Body 6 t_law_tuples s_law_tuples := by
  rintro ds m Q (h | h)
  · exact v_law_tuples3 ds m Q h
  · exact v_law_tuples8 ds m Q h
theorem rowsN_at {a : At} {l : Nat} (h : l ≤ a.ss.length) : (rowsN a)[l]? = some (rowN a l) := by
  unfold rowsN
  rw [List.getElem?_map, List.getElem?_range (by omega)]; rfl
def grps (s : Sch) (r : List Nat) : List (List Nat) := List.zipWith rowN s r
def s_law_groups : DSp := fun ds m Q => ∃ (s : Sch) (r : List Nat), ds = [encS s, tD r] ∧ SchV s ∧ Roll s r ∧ Q (.lst ((grps s r).map lD)) m
theorem l_law_groups : ∀ ds m Q, s_law_groups ds m Q → ds.length = 2 := by rintro ds m Q ⟨s, r, rfl, _⟩; rfl
def t_law_groups : DS := (xRet (dLc (sZip2 (dVar 0) (dVar 1)) [2, 3] (gT 2 (gC (gV 2) (gC (gV 3) gN))) dYes (dOp aIx (dCB s_law_rows (dCons (dVar 2) dNil)) (dVar 3))))
theorem v_law_groups : Body 4 t_law_groups s_law_groups := by
  rintro ds m Q ⟨s, r, rfl, hs, hr, q⟩
  have hq := end_rt (m0 := m) q
  have hl := hr.len; have h3 := hs.2.1
  unfold t_law_groups encS tD
  walk_at "d"
  rw [zip2_map]
  refine ⟨small (k := 1000) (by rw [List.length_map, List.length_zip]; omega), ?_⟩
  refine lcGo_maps (fun p : At × Nat => lD (rowN p.1 p.2)) _ [] _ (fun p hp K hK => ?_) ?_
  · obtain ⟨i, h1, h2⟩ := zip_mem hp
    unfold nD
    walk_at "d"
    refine ⟨p.1, rfl, hs.2.2.1 _ (List.mem_of_getElem? h1), ?_⟩
    walk_at "d"
    refine ⟨_, ?_, hK⟩
    rw [at_nat, List.getElem?_map, rowsN_at (hr.at h1 h2)]; rfl
  · rw [List.nil_append]
    have e : ((s.zip r).map fun p : At × Nat => lD (rowN p.1 p.2)) = (grps s r).map lD := by unfold grps; rw [zipWith_zip, List.map_map]; rfl
    rw [e]
    exact hq
theorem aMax_lD {l : List Nat} {m : Mu} {Q : DK} (h : l ≠ []) (q : Q (nD (maxN l)) m) : aMax [lD l] m Q := by
  cases l with
  | nil => exact absurd rfl h
  | cons n r =>
    unfold lD
    simp only [aMax]
    refine ⟨(n : Int), r.map fun k : Nat => (k : Int), ?_, ?_⟩
    · first | rfl | (simp only [List.map_cons, List.map_map, nD]; rfl)
    · have e := maxI_nat (n :: r) (by simp)
      simp only [List.map_cons, maxI] at e
      rw [e]
      exact q
theorem row_max {a : At} (ha : a.V) {l : Nat} (hl : l ≤ a.ss.length) : maxN (rowN a l) + 1 = a.sz l := by
  have hz := ha.sz_le hl
  have h1 : maxN (rowN a l) ≤ a.sz l - 1 := maxN_le fun x hx => by
    obtain ⟨v, hv, rfl⟩ := List.mem_map.mp hx
    have := ha.up_lt (g := v) (lo := 0) (List.mem_range.mp hv) (Nat.zero_le _) hl
    omega
  obtain ⟨x, hx, ex⟩ := ha.up_surj (lo := 0) (Nat.zero_le _) hl (show a.sz l - 1 < a.sz l by omega)
  have h2 : a.sz l - 1 ≤ maxN (rowN a l) := le_maxN (List.mem_map.mpr ⟨x, List.mem_range.mpr hx, ex⟩)
  omega
def s_law_all_cells : DSp := fun ds m Q => ∃ (s : Sch) (r : List Nat), ds = [encS s, tD r] ∧ SchV s ∧ Roll s r ∧ Q (.lst ((cellsOf s r).map tD)) m
theorem l_law_all_cells : ∀ ds m Q, s_law_all_cells ds m Q → ds.length = 2 := by rintro ds m Q ⟨s, r, rfl, _⟩; rfl
def t_law_all_cells : DS := (xRet (dCB s_law_tuples (dCons (dLc (sSeq (dCB s_law_groups (dCons (dVar 0) (dCons (dVar 1) dNil)))) [2] (gV 2) dYes (dOp aAdd (dC (.int 1)) (dCB aMax (dCons (dVar 2) dNil)))) dNil)))
theorem v_law_all_cells : Body 3 t_law_all_cells s_law_all_cells := by
  rintro ds m Q ⟨s, r, rfl, hs, hr, q⟩
  have hl := hr.len; have h3 := hs.2.1
  unfold t_law_all_cells
  walk_at "d"
  refine ⟨s, r, rfl, hs, hr, ?_⟩
  refine ⟨_, .inl rfl, small (k := 1000) (by rw [List.length_map]; unfold grps; rw [List.length_zipWith]; omega), ?_⟩
  have hg : ∀ row ∈ grps s r, ∃ a l, a.V ∧ l ≤ a.ss.length ∧ row = rowN a l := fun row hrow => by
    unfold grps at hrow
    rw [zipWith_zip] at hrow
    obtain ⟨p, hp, rfl⟩ := List.mem_map.mp hrow
    obtain ⟨i, h1, h2⟩ := zip_mem hp
    exact ⟨p.1, p.2, hs.2.2.1 _ (List.mem_of_getElem? h1), hr.at h1 h2, rfl⟩
  refine lcGo_maps (fun row : List Nat => nD (maxN row + 1)) (grps s r) [] _ (fun row hrow K hK => ?_) ?_
  · obtain ⟨a, l, ha, hla, rfl⟩ := hg row hrow
    walk_at "d"
    refine aMax_lD ?_ ?_
    · intro e
      have := congrArg List.length e
      unfold rowN at this
      rw [List.length_map, List.length_range, List.length_nil] at this
      have := ha.1
      omega
    · unfold nD at hK ⊢
      walk_at "d"
      rw [show (1 : Int) + (maxN (rowN a l) : Int) = ((maxN (rowN a l) + 1 : Nat) : Int) by omega]
      exact hK
  · rw [List.nil_append]
    have e : ((grps s r).map fun row : List Nat => nD (maxN row + 1)) = (szs s r).map nD := by
      unfold grps szs
      rw [zipWith_zip, zipWith_zip, List.map_map, List.map_map]
      refine List.map_congr_left fun p hp => ?_
      obtain ⟨i, h1, h2⟩ := zip_mem hp
      simp only [Function.comp]
      rw [row_max (hs.2.2.1 _ (List.mem_of_getElem? h1)) (hr.at h1 h2)]
    rw [e]
    exact .inl ⟨szs s r, rfl, by rw [szs_len hr]; exact h3, fun k hk => (szs_le hs hr k hk).2, end_rt q⟩
end Mn

set_option linter.all false
set_option maxHeartbeats 4000000
set_option autoImplicit false
set_option maxRecDepth 100000
namespace Mn
open PySem L2
variable [Tbs]
local macro_rules | `(tactic| walk_at "d") => `(tactic| (try simp only [xNext, xSeq, xAsg, xRet, xRetF, xDrop, xIf, xPar, xPut, xAug, xFor, dVar, dC, dOp, dTest, dChain, dAndV, dOrV, dNotV, dAnd, dOr, dNot, dIf, dNil, dCons, dTup, dLst, dLstM, dCB, dIsi, dLc, dLcM, dYes, wipeD, sSeq, sSeq_tup, sSeq_lst, sRg1, sRg2, sZip2, sZip3, sEnum, gV, gN, gC, gT, tupOf_tup, tupOf_pair, aAdd_int, aAdd_tup, aAdd_lst, aSub_int, aMul_int, aDiv_int, aMod_int, aPow_int, aCmp_int, aIx_tup, aIx_lst, aIx_scr, aIx_pair, aMax_int, aMin_int, aInt_bl, aInt_int, aLen_tup, aLen_lst, aLen_scr, aLen_pair, aTuple_lst, aTuple_tup, aEq_int, aNe_int, startD, List.map_cons, List.map_nil, List.length_cons, List.length_nil, List.cons_append, List.nil_append, List.replicate_zero, List.replicate_succ, List.append_nil, List.getElem?_cons_zero, List.getElem?_cons_succ, List.set_cons_zero, List.set_cons_succ, Option.some.injEq, exists_eq_left', exists_eq_left, exists_eq', D.int.injEq, D.bl.injEq, D.tup.injEq, D.lst.injEq, D.pair.injEq, D.ref.injEq, List.cons.injEq, Nat.sub_self, Nat.zero_add, Nat.add_sub_cancel, seqI_tup, seqI_lst, seqOf_tup, seqOf_lst, tyN_tup, tyN_lst, tyN_int, tyN_bl, tyN_str, tyN_non, isi_tt, at_0, at_1, at_2, at_3, Option.map_some, true_and, and_true, if_true, Bool.false_eq_true, if_false, Bool.not_true, Bool.not_false, ↓reduceIte, Nat.reduceAdd, Nat.reduceSub, exists_and_left, and_assoc]))
theorem prodN_snoc (l : List Nat) (a : Nat) : prodN (l ++ [a]) = prodN l * a := by unfold prodN; rw [List.foldl_append]; rfl
def mss : List (List Nat) := [[6], [6, 6], [4, 6], [3, 3, 3], [6, 3, 3], [2, 4, 4], [6, 5, 2]]
theorem mss_ok : ∀ ms ∈ mss, 1 ≤ ms.length ∧ ms.length ≤ 3 ∧ prodN ms ≤ 60 ∧ ∀ k ∈ ms, 1 ≤ k ∧ k ≤ 6 := by decide
def s_law_scheme : DSp := fun ds m Q => ∃ (p : Addr) (n : Nat), ds = [.ref p] ∧ Pen m p n ∧ n ≤ 800000000 ∧ ∀ s m', SchV s → PenU m p (n + 400) m' → Q (encS s) m'
theorem l_law_scheme : ∀ ds m Q, s_law_scheme ds m Q → ds.length = 1 := by rintro ds m Q ⟨s, n, rfl, _⟩; rfl
def t_law_scheme : DS := (xSeq (xAsg (dCB s_law_pick (dCons (dVar 0) (dCons (dLst (dCons (dLst (dCons (dC (.int 6)) dNil)) (dCons (dLst (dCons (dC (.int 6)) (dCons (dC (.int 6)) dNil))) (dCons (dLst (dCons (dC (.int 4)) (dCons (dC (.int 6)) dNil))) (dCons (dLst (dCons (dC (.int 3)) (dCons (dC (.int 3)) (dCons (dC (.int 3)) dNil)))) (dCons (dLst (dCons (dC (.int 6)) (dCons (dC (.int 3)) (dCons (dC (.int 3)) dNil)))) (dCons (dLst (dCons (dC (.int 2)) (dCons (dC (.int 4)) (dCons (dC (.int 4)) dNil)))) (dCons (dLst (dCons (dC (.int 6)) (dCons (dC (.int 5)) (dCons (dC (.int 2)) dNil)))) dNil)))))))) dNil))) (gV 1))
  (xRet (dCB aTuple (dCons (dLc (sSeq (dVar 1)) [2] (gV 2) dYes (dCB s_law_attribute (dCons (dVar 0) (dCons (dVar 2) dNil)))) dNil))))
theorem v_law_scheme : Body 3 t_law_scheme s_law_scheme := by
  rintro ds m Q ⟨p, n, rfl, hp, hn, q⟩
  unfold t_law_scheme
  walk_at "d"
  refine ⟨by decide, by decide, by decide, by decide, by decide, by decide, by decide, by decide, p, _, _, n, rfl, Or.inl rfl, hp, by omega, by decide, by decide, fun d m1 hd hu1 => ?_⟩
  have hd' : d ∈ mss.map fun ms => D.lst (ms.map nD) := hd
  obtain ⟨ms, hms, rfl⟩ := List.mem_map.mp hd'
  obtain ⟨k1, k2, k3, k4⟩ := mss_ok ms hms
  walk_at "d"
  refine ⟨_, .inl rfl, by rw [List.length_map]; exact small (k := 1000) (by omega), ?_⟩
  refine lcGo_inv (fun i acc m' => ∃ s : Sch, acc = s.map At.enc ∧ s.length = i ∧ (∀ a ∈ s, a.V) ∧ prodN (s.map At.n) ≤ prodN (ms.take i) ∧ PenU m p (n + 1 + 100 * i) m') _ [] m1 0 ⟨[], rfl, rfl, (fun _ h => nomatch h), Nat.le_refl _, hu1⟩ ?_ ?_
  · rintro i x acc m5 P5 hx ⟨s, rfl, hks, hV, hpr, hu5⟩ hP5
    rw [List.getElem?_map] at hx
    obtain ⟨k, hk, rfl⟩ := Option.map_eq_some_iff.mp hx
    have hki := k4 k (List.mem_of_getElem? hk)
    have hi : i < ms.length := (List.getElem?_eq_some_iff.mp hk).1
    walk_at "d"
    refine ⟨p, k, _, rfl, hu5.pen, by omega, hki.1, hki.2, fun a m6 ha hak hu6 => ?_⟩
    refine hP5 _ _ ⟨s ++ [a], by rw [List.map_append]; rfl, by rw [List.length_append, List.length_singleton, hks], fun b hb => ?_, ?_, (hu5.trans hu6).mono (by omega)⟩
    · rcases List.mem_append.mp hb with hb | hb
      · exact hV b hb
      · rw [List.mem_singleton.mp hb]; exact ha
    · rw [List.map_append, List.map_singleton, prodN_snoc, Nat.zero_add, List.take_add_one, hk, Option.toList_some, prodN_snoc]
      rw [Nat.zero_add] at hpr
      exact Nat.mul_le_mul hpr hak
  · rintro acc m5 ⟨s, rfl, hks, hV, hpr, hu5⟩
    rw [List.length_map] at hks hu5 hpr
    walk_at "d"
    rw [Nat.zero_add, List.take_length] at hpr
    exact ⟨_, fun _ _ e => e, q s _ ⟨by omega, by omega, hV, by omega⟩ (hu5.mono (by omega))⟩
def s_law_rollup : DSp := fun ds m Q => ∃ (p : Addr) (s : Sch) (n : Nat), ds = [.ref p, encS s] ∧ SchV s ∧ Pen m p n ∧ n ≤ 900000000 ∧ ∀ l m', Roll s l → PenU m p (n + 3) m' → Q (tD l) m'
theorem l_law_rollup : ∀ ds m Q, s_law_rollup ds m Q → ds.length = 2 := by rintro ds m Q ⟨s, d, n, rfl, _⟩; rfl
def t_law_rollup : DS := (xRet (dCB aTuple (dCons (dLc (sSeq (dVar 1)) [2] (gV 2) dYes (dCB s_law_draw (dCons (dVar 0) (dCons (dOp aAdd (dCB aLen (dCons (dOp aIx (dVar 2) (dC (.int 1))) dNil)) (dC (.int 1))) dNil)))) dNil)))
theorem roll_of {s : Sch} {l : List Nat} (hl : l.length = s.length) (h : ∀ (i : Nat) (a : At) (k : Nat), s[i]? = some a → l[i]? = some k → k ≤ a.ss.length) : Roll s l := by
  simp only [Roll, tD, isRoll, Bool.and_eq_true, decide_eq_true_eq, List.length_map]
  refine ⟨hl, ?_⟩
  rw [List.all_eq_true]
  intro b hb
  obtain ⟨i, hi, rfl⟩ := List.mem_iff_getElem.mp hb
  rw [List.length_zipWith, List.length_map] at hi
  rw [List.getElem_zipWith, List.getElem_map]
  have := h i s[i] l[i] (List.getElem?_eq_getElem (by omega)) (List.getElem?_eq_getElem (by omega))
  simp only [betw, nD, id, Bool.and_eq_true, decide_eq_true_eq]
  omega
theorem v_law_rollup : Body 3 t_law_rollup s_law_rollup := by
  rintro ds m Q ⟨p, s, n, rfl, hs, hp, hn, q⟩
  unfold t_law_rollup encS
  have hsl := hs.2.1
  walk_at "d"
  refine ⟨_, .inr rfl, by rw [List.length_map]; exact small (k := 1000) (by omega), ?_⟩
  refine lcGo_inv (fun i acc m' => ∃ l : List Nat, acc = l.map nD ∧ l.length = i ∧ (∀ (j : Nat) (a : At) (k : Nat), s[j]? = some a → l[j]? = some k → k ≤ a.ss.length) ∧ PenU m p (n + i) m') _ [] m 0 ⟨[], rfl, rfl, by simp, hp.u⟩ ?_ ?_
  · rintro i x acc m5 P5 hx ⟨l, rfl, hks, hV, hu5⟩ hP5
    rw [List.getElem?_map] at hx
    obtain ⟨a, ha, rfl⟩ := Option.map_eq_some_iff.mp hx
    have haV := hs.2.2.1 a (List.mem_of_getElem? ha)
    have hi := (List.getElem?_eq_some_iff.mp ha).1
    unfold At.enc
    walk_at "d"
    rw [List.length_map]
    refine ⟨p, a.ss.length + 1, _, rfl, hu5.pen, by omega, by omega, by have := haV.2.2.1; omega, fun r6 m6 hr6 hu6 => ?_⟩
    refine hP5 _ _ ⟨l ++ [r6], by rw [List.map_append]; rfl, by rw [List.length_append, List.length_singleton, hks], fun j b k hb hk => ?_, (hu5.trans hu6).mono (by omega)⟩
    by_cases hj : j < l.length
    · rw [List.getElem?_append_left hj] at hk
      exact hV j b k hb hk
    · rw [List.getElem?_append_right (by omega)] at hk
      have hj2 : j = i := by
        have := (List.getElem?_eq_some_iff.mp hk).1
        rw [List.length_singleton] at this
        omega
      subst hj2
      rw [ha] at hb
      cases hb
      rw [show j - l.length = 0 by omega] at hk
      cases hk
      omega
  · rintro acc m5 ⟨l, rfl, hks, hV, hu5⟩
    rw [List.length_map] at hks hu5
    walk_at "d"
    exact ⟨_, fun _ _ e => e, q l _ (roll_of (by omega) hV) (hu5.mono (by omega))⟩
end Mn

set_option linter.all false
set_option maxHeartbeats 4000000
set_option autoImplicit false
set_option maxRecDepth 100000
namespace Mn
open PySem L2
variable [Tbs]
local macro_rules | `(tactic| walk_at "d") => `(tactic| (try simp only [xNext, xSeq, xAsg, xRet, xRetF, xDrop, xIf, xPar, xPar3, xFrz, xPut, xAug, xFor, dVar, dC, dOp, dTest, dChain, dAndV, dOrV, dNotV, dAnd, dOr, dNot, dIf, dNil, dCons, dTup, dLst, dLstM, dCB, dIsi, dLc, dLcM, dYes, wipeD, dSlice, oSome, oNone, aSl_tup, aSl_lst, dNeg, dStar, dNewD, dTupVals, dCountL, dExtend, dAppend, dFrz, dLc2, dCountT, dIndexT, sqf_tup, sqf_lst, sqf_pair, sSeq, sSeq_tup, sSeq_lst, sRg1, sRg2, sZip2, sZip3, sZip4, sEnum, gV, gN, gC, gT, tupOf_tup, tupOf_pair, aAdd_int, aAdd_tup, aAdd_lst, aSub_int, aMul_int, aDiv_int, aMod_int, aPow_int, aCmp_int, aIx_tup, aIx_lst, aIx_scr, aIx_pair, aMax_int, aMin_int, aInt_bl, aInt_int, aLen_tup, aLen_lst, aLen_scr, aLen_pair, aTuple_lst, aTuple_tup, aEq_int, aNe_int, startD, List.map_cons, List.map_nil, List.length_cons, List.length_nil, List.cons_append, List.nil_append, List.replicate_zero, List.replicate_succ, List.append_nil, List.getElem?_cons_zero, List.getElem?_cons_succ, List.set_cons_zero, List.set_cons_succ, Option.some.injEq, exists_eq_left', exists_eq_left, exists_eq', D.int.injEq, D.bl.injEq, D.tup.injEq, D.lst.injEq, D.pair.injEq, D.ref.injEq, List.cons.injEq, Nat.sub_self, Nat.zero_add, Nat.add_sub_cancel, seqI_tup, seqI_lst, seqOf_tup, seqOf_lst, tyN_tup, tyN_lst, tyN_int, tyN_bl, tyN_str, tyN_non, isi_tt, at_0, at_1, at_2, at_3, Option.map_some, true_and, and_true, if_true, Bool.false_eq_true, if_false, Bool.not_true, Bool.not_false, ↓reduceIte, Nat.reduceAdd, Nat.reduceSub, exists_and_left, and_assoc]))
/-! the scaffold of a law: the pens and the laps -/
def tKs (t : DS) : DS := (xSeq (xFor (sRg1 (dCB aMax (dCons (dC (.int 1)) (dCons (dCB aMin (dCons (dCB aLen (dCons (dVar 0) dNil)) (dCons (dC (.int 3)) dNil))) dNil)))) (gV 1) (xSeq (xAsg (dCB s_law_pen (dCons (dCB s_law_cell_at (dCons (dVar 0) (dCons (dVar 1) dNil))) dNil)) (gV 2)) t))
  (xRet (dC (.bl true))))
def s_law : DSp := fun ds m Q => ∃ ns : List Int, ds = [.scr (ns.map D.int)] ∧ ns.length ≤ 63 ∧ ∀ m, Q (.bl true) m
theorem l_law : ∀ ds m Q, s_law ds m Q → ds.length = 1 := by rintro ds m Q ⟨ns, rfl, _⟩; rfl
theorem s_law_ok : ∀ (ns : List Int) (Q : DK), ns.length ≤ 63 → (∀ m, Q (.bl true) m) → s_law [.scr (ns.map D.int)] (fun _ => none) Q := fun ns Q hl h => ⟨ns, rfl, hl, h⟩
theorem scaf_ks {n : Nat} {t : DS} {ns : List Int} {m : Mu} {De : DE} {xs : Ro} {x1 x2 : Option D} (hl : ns.length ≤ 63) (hn : xs.length = n) (q : ∀ m, De.rt (.bl true) m)
    (H : ∀ (De : DE) (x1 : Option D) (xs : Ro) (m : Mu) (p : Addr), xs.length = n → Pen m p 0 → (∀ x1 x2 xs m, xs.length = n → De.nx (some (.scr (ns.map D.int)) :: x1 :: x2 :: xs) m) → t De (some (.scr (ns.map D.int)) :: x1 :: some (.ref p) :: xs) m) :
    tKs t De (some (.scr (ns.map D.int)) :: x1 :: x2 :: xs) m := by
  unfold tKs
  walk_at "d"
  simp only [List.length_map]
  refine ⟨by omega, by omega, ?_⟩
  refine forGo_inv (fun i r m => ∃ x1 x2 xs, r = some (D.scr (ns.map D.int)) :: x1 :: x2 :: xs ∧ xs.length = n) _ _ _ 0 ⟨_, _, _, rfl, hn⟩ ?_ ?_
  · rintro j d r m1 P hd ⟨x1, x2, xs, rfl, hn⟩ hP
    obtain ⟨k, hk⟩ : ∃ k : Nat, d = .int k := by
      unfold rgD at hd
      rw [List.getElem?_map] at hd
      obtain ⟨i, _, rfl⟩ := Option.map_eq_some_iff.mp hd
      exact ⟨i, by rw [Int.zero_add]⟩
    subst hk
    walk_at "d"
    refine ⟨ns, _, rfl, by omega, fun z => ⟨z, rfl, fun p m2 hp hu2 => ?_⟩⟩
    walk_at "d"
    exact H _ _ _ _ _ hn hu2.pen fun x1 x2 xs m h => hP _ _ ⟨_, _, _, rfl, h⟩
  · rintro r m1 ⟨x1, x2, xs, rfl, hn⟩
    walk_at "d"
    exact q m1
theorem scaf_laps {n L c : Nat} {t : DS} {ns : List Int} {m : Mu} {De : DE} {xs : Ro} {p : Addr} {x1 x3 : Option D} (hL : L ≤ 100) (hn : xs.length = n) (hp : Pen m p 0)
    (q : ∀ x1 x2 xs m, xs.length = n + 1 → De.nx (some (.scr (ns.map D.int)) :: x1 :: x2 :: xs) m)
    (H : ∀ (De : DE) (j : Nat) (x1 : Option D) (xs : Ro) (m : Mu), j < L → xs.length = n → Pen m p (c * j) → (∀ x1 x3 xs m, xs.length = n → Pen m p (c * (j + 1)) → De.nx (some (.scr (ns.map D.int)) :: x1 :: some (.ref p) :: x3 :: xs) m) →
      t De (some (.scr (ns.map D.int)) :: x1 :: some (.ref p) :: some (.int (j : Nat)) :: xs) m) :
    xFor (sRg1 (dC (.int (L : Nat)))) (gV 3) t De (some (.scr (ns.map D.int)) :: x1 :: some (.ref p) :: x3 :: xs) m := by
  walk_at "d"
  refine ⟨by omega, by omega, ?_⟩
  refine forGo_inv (fun i r m => ∃ x1 x3 xs, r = some (D.scr (ns.map D.int)) :: x1 :: some (.ref p) :: x3 :: xs ∧ xs.length = n ∧ Pen m p (c * i)) _ _ _ 0 ⟨_, _, _, rfl, hn, by rw [Nat.mul_zero]; exact hp⟩ ?_ ?_
  · rintro j d r m1 P hd ⟨x1, x3, xs, rfl, hn, hp⟩ hP
    obtain ⟨hj, rfl⟩ : j < L ∧ d = .int (j : Nat) := by
      unfold rgD at hd
      rw [List.getElem?_map] at hd
      obtain ⟨i, hi, rfl⟩ := Option.map_eq_some_iff.mp hd
      rw [List.getElem?_eq_some_iff] at hi
      obtain ⟨hi, e⟩ := hi
      rw [List.getElem_range] at e
      rw [List.length_range] at hi
      exact ⟨by omega, by rw [← e, Int.zero_add]⟩
    rw [Nat.zero_add] at hp hP
    walk_at "d"
    exact H _ j _ _ _ hj hn hp fun x1 x3 xs m h hp => hP _ _ ⟨_, _, _, rfl, h, hp⟩
  · rintro r m1 ⟨x1, x3, xs, rfl, hn, hp⟩
    exact q _ _ _ _ (by rw [List.length_cons, hn])
/-- a part of the registers, one by one -/
theorem len_cons {xs : Ro} {n : Nat} (h : xs.length = n + 1) : ∃ x ys, xs = x :: ys ∧ ys.length = n := by
  cases xs with
  | nil => cases h
  | cons x ys => exact ⟨x, ys, rfl, by rw [List.length_cons] at h; omega⟩
theorem len_nil {xs : Ro} (h : xs.length = 0) : xs = [] := List.length_eq_zero_iff.mp h
theorem len1 {xs : Ro} (h : xs.length = 1) : ∃ a0, xs = [a0] := let ⟨x, _, e, h⟩ := len_cons h; ⟨x, by rw [e, len_nil h]⟩
theorem len2 {xs : Ro} (h : xs.length = 2) : ∃ a0 a1, xs = [a0, a1] := let ⟨x, ys, e, h⟩ := len_cons h; let ⟨b0, e2⟩ := len1 h; ⟨x, b0, by rw [e, e2]⟩
theorem len3 {xs : Ro} (h : xs.length = 3) : ∃ a0 a1 a2, xs = [a0, a1, a2] := let ⟨x, ys, e, h⟩ := len_cons h; let ⟨b0, b1, e2⟩ := len2 h; ⟨x, b0, b1, by rw [e, e2]⟩
theorem len4 {xs : Ro} (h : xs.length = 4) : ∃ a0 a1 a2 a3, xs = [a0, a1, a2, a3] := let ⟨x, ys, e, h⟩ := len_cons h; let ⟨b0, b1, b2, e2⟩ := len3 h; ⟨x, b0, b1, b2, by rw [e, e2]⟩
theorem len5 {xs : Ro} (h : xs.length = 5) : ∃ a0 a1 a2 a3 a4, xs = [a0, a1, a2, a3, a4] := let ⟨x, ys, e, h⟩ := len_cons h; let ⟨b0, b1, b2, b3, e2⟩ := len4 h; ⟨x, b0, b1, b2, b3, by rw [e, e2]⟩
theorem len6 {xs : Ro} (h : xs.length = 6) : ∃ a0 a1 a2 a3 a4 a5, xs = [a0, a1, a2, a3, a4, a5] := let ⟨x, ys, e, h⟩ := len_cons h; let ⟨b0, b1, b2, b3, b4, e2⟩ := len5 h; ⟨x, b0, b1, b2, b3, b4, by rw [e, e2]⟩
theorem len7 {xs : Ro} (h : xs.length = 7) : ∃ a0 a1 a2 a3 a4 a5 a6, xs = [a0, a1, a2, a3, a4, a5, a6] := let ⟨x, ys, e, h⟩ := len_cons h; let ⟨b0, b1, b2, b3, b4, b5, e2⟩ := len6 h; ⟨x, b0, b1, b2, b3, b4, b5, by rw [e, e2]⟩
theorem sm_tD {l : List Nat} {n : Nat} (hn : l.length ≤ n) (h : ∀ k ∈ l, k ≤ 1000000) : Sm (tD l) 1 (n * 22 + 3) := by
  have z := sm_tup (k := 0) (n := 20) (ds := l.map nD) fun d hd => by
    obtain ⟨k, hk, rfl⟩ := List.mem_map.mp hd
    have := h k hk
    exact sm_int (by omega)
  refine z.mono (Nat.le_refl _) ?_
  rw [List.length_map]
  omega
end Mn

set_option Elab.async false
set_option linter.all false
set_option maxRecDepth 100000
set_option maxHeartbeats 4000000
set_option autoImplicit false
namespace Mn
open PySem PySem.Spec PyProof.Rows L2
variable [Tbs]
/-! sorted(set(t)), t a list or a tuple of tuples of ints -/
abbrev nset (w : World) : Obj := { cls := .type "set", dict := none, data := .set #[] 0 (.fresh 0 0 (!w.params.followText "set-order")) }
section
variable {P : Program} {w : World} {A : Around} {E : Value → Shared → Prop} {s : Shared}
set_option maxHeartbeats 6400000 in
theorem call_set_tt {l : Addr} {its : Array Value} (ks : List (Addr × List Int)) {Q : Value → Shared → Prop} (nh : A.handled = none) (lt : s.heap.IsTuple l its) (ei : its.toList = ks.map fun p => Value.ref p.1)
    (kt : ∀ p ∈ ks, L2.IsT P w s.heap p.2 p.1) (few : ks.length < 64) (ru : A.units + 3 < cLine)
    (fin : ∀ (h' : Heap) (tk : Nat) L es ep t, SetTR P w h' s.heap.objs.size L es ep t → Got ks ks.length L → (∀ b o, s.heap.get? b = some o → h'.get? b = some o) → Q (.ref s.heap.objs.size) { s with heap := h', toks := tk }) : wpAny (model P w) A (call (.type "set") [.ref l]) Q E s := by
  have zi : its.size = ks.length := by rw [← Array.length_toList, ei, List.length_map]
  obtain ⟨_, _, e0⟩ := F.called_set.mro
  have e1 := F.called_set.made; have e2 := F.called_set.sub
  refine wpAny_call (codeAny_of_tree ?_)
  show wpAny _ _ (callAny (.type "set") _) _ _ _
  refine wpAny_pure ⟨Code.quiet_builtin _ (by decide +kernel), codeAny_builtin F.entry_type_call ?_⟩
  rw [Around.under_plain (weight_type_call_type "set" [.ref l] []) rfl]
  have e3 := F.called_set.notType; have e4 := F.called_set.canCreate; have e5 := F.typeCall_set_1 (.ref l)
  repeat (any_goals (first | assumption | wp_step))
  refine codeAny_mono (code_set_led1 (.ref l) (E := E) (Q₁ := fun x t => x = .ref s.heap.objs.size ∧ t = { s with heap := s.heap.push (nset w) }) ⟨rfl, rfl⟩) fun r t hr => ?_
  cases r with
  | error e => exact hr
  | ok fl =>
    cases fl with
    | ret obj =>
      obtain ⟨rfl, rfl⟩ := hr
      have a1 : (s.heap.push (nset w)).get? s.heap.objs.size = some (nset w) := Heap.get?_push_size _ rfl
      have a2 : Shared.TypeIs { s with heap := s.heap.push (nset w) } (.ref s.heap.objs.size) "set" := ⟨_, a1, rfl⟩
      have a3 := F.called_set.init.lookup; have a4 := F.called_set.init.bind (.ref s.heap.objs.size)
      repeat (any_goals (first | assumption | wp_step))
      refine codeAny_mono (codeAny_call_builtin (R := wants (fun r u => r = .none ∧ ∃ h' tk L es ep t, u = { s with heap := h', toks := tk } ∧ SetTR P w h' s.heap.objs.size L es ep t ∧ Got ks ks.length L ∧ (∀ b o, s.heap.get? b = some o → h'.get? b = some o)) E) F.called_set.init.plain F.entry_set_init (check_set_init_1 a2 ?_)) fun r u hu => ?_
      · obtain ⟨⟨c0, d0, x0, y0⟩, hol, hcl, nl, hdl⟩ := lt
        simp only at hcl hdl
        subst hcl; subst hdl
        have b0 : (s.heap.push (nset w)).get? l = some { cls := .type "tuple", dict := d0, data := .seq its nl, slots := y0 } := Heap.get?_push_of_some _ hol
        have b1 := F.sub_tuple_set; have b2 := F.sub_tuple_frozenset
        have b3 : (Value.type "tuple" == Value.type "dict") = false := by decide
        have b4 : (s.heap.push (nset w)).IsTuple l its := ⟨_, b0, rfl, nl, rfl⟩
        unfold Builtin.«set.__init__» noKeywords Builtin.Frozenset.updateFrom
        generalize hPI : pyIter = PI
        wp_walk
        subst hPI
        refine wpAny_pyIter_tuple b4 (wpAny_bind (wpAny_runValue ?_))
        have lS : l < s.heap.objs.size := Heap.lt_size hol
        have nh3 : A.in1.in1.in1.handled = none := by simp [nh]
        have sz : (s.heap.push (nset w)).objs.size = s.heap.objs.size + 1 := Heap.size_push ..
        have lI : l ≠ (s.heap.push (nset w)).objs.size := by rw [sz]; exact Nat.ne_of_lt (Nat.lt_succ_of_lt lS)
        have sf : s.heap.objs.size ∉ [(s.heap.push (nset w)).objs.size, l] := by
          rw [sz]; simp only [List.mem_cons, List.mem_singleton, List.not_mem_nil, or_false, not_or]
          exact ⟨Nat.ne_of_lt (Nat.lt_succ_self _), Nat.ne_of_gt lS⟩
        have gv : ∀ (i : Nat) (v : Value), its[i]? = some v → ∃ p, ks[i]? = some p ∧ v = .ref p.1 := fun i v hv => by
          have q : (ks.map fun p => Value.ref p.1)[i]? = some v := by rw [← ei, Array.getElem?_toList]; exact hv
          rw [List.getElem?_map] at q
          obtain ⟨p, h1, h2⟩ := Option.map_eq_some_iff.mp q
          exact ⟨p, h1, h2.symm⟩
        have nn : ∀ b, s.heap.objs.size ≤ b → s.heap.get? b = none := fun b hb => by
          cases q : s.heap.get? b with
          | none => rfl
          | some o => exact absurd (Nat.lt_of_lt_of_le (Heap.lt_size q) hb) (Nat.lt_irrefl _)
        refine set_update_tups ((Walks.tuple nh3 _ l lI its).toS) s.heap.objs.size sf ks zi few gv s.heap kt (nn _ (Nat.le_refl _)) (fun b hb => nn b (by rw [List.mem_singleton.mp hb, sz]; exact Nat.le_succ _)) ru
          (its.size - 0) 0 _ (by omega) (Nat.zero_le _) ⟨⟨_, Heap.get?_push_size _ rfl, rfl, rfl⟩, (b4.push _)⟩ (fun b o e => Heap.get?_push_of_some _ (Heap.get?_push_of_some _ e)) ?c1 ?c2
        case c1 => exact ⟨[], #[], 0, _, setTR_fresh (Heap.get?_push_of_some _ a1), Got.zero ks⟩
        case c2 =>
          intro s' L es ep t hm hS' g' hkp
          obtain ⟨h', g2, d', tk', os'⟩ := s'
          have eg : g2 = s.gens := hm.gens
          have ed : d' = s.drawn := hm.drawn
          have eo : os' = s.os := hm.os
          subst eg; subst ed; subst eo
          show wpAny _ _ _ _ _ _
          refine wpAny_pure ?_
          show wpAny _ _ (ret Value.none) _ _ _
          rw [zi] at g'
          exact wpAny_pure ⟨rfl, h', tk', L, es, ep, t, rfl, hS', g', hkp⟩
      · cases r with
        | error e => exact hu
        | ok f2 =>
          cases f2 with
          | ret r =>
            obtain ⟨rfl, h', tk, L, es, ep, t, rfl, x1, x2, x3⟩ := hu
            repeat (any_goals (first | assumption | wp_step))
            exact fin _ _ _ _ _ _ x1 x2 x3
          | _ => exact hu.elim
    | _ => exact hr.elim
end
section
variable {X : Cx}
end
/-! over data -/
def tupI (ns : List Int) : D := .tup (ns.map D.int)
/-- the place of a tuple in the order -/
abbrev cd (ns : List Int) : Int := TS.code 64 ns
def srtK (d : D) (Q : D → Prop) : Prop := ∃ (ks : List (List Int)) (n : Nat), seqI d = some (ks.map tupI) ∧ ks.length < 64 ∧ 1 ≤ n ∧ (∀ k ∈ ks, k.length = n ∧ TS.Bd 64 k) ∧
  ∀ out : List (List Int), (∀ k, k ∈ out ↔ k ∈ ks) → out.Nodup → out.Pairwise (fun a b => cd a ≤ cd b) → Q (.lst (out.map tupI))
def dSortSet (ta : DT) : DT := fun r m Q => ta r m fun d m1 => srtK d fun x => Q x m1
section
variable {X : Cx}
end
/-! what is sorted without doubles is known by its members -/
end Mn

set_option Elab.async false
set_option linter.all false
set_option maxRecDepth 100000
set_option maxHeartbeats 4000000
set_option autoImplicit false
namespace Mn
open PySem PySem.Spec PyProof.Rows L2
variable [Tbs]
/-! match a, b: case "word", k: .. -/
abbrev MArm := Str × Int × DS
inductive PDMs (X : Cx) : List MatchCase → List MArm → Prop
  | nil : PDMs X [] []
  | cons {x : Str} {k : Int} {j1 j2 : Nat} {p1 p2 p3 p4 p5 : Pos} {body : List Stmt} {t : DS} {rest : List MatchCase} {ts : List MArm} : PDSs X body t → PDMs X rest ts →
      PDMs X (⟨.MatchSequence [.MatchValue (.Constant (.str x) j1 p1) p2, .MatchValue (.Constant (.int k) j2 p3) p4] p5, none, body⟩ :: rest) ((x, k, t) :: ts)
def mGo : List MArm → Str → Int → DS
  | [], _, _ => xNext
  | (x, k, t) :: ts, y, n => fun De r m => if y = x ∧ n = k then t De r m else mGo ts y n De r m
def xMatch (ta : DA) (ts : List MArm) : DS := fun De r m => ta r m fun ds m1 => ∃ x n, ds = [.str x, .int n] ∧ mGo ts x n De r m1
section
variable {X : Cx}
theorem val_is {c : Expr} {x y : V} (hc : PE X c (tC y)) (hs : scal x y = true) {pos : Pos} {pins : List (Addr × Obj)} {s : Shared} {σ : L2.St} {H : Hp} {u : Value} {Q : Option (List (Str × Value)) → Shared → Prop} (I : Inv X pins σ H s) (rx : RelV x u)
    (q : ∀ s', Inv X pins σ H s' → Q (if x = y then some [] else none) s') : wpAny (model X.prog X.w) X.A (matchPattern (.MatchValue c pos) X.env u) Q X.xe s := by
  refine wpAny_matchPattern_Value (thn (hc.run pins s σ H (fun v H' => v = y ∧ H' = H) I ⟨rfl, rfl⟩) fun v s1 ⟨z, H1, I1, r1, e1, e2⟩ => ?_)
  subst e1; subst e2
  refine thn (op_eq pins s1 σ H1 x z u v (fun b H' => b = .bl (decide (x = z)) ∧ H' = H1) I1 rx r1 ⟨hs, rfl, rfl⟩) fun b s2 ⟨bv, H2, I2, r2, e3, e4⟩ => ?_
  subst e3; subst e4
  cases r2
  refine wpAny_truthy_bool ?_
  have := q s2 I2
  by_cases h : x = z
  · rw [if_pos h] at this; rw [if_pos (decide_eq_true h)]; exact this
  · rw [if_neg h] at this; rw [if_neg (by simp [h])]; exact this
theorem match_go (hc : X.calm = true) : ∀ {cs : List MatchCase} {ts : List MArm}, PDMs X cs ts → ∀ {first : Bool} {p : Addr} {x : Str} {n : Int} {pins : List (Addr × Obj)} {s : Shared} {σ : L2.St} {H : Hp} {E : Ends},
    Inv X pins σ H s → SqT X.K H p [.str x, .int n] → lfS X.kf X.wx (mGo ts x n) E σ H → wpAny (model X.prog X.w) X.A (matchCases cs X.env (.ref p) first) (SP X pins E) X.xe s
  | _, _, .nil, first, p, x, n, pins, s, σ, H, E, I, hp, h => by
    obtain ⟨G, r, m, De, hs, hr, q, w⟩ := h
    exact wpAny_matchCases_nil ⟨σ, H, I, w.nx _ _ _ _ _ Stp.refl hs hr q⟩
  | _, _, .cons (x := y) (k := k) (t := t) (ts := ts) hb rest, first, p, x, n, pins, s, σ, H, E, I, hp, h => by
    have more : ∀ {s2 : Shared}, Inv X pins σ H s2 → ¬ (x = y ∧ n = k) → wpAny (model X.prog X.w) X.A (matchCases _ X.env (.ref p) false) (SP X pins E) X.xe s2 := fun I2 ne => by
      refine match_go hc rest I2 hp ?_
      obtain ⟨G, r, m, De, hs, hr, q, w⟩ := h
      refine ⟨G, r, m, De, hs, hr, ?_, w⟩
      rw [mGo] at q
      rw [if_neg ne] at q
      exact q
    refine wpAny_matchCases_cons ?_
    obtain ⟨its, rv, ht, hz⟩ := I.tuple hp
    cases rv with
    | cons r1 rv =>
    cases rv with
    | cons r2 rv =>
    cases rv
    rename_i u1 u2
    refine matchSeq_tuple_hit ht (by show ((2 : Nat) : Int) < 2 ^ 63; decide) rfl ?_
    have I1 : Inv X pins σ H { s with toks := s.toks + 1 + 1 } := I.tok _
    refine unpackItems_tuple (I1.ok.hd hc) (items := [u1, u2].toArray) ht fun h' ex => ?_
    have I2 : Inv X pins σ H { s with heap := h', toks := s.toks + 1 + 1 } := I1.kept (t' := s.toks + 1 + 1) fun b o e => ex b o (Nat.ne_of_lt (Heap.lt_size e)) e
    refine wpAny_matchEach_cons (val_is pe_str (x := .str x) rfl I2 r1 fun s3 I3 => ?_) rfl
    by_cases e1 : x = y
    · subst e1
      rw [if_pos rfl]
      refine wpAny_matchEach_cons (val_is pe_int (x := .int n) rfl I3 r2 fun s4 I4 => ?_) rfl
      by_cases e2 : n = k
      · subst e2
        rw [if_pos rfl]
        refine wpAny_matchEach_nil (wpAny_assignInOrder_none ?_)
        refine hb.run pins s4 σ H E I4 ?_
        obtain ⟨G, r, m, De, hs, hr, q, w⟩ := h
        refine ⟨G, r, m, De, hs, hr, ?_, w⟩
        rw [mGo, if_pos ⟨rfl, rfl⟩] at q
        exact q
      · rw [if_neg (fun h => by cases h; exact e2 rfl)]
        exact more I4 fun h => e2 h.2
    · rw [if_neg (fun h => by cases h; exact e1 rfl)]
      exact more I3 fun h => e1 h.1
theorem pds_match {es : List Expr} {cs : List MatchCase} {ta : DA} {ts : List MArm} {x1} {pos tpos : Pos} (hc : X.calm = true) (ha : PDA X es ta) (hm : PDMs X cs ts) : PDS X (.Match (.Tuple es x1 tpos) cs pos) (xMatch ta ts) := by
  refine ⟨fun pins s σ H E I ⟨G, r, m, De, hs, hr, q, w⟩ => ?_⟩
  refine wpAny_Match (thn ((pe_tupF (x1 := x1) (pos := tpos) ha).run pins s σ H (fun v H1 => ∃ p x n, v = .ref p ∧ SqT X.K H1 p [.str x, .int n] ∧ lfS X.kf X.wx (mGo ts x n) E σ H1) I ?_) fun v s1 ⟨z, H1, I1, r1, p, x, n, e, hp, h⟩ => ?_)
  · refine ⟨G, r, m, _, hs, hr, q, fun vs H1 G1 m1 ds s1 r1 h1 ⟨x, n, e, q1⟩ => ?_⟩
    subst e
    obtain ⟨v, u, rfl, hv, hu⟩ := h1.two
    cases hv; cases hu
    refine ⟨by rw [sizeLine_eq]; show 2 ≤ _; omega, fun p o ho hp => ?_⟩
    obtain ⟨r2, st2⟩ := r1.new hp (.frz o (.tup [.str x, .int n]))
    exact ⟨p, x, n, rfl, .inl (.inr ⟨o, upd_same⟩), _, r, m1, De, (hs.same s1.g).same st2.g, r2, q1, w.after (s1.trans st2)⟩
  · subst e
    cases r1
    exact match_go hc hm I1 hp h
end
end Mn

set_option Elab.async false
set_option linter.all false
set_option maxRecDepth 100000
set_option maxHeartbeats 4000000
set_option autoImplicit false
namespace Mn
open PySem PySem.Spec PyProof.Rows L2
variable [Tbs]
/-! xs * k, xs a list -/
/-! is, is not, of bools -/
def aIsB : DR2 := fun x y m Q => ∃ a b : Bool, x = .bl a ∧ y = .bl b ∧ Q (.bl (decide (a = b))) m
def aNotB : DR2 := fun x y m Q => ∃ a b : Bool, x = .bl a ∧ y = .bl b ∧ Q (.bl (!decide (a = b))) m
theorem c2_isB {K : KF} : C2 K rIsB aIsB := by
  rintro G H m x y dx dy Q Qv r rx ry ⟨a, b, rfl, rfl, q⟩ w
  cases rx; cases ry
  exact ⟨a, b, rfl, rfl, w.now r (.bl _) q⟩
theorem c2_notB {K : KF} : C2 K rNotB aNotB := by
  rintro G H m x y dx dy Q Qv r rx ry ⟨a, b, rfl, rfl, q⟩ w
  cases rx; cases ry
  exact ⟨a, b, rfl, rfl, w.now r (.bl _) q⟩
theorem aIsB_bl {a b : Bool} {m : Mu} {Q : DK} : aIsB (.bl a) (.bl b) m Q ↔ Q (.bl (decide (a = b))) m := by simp [aIsB]
theorem aNotB_bl {a b : Bool} {m : Mu} {Q : DK} : aNotB (.bl a) (.bl b) m Q ↔ Q (.bl (!decide (a = b))) m := by simp [aNotB]
/-! data that may be compared, whatever the numbers' size -/
def Cm (d : D) (k : Nat) : Prop := pur d = true ∧ (py d).canLay0 = true ∧ (py d).depth ≤ k
theorem Cm.ok {d : D} {k : Nat} (h : Cm d k) (hk : k ≤ 64) (m : Mu) : okD d m := by
  obtain ⟨e1, e2⟩ := pyM_of h.1 m
  refine ⟨by rw [e2]; exact h.1, ?_⟩
  rw [e1, SeqAt.shaped, h.2.1, Bool.true_and, decide_eq_true_eq]
  have := h.2.2
  omega
theorem Sm.cm {d : D} {k n : Nat} (h : Sm d k n) : Cm d k := ⟨h.1, h.2.1, h.2.2.1⟩
theorem Cm.mono {d : D} {k k' : Nat} (h : Cm d k) (hk : k ≤ k') : Cm d k' := ⟨h.1, h.2.1, Nat.le_trans h.2.2 hk⟩
theorem cm_int (i : Int) : Cm (.int i) 0 := ⟨rfl, rfl, Nat.zero_le _⟩
theorem cm_all {k : Nat} : ∀ {ds : List D}, (∀ d ∈ ds, Cm d k) → purL ds = true ∧ PyData.canLayAll0 (pyL ds) = true ∧ PyData.depthAll (pyL ds) ≤ k
  | [], _ => ⟨rfl, rfl, Nat.zero_le _⟩
  | d :: ds, h => by
    obtain ⟨a1, a2, a3⟩ := h d (by simp)
    obtain ⟨b1, b2, b3⟩ := cm_all (ds := ds) fun x hx => h x (by simp [hx])
    exact ⟨by rw [purL, a1, b1]; rfl, by rw [pyL, PyData.canLayAll0, a2, b2]; rfl, by rw [pyL, PyData.depthAll]; omega⟩
theorem cm_tup {k : Nat} {ds : List D} (h : ∀ d ∈ ds, Cm d k) : Cm (.tup ds) (k + 1) := by
  obtain ⟨b1, b2, b3⟩ := cm_all h
  exact ⟨by rw [pur]; exact b1, by rw [py, PyData.canLay0]; exact b2, by rw [py, PyData.depth]; omega⟩
theorem cm_lst {k : Nat} {ds : List D} (h : ∀ d ∈ ds, Cm d k) : Cm (.lst ds) (k + 1) := by
  obtain ⟨b1, b2, b3⟩ := cm_all h
  exact ⟨by rw [pur]; exact b1, by rw [py, PyData.canLay0]; exact b2, by rw [py, PyData.depth]; omega⟩
end Mn

set_option linter.all false
set_option maxHeartbeats 4000000
set_option autoImplicit false
set_option maxRecDepth 100000
namespace Mn
open PySem L2
variable [Tbs]
local macro_rules | `(tactic| walk_at "d") => `(tactic| (try simp only [xNext, xSeq, xAsg, xRet, xRetF, xDrop, xIf, xPar, xPar3, xMatch, mGo, xFrz, xPut, xAug, xFor, dVar, dC, dOp, dTest, dChain, dAndV, dOrV, dNotV, dAnd, dOr, dNot, dIf, dNil, dCons, dTup, dLst, dLstM, dCB, dIsi, dLc, dLcM, dYes, wipeD, dSlice, oSome, oNone, aSl_tup, aSl_lst, dNeg, dStar, dNewD, dTupVals, dSortSet, dCountL, dExtend, dAppend, dFrz, dLc2, dCountT, dIndexT, sqf_tup, sqf_lst, sqf_pair, sSeq, sSeq_tup, sSeq_lst, sRg1, sRg2, sZip2, sZip3, sZip4, sEnum, gV, gN, gC, gT, tupOf_tup, tupOf_pair, aAdd_int, aAdd_tup, aAdd_lst, aSub_int, aMul_int, aDiv_int, aMod_int, aPow_int, aCmp_int, aIx_tup, aIx_lst, aIx_scr, aIx_pair, aMax_int, aMin_int, aInt_bl, aInt_int, aLen_tup, aLen_lst, aLen_scr, aLen_pair, aTuple_lst, aTuple_tup, aIsB_bl, aNotB_bl, aEq_int, aNe_int, startD, List.map_cons, List.map_nil, List.length_cons, List.length_nil, List.cons_append, List.nil_append, List.replicate_zero, List.replicate_succ, List.append_nil, List.getElem?_cons_zero, List.getElem?_cons_succ, List.set_cons_zero, List.set_cons_succ, Option.some.injEq, exists_eq_left', exists_eq_left, exists_eq', D.int.injEq, D.bl.injEq, D.tup.injEq, D.lst.injEq, D.pair.injEq, D.ref.injEq, List.cons.injEq, Nat.sub_self, Nat.zero_add, Nat.add_sub_cancel, seqI_tup, seqI_lst, seqOf_tup, seqOf_lst, tyN_tup, tyN_lst, tyN_int, tyN_bl, tyN_str, tyN_non, isi_tt, at_0, at_1, at_2, at_3, Option.map_some, true_and, and_true, if_true, Bool.false_eq_true, if_false, Bool.not_true, Bool.not_false, ↓reduceIte, Nat.reduceAdd, Nat.reduceSub, exists_and_left, and_assoc]))
namespace B
def s_law_draw : DSp := Mn.s_law_draw
theorem l_law_draw : ∀ ds m Q, s_law_draw ds m Q → ds.length = 2 := Mn.l_law_draw
def t_law_draw : DS := (xSeq (xIf (dTest (dOp aGt (dOp aIx (dVar 0) (dC (.int 0))) (dC (.int 0)))) (xSeq (xAsg (dOp aMod (dOp aIx (dVar 0) (dC (.int 0))) (dVar 1)) (gV 3))
  (xSeq (xPut (dOp aDiv (dOp aIx (dVar 0) (dC (.int 0))) (dVar 1)) (dVar 0) (dC (.int 0)))
  (xRet (dVar 3)))) xNext)
  (xSeq (xPut (dOp aAdd (dOp aIx (dVar 0) (dC (.int 2))) (dC (.int 1))) (dVar 0) (dC (.int 2)))
  (xSeq (xPut (dOp aMod (dOp aAdd (dOp aAdd (dOp aMulA (dOp aIx (dVar 0) (dC (.int 1))) (dC (.int 48271))) (dOp aMulA (dC (.int 1009)) (dOp aIx (dVar 0) (dC (.int 2))))) (dC (.int 7))) (dC (.int 2147483647))) (dVar 0) (dC (.int 1)))
  (xSeq (xAsg (dOp aMod (dOp aAdd (dOp aAdd (dOp aMulA (dOp aIx (dVar 0) (dC (.int 1))) (dOp aIx (dVar 0) (dC (.int 1)))) (dOp aMulA (dC (.int 69621)) (dOp aIx (dVar 0) (dC (.int 1))))) (dC (.int 11))) (dC (.int 2147483629))) (gV 2))
  (xSeq (xAsg (dOp aMod (dOp aAdd (dOp aMulA (dVar 2) (dVar 2)) (dOp aMulA (dC (.int 40014)) (dVar 2))) (dC (.int 2147483587))) (gV 2))
  (xRet (dOp aMod (dOp aDiv (dVar 2) (dC (.int 16))) (dVar 1))))))))
theorem v_law_draw : Body 4 t_law_draw s_law_draw := by
  rintro ds m Q ⟨p, k, n, rfl, ⟨a, b, c, hp, ha, hb, hb2, hc, hcn⟩, hn, hk1, hk2, q⟩
  have hkk : (0 : Int) < k := by omega
  have hkl : (k : Int) < 1073741824 := by omega
  unfold t_law_draw nD
  walk_at "d"
  simp only [aIx_ref hp]
  walk_at "d"
  by_cases h0 : 0 < a
  · simp only [h0, decide_true, ↓reduceIte]
    iterate 2 (simp only [aIx_ref hp]; walk_at "d")
    refine ⟨hkk, ⟨hkk, hkl⟩, _, hp, 0, rfl, ?_⟩
    walk_at "d"
    have r1 := Int.emod_nonneg a (show (k : Int) ≠ 0 by omega)
    have r2 := Int.emod_lt_of_pos a hkk
    have z := q (a % k).toNat (up m p (.lst [.int (a / k), .int b, .int c])) (by omega) ⟨a / k, b, c, rfl, Int.ediv_nonneg ha (by omega), hb, hb2, hc, by omega⟩
    unfold nD at z
    rw [Int.toNat_of_nonneg r1] at z
    exact ⟨_, fun _ _ e => e, z⟩
  · simp only [h0, decide_false, Bool.false_eq_true, ↓reduceIte]
    simp only [aIx_ref hp]
    walk_at "d"
    refine ⟨_, hp, 2, rfl, ?_⟩
    walk_at "d"
    have hp2 : up m p (.lst [.int a, .int b, .int (c + 1)]) p = some (.lst [.int a, .int b, .int (c + 1)]) := up_same
    iterate 5 (try simp only [aIx_ref hp2]; walk_at "d")
    have hm : ∀ x : Int, 0 ≤ x % 2147483647 ∧ x % 2147483647 < 2147483647 := fun x => ⟨Int.emod_nonneg _ (by decide), Int.emod_lt_of_pos _ (by decide)⟩
    have hm2 : ∀ x : Int, 0 ≤ x % 2147483629 ∧ x % 2147483629 < 2147483629 := fun x => ⟨Int.emod_nonneg _ (by decide), Int.emod_lt_of_pos _ (by decide)⟩
    refine ⟨.inr ⟨by decide, by decide⟩, .inl ⟨by decide, by decide⟩, by decide, _, hp2, 1, rfl, ?_⟩
    have hb3 := hm (b * 48271 + 1009 * (c + 1) + 7)
    generalize (b * 48271 + 1009 * (c + 1) + 7) % 2147483647 = b1 at hb3 ⊢
    rw [up_up]
    walk_at "d"
    have hp3 : up m p (.lst [.int a, .int b1, .int (c + 1)]) p = some (.lst [.int a, .int b1, .int (c + 1)]) := up_same
    iterate 5 (try simp only [aIx_ref hp3]; walk_at "d")
    refine ⟨.inl ⟨by omega, by omega⟩, .inl ⟨by decide, by decide⟩, by decide, ?_⟩
    have hy := hm2 (b1 * b1 + 69621 * b1 + 11)
    generalize (b1 * b1 + 69621 * b1 + 11) % 2147483629 = y1 at hy ⊢
    refine ⟨.inl ⟨by omega, by omega⟩, .inl ⟨by decide, by decide⟩, by decide, ⟨by decide, by decide⟩, hkk, ?_⟩
    generalize (y1 * y1 + 40014 * y1) % 2147483587 / 16 = y
    have r1 := Int.emod_nonneg y (show (k : Int) ≠ 0 by omega)
    have r2 := Int.emod_lt_of_pos y hkk
    have z := q (y % k).toNat _ (by omega) ⟨a, b1, c + 1, rfl, ha, hb3.1, by omega, by omega, by omega⟩
    unfold nD at z
    rw [Int.toNat_of_nonneg r1] at z
    exact ⟨_, fun _ _ e => e, z⟩
def s_law_choose : DSp := Mn.s_law_pick
def s_law_step : DSp := fun ds m Q => ∃ (p : Addr) (g n : Nat), ds = [.ref p, nD g] ∧ Pen m p n ∧ n ≤ 900001000 ∧ 2 ≤ g ∧ g ≤ 6 ∧ ∀ st g' m', Stp1 g st g' → 1 ≤ g' → PenU m p (n + 20) m' → Q (tD st) m'
def s_law_attribute : DSp := Mn.s_law_attribute
theorem l_law_attribute : ∀ ds m Q, s_law_attribute ds m Q → ds.length = 2 := Mn.l_law_attribute
def t_law_attribute : DS := (xSeq (xAsg (dCB aMax (dCons (dOp aAdd (dC (.int 1)) (dCB s_law_draw (dCons (dVar 0) (dCons (dVar 1) dNil)))) (dCons (dOp aAdd (dC (.int 1)) (dCB s_law_draw (dCons (dVar 0) (dCons (dVar 1) dNil)))) dNil))) (gV 2))
  (xSeq (xPar 4 5 (dCons (dVar 2) (dCons (dTup dNil) dNil)))
  (xSeq (xFor (sRg1 (dCB s_law_draw (dCons (dVar 0) (dCons (dC (.int 4)) dNil)))) (gV 3) (xIf (dTest (dOp aGt (dVar 4) (dC (.int 1)))) (xSeq (xAsg (dOp aAdd (dVar 5) (dTup (dCons (dCB s_law_step (dCons (dVar 0) (dCons (dVar 4) dNil))) dNil))) (gV 5))
  (xAsg (dOp aAdd (dCB aMax (dCons (dOp aIx (dVar 5) (dNeg (dC (.int 1)))) dNil)) (dC (.int 1))) (gV 4))) xNext))
  (xRet (dTup (dCons (dVar 2) (dCons (dVar 5) dNil)))))))
def AtI (m0 : Mu) (p : Addr) (most many n0 : Nat) : Nat → Ro → Mu → Prop := fun i r m => ∃ (g : Nat) (ss : List (List Nat)) (x3 : Option D),
  r = [some (.ref p), some (nD most), some (nD many), x3, some (nD g), some (.tup (ss.map tD))] ∧ PenU m0 p (n0 + 20 * i) m ∧ ss.length ≤ i ∧ leads many ss g ∧ 1 ≤ g ∧ g ≤ most
theorem maxI_nat : ∀ {l : List Nat}, l ≠ [] → maxI (l.map fun k : Nat => (k : Int)) = (maxN l : Nat) := by
  intro l h
  cases l with
  | nil => exact absurd rfl h
  | cons a r =>
    have key : ∀ (r : List Nat) (a : Nat), (r.map fun k : Nat => (k : Int)).foldl max (a : Int) = ((r.foldl max a : Nat) : Int) := by
      intro r
      induction r with
      | nil => intro a; rfl
      | cons b r ih => intro a; rw [List.map_cons, List.foldl_cons, List.foldl_cons, ← ih]; congr 1; omega
    show (r.map fun k : Nat => (k : Int)).foldl max (a : Int) = _
    rw [key]
    unfold maxN
    rw [List.foldl_cons, Nat.zero_max]
theorem aMax_tD {st : List Nat} {m : Mu} {Q : DK} (h : st ≠ []) (q : Q (nD (maxN st)) m) : aMax [tD st] m Q := by
  cases st with
  | nil => exact absurd rfl h
  | cons a r =>
    refine ⟨(a : Int), r.map fun k : Nat => (k : Int), ?_, ?_⟩
    · show some (nD a :: r.map nD) = _
      rw [List.map_map]
      rfl
    · have := maxI_nat h
      rw [List.map_cons] at this
      unfold nD at q
      rw [← this] at q
      exact q
theorem v_law_attribute : Body 6 t_law_attribute s_law_attribute := by
  rintro ds m Q ⟨p, most, n, rfl, hp, hn, h1, h6, q⟩
  unfold t_law_attribute
  walk_at "d"
  refine ⟨p, most, n, rfl, hp, by omega, h1, by omega, fun r1 m1 hr1 hu1 => ?_⟩
  simp only [nD]
  walk_at "d"
  refine ⟨p, most, n + 1, rfl, hu1.pen, by omega, h1, by omega, fun r2 m2 hr2 hu2 => ?_⟩
  simp only [nD]
  walk_at "d"
  refine ⟨by decide, p, 4, n + 2, rfl, hu2.pen, by omega, by decide, by decide, fun r3 m3 hr3 hu3 => ⟨(r3 : Nat), rfl, by omega, by omega, ?_⟩⟩
  rw [rgD_nat, show max (1 + (r1 : Int)) (1 + (r2 : Int)) = ((1 + max r1 r2 : Nat) : Int) by omega]
  have hu3' := (hu1.trans hu2).trans hu3
  refine forGo_inv (AtI m p most (1 + max r1 r2) (n + 3)) _ _ _ 0 ⟨1 + max r1 r2, [], none, rfl, hu3', Nat.le_refl _, rfl, by omega, by omega⟩ ?_ ?_
  · rintro j d r m4 P hd ⟨g, ss, x3, rfl, hu4, hss, hle, hg1, hg2⟩ hP
    have hj : j < 4 := by
      have := (List.getElem?_eq_some_iff.mp hd).1
      rw [List.length_map, List.length_range] at this
      omega
    simp only [nD]
    walk_at "d"
    by_cases hg : (1 : Int) < (g : Int)
    · simp only [hg, decide_true, ↓reduceIte]
      refine ⟨p, g, _, rfl, hu4.pen, by omega, by omega, by omega, fun st g' m5 hst hg' hu5 => ?_⟩
      walk_at "d"
      refine ⟨by decide, small (k := 1000) (by rw [List.length_map]; show ss.length + 1 ≤ _; omega), ?_⟩
      have hne : st ≠ [] := by rintro rfl; have := hst.1; rw [List.length_nil] at this; omega
      refine ⟨tD st, ?_, ?_⟩
      · unfold at_
        rw [if_neg (by decide), if_pos (by rw [List.length_append, List.length_singleton]; omega), List.length_append, List.length_singleton, List.length_map, show (-1 + ((ss.length + 1 : Nat) : Int)).toNat = ss.length by omega, List.getElem?_append_right (by rw [List.length_map]; exact Nat.le_refl _), List.length_map, Nat.sub_self]
        rfl
      · refine aMax_tD hne ?_
        unfold nD
        walk_at "d"
        have hmx := hst.max hg1
        refine hP _ _ ⟨g', ss ++ [st], some d, ?_, (hu4.trans hu5).mono (by omega), by rw [List.length_append, List.length_singleton]; omega, leads_snoc hle hst, hg', by have := hst.2.1; omega⟩
        rw [List.map_append, List.map_singleton, ← hmx]
        rfl
    · simp only [hg, decide_false, Bool.false_eq_true, ↓reduceIte]
      exact hP _ _ ⟨g, ss, _, rfl, hu4.mono (by omega), by omega, hle, hg1, hg2⟩
  · rintro r m4 ⟨g, ss, x3, rfl, hu4, hss, hle, hg1, hg2⟩
    rw [List.length_map, List.length_range] at hu4 hss
    simp only [nD]
    walk_at "d"
    exact ⟨by decide, end_rtL (m2 := m4) (fun _ _ e => e) (q ⟨1 + max r1 r2, ss⟩ _ ⟨by show 1 ≤ 1 + max r1 r2; omega, by show 1 + max r1 r2 ≤ 6; omega, by show ss.length ≤ 3; omega, leads_V hle⟩ (by show 1 + max r1 r2 ≤ most; omega) (hu4.mono (by omega)))⟩
def mss : List (List Nat) := [[6], [6, 6], [4, 6], [5, 4, 3], [3, 4, 5], [3, 3, 3], [2, 2, 2]]
theorem mss_ok : ∀ ms ∈ mss, 1 ≤ ms.length ∧ ms.length ≤ 3 ∧ prodN ms ≤ 60 ∧ ∀ k ∈ ms, 1 ≤ k ∧ k ≤ 6 := by decide
def s_law_scheme : DSp := Mn.s_law_scheme
theorem l_law_scheme : ∀ ds m Q, s_law_scheme ds m Q → ds.length = 1 := Mn.l_law_scheme
def t_law_scheme : DS := (xSeq (xAsg (dCB s_law_choose (dCons (dVar 0) (dCons (dLst (dCons (dTup (dCons (dC (.int 6)) dNil)) (dCons (dTup (dCons (dC (.int 6)) (dCons (dC (.int 6)) dNil))) (dCons (dTup (dCons (dC (.int 4)) (dCons (dC (.int 6)) dNil))) (dCons (dTup (dCons (dC (.int 5)) (dCons (dC (.int 4)) (dCons (dC (.int 3)) dNil)))) (dCons (dTup (dCons (dC (.int 3)) (dCons (dC (.int 4)) (dCons (dC (.int 5)) dNil)))) (dCons (dTup (dCons (dC (.int 3)) (dCons (dC (.int 3)) (dCons (dC (.int 3)) dNil)))) (dCons (dTup (dCons (dC (.int 2)) (dCons (dC (.int 2)) (dCons (dC (.int 2)) dNil)))) dNil)))))))) dNil))) (gV 1))
  (xRet (dCB aTuple (dCons (dLc (sSeq (dVar 1)) [2] (gV 2) dYes (dCB s_law_attribute (dCons (dVar 0) (dCons (dVar 2) dNil)))) dNil))))
theorem v_law_scheme : Body 3 t_law_scheme s_law_scheme := by
  rintro ds m Q ⟨p, n, rfl, hp, hn, q⟩
  unfold t_law_scheme
  walk_at "d"
  refine ⟨by decide, by decide, by decide, by decide, by decide, by decide, by decide, by decide, p, _, _, n, rfl, Or.inl rfl, hp, by omega, by decide, by decide, fun d m1 hd hu1 => ?_⟩
  have hd' : d ∈ mss.map fun ms => D.tup (ms.map nD) := hd
  obtain ⟨ms, hms, rfl⟩ := List.mem_map.mp hd'
  obtain ⟨k1, k2, k3, k4⟩ := mss_ok ms hms
  walk_at "d"
  refine ⟨_, .inr rfl, by rw [List.length_map]; exact small (k := 1000) (by omega), ?_⟩
  refine lcGo_inv (fun i acc m' => ∃ s : Sch, acc = s.map At.enc ∧ s.length = i ∧ (∀ a ∈ s, a.V) ∧ prodN (s.map At.n) ≤ prodN (ms.take i) ∧ PenU m p (n + 1 + 100 * i) m') _ [] m1 0 ⟨[], rfl, rfl, (fun _ h => nomatch h), Nat.le_refl _, hu1⟩ ?_ ?_
  · rintro i x acc m5 P5 hx ⟨s, rfl, hks, hV, hpr, hu5⟩ hP5
    rw [List.getElem?_map] at hx
    obtain ⟨k, hk, rfl⟩ := Option.map_eq_some_iff.mp hx
    have hki := k4 k (List.mem_of_getElem? hk)
    have hi : i < ms.length := (List.getElem?_eq_some_iff.mp hk).1
    walk_at "d"
    refine ⟨p, k, _, rfl, hu5.pen, by omega, hki.1, hki.2, fun a m6 ha hak hu6 => ?_⟩
    refine hP5 _ _ ⟨s ++ [a], by rw [List.map_append]; rfl, by rw [List.length_append, List.length_singleton, hks], fun b hb => ?_, ?_, (hu5.trans hu6).mono (by omega)⟩
    · rcases List.mem_append.mp hb with hb | hb
      · exact hV b hb
      · rw [List.mem_singleton.mp hb]; exact ha
    · rw [List.map_append, List.map_singleton, prodN_snoc, Nat.zero_add, List.take_add_one, hk, Option.toList_some, prodN_snoc]
      rw [Nat.zero_add] at hpr
      exact Nat.mul_le_mul hpr hak
  · rintro acc m5 ⟨s, rfl, hks, hV, hpr, hu5⟩
    rw [List.length_map] at hks hu5 hpr
    walk_at "d"
    rw [Nat.zero_add, List.take_length] at hpr
    exact ⟨_, fun _ _ e => e, q s _ ⟨by omega, by omega, hV, by omega⟩ (hu5.mono (by omega))⟩
def s_law_rollup : DSp := Mn.s_law_rollup
theorem l_law_rollup : ∀ ds m Q, s_law_rollup ds m Q → ds.length = 2 := Mn.l_law_rollup
def t_law_rollup : DS := (xRet (dCB aTuple (dCons (dLc (sSeq (dVar 1)) [2, 3] (gT 2 (gC (gV 2) (gC (gV 3) gN))) dYes (dCB s_law_draw (dCons (dVar 0) (dCons (dOp aAdd (dCB aLen (dCons (dVar 3) dNil)) (dC (.int 1))) dNil)))) dNil)))
theorem v_law_rollup : Body 4 t_law_rollup s_law_rollup := by
  rintro ds m Q ⟨p, s, n, rfl, hs, hp, hn, q⟩
  unfold t_law_rollup encS
  have hsl := hs.2.1
  walk_at "d"
  refine ⟨_, .inr rfl, by rw [List.length_map]; exact small (k := 1000) (by omega), ?_⟩
  refine lcGo_inv (fun i acc m' => ∃ l : List Nat, acc = l.map nD ∧ l.length = i ∧ (∀ (j : Nat) (a : At) (k : Nat), s[j]? = some a → l[j]? = some k → k ≤ a.ss.length) ∧ PenU m p (n + i) m') _ [] m 0 ⟨[], rfl, rfl, by simp, hp.u⟩ ?_ ?_
  · rintro i x acc m5 P5 hx ⟨l, rfl, hks, hV, hu5⟩ hP5
    rw [List.getElem?_map] at hx
    obtain ⟨a, ha, rfl⟩ := Option.map_eq_some_iff.mp hx
    have haV := hs.2.2.1 a (List.mem_of_getElem? ha)
    have hi := (List.getElem?_eq_some_iff.mp ha).1
    unfold At.enc
    walk_at "d"
    rw [List.length_map]
    refine ⟨p, a.ss.length + 1, _, rfl, hu5.pen, by omega, by omega, by have := haV.2.2.1; omega, fun r6 m6 hr6 hu6 => ?_⟩
    refine hP5 _ _ ⟨l ++ [r6], by rw [List.map_append]; rfl, by rw [List.length_append, List.length_singleton, hks], fun j b k hb hk => ?_, (hu5.trans hu6).mono (by omega)⟩
    by_cases hj : j < l.length
    · rw [List.getElem?_append_left hj] at hk
      exact hV j b k hb hk
    · rw [List.getElem?_append_right (by omega)] at hk
      have hj2 : j = i := by
        have := (List.getElem?_eq_some_iff.mp hk).1
        rw [List.length_singleton] at this
        omega
      subst hj2
      rw [ha] at hb
      cases hb
      rw [show j - l.length = 0 by omega] at hk
      cases hk
      omega
  · rintro acc m5 ⟨l, rfl, hks, hV, hu5⟩
    rw [List.length_map] at hks hu5
    walk_at "d"
    exact ⟨_, fun _ _ e => e, q l _ (roll_of (by omega) hV) (hu5.mono (by omega))⟩
end B
end Mn

set_option linter.all false
set_option maxHeartbeats 4000000
set_option autoImplicit false
set_option maxRecDepth 100000
namespace Mn
open PySem L2
variable [Tbs]
local macro_rules | `(tactic| walk_at "d") => `(tactic| (try simp only [xNext, xSeq, xAsg, xRet, xRetF, xDrop, xIf, xPar, xPar3, xFrz, xPut, xAug, xFor, dVar, dC, dOp, dTest, dChain, dAndV, dOrV, dNotV, dAnd, dOr, dNot, dIf, dNil, dCons, dTup, dLst, dLstM, dCB, dIsi, dLc, dLcM, dYes, wipeD, dSlice, oSome, oNone, aSl_tup, aSl_lst, dNeg, dStar, dNewD, dTupVals, dCountL, dExtend, dAppend, dFrz, dLc2, dCountT, dIndexT, sqf_tup, sqf_lst, sqf_pair, sSeq, sSeq_tup, sSeq_lst, sRg1, sRg2, sZip2, sZip3, sZip4, sEnum, gV, gN, gC, gT, tupOf_tup, tupOf_pair, aAdd_int, aAdd_tup, aAdd_lst, aSub_int, aMul_int, aDiv_int, aMod_int, aPow_int, aCmp_int, aIx_tup, aIx_lst, aIx_scr, aIx_pair, aMax_int, aMin_int, aInt_bl, aInt_int, aLen_tup, aLen_lst, aLen_scr, aLen_pair, aTuple_lst, aTuple_tup, aEq_int, aNe_int, startD, List.map_cons, List.map_nil, List.length_cons, List.length_nil, List.cons_append, List.nil_append, List.replicate_zero, List.replicate_succ, List.append_nil, List.getElem?_cons_zero, List.getElem?_cons_succ, List.set_cons_zero, List.set_cons_succ, Option.some.injEq, exists_eq_left', exists_eq_left, exists_eq', D.int.injEq, D.bl.injEq, D.tup.injEq, D.lst.injEq, D.pair.injEq, D.ref.injEq, List.cons.injEq, Nat.sub_self, Nat.zero_add, Nat.add_sub_cancel, seqI_tup, seqI_lst, seqOf_tup, seqOf_lst, tyN_tup, tyN_lst, tyN_int, tyN_bl, tyN_str, tyN_non, isi_tt, at_0, at_1, at_2, at_3, Option.map_some, true_and, and_true, if_true, Bool.false_eq_true, if_false, Bool.not_true, Bool.not_false, ↓reduceIte, Nat.reduceAdd, Nat.reduceSub, exists_and_left, and_assoc]))
/-! dicts of cells -/
def kyT (c : List Nat) : NestedKey := .tup (c.map fun k : Nat => NestedKey.num (k : Int))
theorem keyDs_nums : ∀ c : List Nat, keyDs (c.map fun k : Nat => NestedKey.num (k : Int)) = c.map nD
  | [] => by rw [List.map_nil, keyDs]; rfl
  | k :: c => by rw [List.map_cons, keyDs, keyDs_nums c, keyD]; rfl
theorem keyD_kyT (c : List Nat) : tD c = keyD (kyT c) := by unfold kyT; rw [keyD, keyDs_nums]; rfl
theorem kyT_inj {c d : List Nat} (h : kyT c = kyT d) : c = d := by
  unfold kyT at h
  have h2 := NestedKey.tup.inj h
  induction c generalizing d with
  | nil => cases d with
    | nil => rfl
    | cons y d => simp at h2
  | cons x c ih => cases d with
    | nil => simp at h2
    | cons y d =>
      rw [List.map_cons, List.map_cons, List.cons.injEq] at h2
      have h3 := NestedKey.num.inj h2.1
      have h4 : x = y := by omega
      rw [h4, ih (by rw [h2.2]) h2.2]
theorem depths_nums : ∀ c : List Nat, NestedKey.depthAll (c.map fun k : Nat => NestedKey.num (k : Int)) ≤ 1
  | [] => by rw [List.map_nil]; decide
  | k :: c => by
    have := depths_nums c
    rw [List.map_cons]
    simp only [NestedKey.depthAll, NestedKey.depth]
    omega
theorem kyT_depth (c : List Nat) : (kyT c).depth ≤ 8 := by
  have := depths_nums c
  unfold kyT
  simp only [NestedKey.depth]
  omega
def dct (cs : List (List Nat)) (f : List Nat → D) : List (NestedKey × D) := cs.map fun c => (kyT c, f c)
theorem look_dct {cs : List (List Nat)} {f : List Nat → D} {c : List Nat} (h : c ∈ cs) : lookN (dct cs f) (kyT c) = some (f c) := by
  unfold lookN dct
  induction cs with
  | nil => cases h
  | cons x cs ih =>
    rw [List.map_cons, List.find?_cons]
    by_cases e : x = c
    · subst e; simp
    · have : ¬ kyT x = kyT c := fun z => e (kyT_inj z)
      simp only [this, decide_false]
      exact ih (by rcases List.mem_cons.mp h with h | h; exact absurd h.symm e; exact h)
theorem look_none {cs : List (List Nat)} {f : List Nat → D} {c : List Nat} (h : c ∉ cs) : lookN (dct cs f) (kyT c) = none := by
  unfold lookN dct
  rw [Option.map_eq_none_iff, List.find?_eq_none]
  intro x hx
  obtain ⟨d, hd, rfl⟩ := List.mem_map.mp hx
  simp only [decide_eq_true_eq]
  exact fun z => h (by rw [← kyT_inj z]; exact hd)
theorem put_dct {cs : List (List Nat)} {f : List Nat → D} {c : List Nat} {d : D} (h : c ∈ cs) : putN (dct cs f) (kyT c) d = dct cs (fun x => if x = c then d else f x) := by
  unfold putN
  rw [look_dct h]
  simp only [Option.isSome_some, ↓reduceIte]
  unfold dct
  rw [List.map_map]
  refine List.map_congr_left fun x _ => ?_
  simp only [Function.comp]
  by_cases e : x = c
  · subst e; simp
  · have : ¬ kyT x = kyT c := fun z => e (kyT_inj z)
    simp [this, e]
theorem put_new {cs : List (List Nat)} {f : List Nat → D} {c : List Nat} (h : c ∉ cs) : putN (dct cs f) (kyT c) (f c) = dct (cs ++ [c]) f := by
  unfold putN
  rw [look_none h]
  simp only [Option.isSome_none, Bool.false_eq_true, ↓reduceIte]
  unfold dct
  rw [List.map_append]; rfl
/-! sums by cells -/
def iD (xs : List Int) : D := .tup (xs.map D.int)
def addF (f : List Nat → Int) (p : List Nat × Int) : List Nat → Int := fun c => if c = p.1 then f c + p.2 else f c
def rolF (kx : List (List Nat × Int)) : List Nat → Int := kx.foldl addF fun _ => 0
def kxOf (s : Sch) (r : List Nat) (xs : List Int) (o : List Nat) : List (List Nat × Int) := ((cellsOf s r).zip xs).map fun p => (abv s r p.1 o, p.2)
def rolN (s : Sch) (r : List Nat) (xs : List Int) (o : List Nat) : List Int := (cellsOf s o).map (rolF (kxOf s r xs o))
def isAm (s : Sch) (r : List Nat) (d : D) : Bool := match d with
  | .tup ds => decide (ds.length = prodN (szs s r)) && ds.all isIntD
  | _ => false
theorem isAm_ok {s : Sch} {r : List Nat} {xs : List Int} (h : xs.length = prodN (szs s r)) : isAm s r (iD xs) = true := by
  simp only [isAm, iD, List.length_map, h, decide_true, Bool.true_and, List.all_map, List.all_eq_true]
  intro x _
  rfl
theorem Cell.abv {s : Sch} {r c o : List Nat} (hs : SchV s) (hr : Roll s r) (hc : Cell s r c) (ho : Roll s o) (hf : fineB r o = true) : Cell s o (abv s r c o) := by
  have hrl := hr.len; have hol := ho.len; have hcl := hc.len hr
  refine ⟨by rw [abv_len hrl hcl hol, szs_len ho], fun i x k hx hk => ?_⟩
  obtain ⟨a, l', ha, hl', rfl⟩ := szs_at hk
  have hil : i < s.length := (List.getElem?_eq_some_iff.mp ha).1
  obtain ⟨y, hy⟩ := get_ex (l := c) (i := i) (by omega)
  obtain ⟨l, hl⟩ := get_ex (l := r) (i := i) (by omega)
  rw [abv_at ha hy hl hl'] at hx
  cases hx
  exact (hs.2.2.1 a (List.mem_of_getElem? ha)).up_lt (hc.at ha hl hy) (fine_at hf hl hl') (ho.at ha hl')
theorem cells_small {s : Sch} {r : List Nat} (hs : SchV s) (hr : Roll s r) : (cellsOf s r).length ≤ 60 := by
  unfold cellsOf; rw [cellsN_len]; exact szs_prod hs hr
def s_are_amounts : DSp := fun ds m Q => ∃ (s : Sch) (r : List Nat) (d : D), ds = [encS s, tD r, d] ∧ SchV s ∧ Roll s r ∧ Kn m d ∧ Q (.bl (isAm s r d)) m
theorem l_are_amounts : ∀ ds m Q, s_are_amounts ds m Q → ds.length = 3 := by rintro ds m Q ⟨s, r, d, rfl, _⟩; rfl
def t_are_amounts : DS := (xSeq (xIf (dOr (dNot (dTest (dIsi "tuple" (dVar 2)))) (dTest (dOp aNe (dCB aLen (dCons (dVar 2) dNil)) (dCB s_size_of (dCons (dVar 0) (dCons (dVar 1) dNil)))))) (xRet (dC (.bl false))) xNext)
  (xRet (dCB aAll (dCons (dLc (sSeq (dVar 2)) [3] (gV 3) dYes (dCB s_is_integer (dCons (dVar 3) dNil))) dNil))))
theorem v_are_amounts : Body 4 t_are_amounts s_are_amounts := by
  rintro ds m Q ⟨s, r, d, rfl, hs, hr, ht, q⟩
  have hq := end_rt (m0 := m) q
  obtain ⟨t, et⟩ := ht.ty
  unfold t_are_amounts
  cases d with
  | tup ls =>
    walk_at "d"
    refine ⟨s, r, rfl, hs, hr, ?_⟩
    unfold nD
    walk_at "d"
    by_cases hl : ls.length = prodN (szs s r)
    · have e1 : (ls.length : Int) = prodN (szs s r) := by omega
      have h60 := szs_prod hs hr
      simp only [e1, decide_true, Bool.not_true, Bool.false_eq_true, ↓reduceIte]
      refine ⟨_, Or.inr rfl, small (k := 1000) (by omega), ?_⟩
      refine lcGo_map (fun x => .bl (isIntD x)) _ [] _ (fun x hx K hK => ?_) ?_
      · walk_at "d"
        exact ⟨x, rfl, ht.tup hx, hK⟩
      · rw [List.nil_append]
        have e : (ls.map fun x => D.bl (isIntD x)) = (ls.map isIntD).map D.bl := by rw [List.map_map]; rfl
        rw [e]
        refine aAll_list ?_
        rw [List.all_map]
        simpa only [isAm, hl, decide_true, Bool.true_and, Function.id_comp] using hq
    · have e1 : ¬ (ls.length : Int) = prodN (szs s r) := by omega
      simp only [e1, decide_false, Bool.not_false, ↓reduceIte]
      simpa only [isAm, hl, decide_false, Bool.false_and] using hq
  | _ =>
    have e2 := isi_tup et
    simp only [xSeq, xIf, dOr, dNot, dTest, dIsi, dVar]
    refine ⟨_, rfl, t, et, _, rfl, ?_⟩
    rw [e2]
    exact hq
def s_is_table_of : DSp := fun ds m Q => ∃ (s : Sch) (d : D), ds = [encS s, d] ∧ SchV s ∧ Kn m d ∧ Q (.bl (isAm s (finN s) d)) m
theorem l_is_table_of : ∀ ds m Q, s_is_table_of ds m Q → ds.length = 2 := by rintro ds m Q ⟨s, d, rfl, _⟩; rfl
def t_is_table_of : DS := (xRet (dCB s_are_amounts (dCons (dVar 0) (dCons (dCB s_finest (dCons (dVar 0) dNil)) (dCons (dVar 1) dNil)))))
theorem v_is_table_of : Body 2 t_is_table_of s_is_table_of := by
  rintro ds m Q ⟨s, d, rfl, hs, ht, q⟩
  unfold t_is_table_of
  walk_at "d"
  exact ⟨s, rfl, hs, s, finN s, d, rfl, hs, fin_roll s, ht, end_rt q⟩
theorem kn_iD (m : Mu) (xs : List Int) : Kn m (iD xs) := Kn.of (by
  unfold iD; rw [refs]
  induction xs with
  | nil => rfl
  | cons x xs ih => rw [List.map_cons, refsL, ih]; rfl)
def s_rolled_of : DSp := fun ds m Q => ∃ (s : Sch) (r : List Nat) (xs : List Int) (o : List Nat), ds = [encS s, tD r, iD xs, tD o] ∧ SchV s ∧ Roll s r ∧ Roll s o ∧ fineB r o = true ∧ Q (iD (rolN s r xs o)) m
theorem l_rolled_of : ∀ ds m Q, s_rolled_of ds m Q → ds.length = 4 := by rintro ds m Q ⟨s, r, xs, o, rfl, _⟩; rfl
def t_rolled_of : DS := (xSeq (xAsg dNewD (gV 4))
  (xSeq (xFor (sSeq (dCB s_cells_of (dCons (dVar 0) (dCons (dVar 3) dNil)))) (gV 5) (xPut (dC (.int 0)) (dVar 4) (dVar 5)))
  (xSeq (xFor (sZip2 (dCB s_cells_of (dCons (dVar 0) (dCons (dVar 1) dNil))) (dVar 2)) (gT 2 (gC (gV 5) (gC (gV 6) gN))) (xSeq (xAsg (dCB s_cell_above (dCons (dVar 0) (dCons (dVar 1) (dCons (dVar 5) (dCons (dVar 3) dNil))))) (gV 7))
  (xPut (dOp aAdd (dOp aIx (dVar 4) (dVar 7)) (dVar 6)) (dVar 4) (dVar 7))))
  (xRet (dTupVals (dVar 4))))))
theorem dct_len (cs : List (List Nat)) (f : List Nat → D) : (dct cs f).length = cs.length := by unfold dct; rw [List.length_map]
theorem v_rolled_of : Body 8 t_rolled_of s_rolled_of := by
  rintro ds m Q ⟨s, r, xs, o, rfl, hs, hr, ho, hf, q⟩
  have h60 := cells_small hs ho
  unfold t_rolled_of
  walk_at "d"
  intro p hp
  refine ⟨s, o, rfl, hs, ho, _, Or.inl rfl, ?_⟩
  refine forGo_take (enc := tD) (fun pre rr m' => (∃ x5 x6 x7, rr = [some (encS s), some (tD r), some (iD xs), some (tD o), some (.ref p), x5, x6, x7]) ∧ m' = up m p (.dN (dct pre fun _ => .int 0))) (cellsOf s o) [] _ _ _ rfl ⟨⟨_, _, _, rfl⟩, rfl⟩ ?_ ?_
  · rintro pre c post rr m' P e ⟨⟨x5, x6, x7, rfl⟩, rfl⟩ hP
    have hn : c ∉ pre := fun hm => by
      have := cellsN_nodup (szs s o)
      rw [show cellsN (szs s o) = pre ++ c :: post from e, List.nodup_append] at this
      exact this.2.2 c hm c List.mem_cons_self rfl
    have hlen : pre.length ≤ 60 := by rw [e, List.length_append] at h60; omega
    unfold tD
    walk_at "d"
    refine ⟨_, up_same, kyT c, keyD_kyT c, kyT_depth c, small' (k := 1000) (by rw [dct_len]; omega), ?_⟩
    rw [up_up]
    exact hP _ _ ⟨⟨_, _, _, rfl⟩, by rw [← put_new hn]⟩
  · rintro rr m' ⟨⟨x5, x6, x7, rfl⟩, rfl⟩
    walk_at "d"
    refine ⟨s, r, rfl, hs, hr, ?_⟩
    unfold iD
    walk_at "d"
    rw [zip2_map]
    refine forGo_fold (enc := fun q : List Nat × Int => D.pair [tD q.1, .int q.2]) (fun g q => addF g (abv s r q.1 o, q.2)) (fun g rr m' => (∃ x5 x6 x7, rr = [some (encS s), some (tD r), some (.tup (xs.map D.int)), some (tD o), some (.ref p), x5, x6, x7]) ∧ m' = up m p (.dN (dct (cellsOf s o) fun c => .int (g c)))) _ _ _ _ ⟨⟨_, _, _, rfl⟩, rfl⟩ ?_ ?_
    · rintro g ⟨c, x⟩ rr m' P hq ⟨⟨x5, x6, x7, rfl⟩, rfl⟩ hP
      have hc : Cell s r c := cell_iff.mp (List.of_mem_zip hq).1
      have hin := cell_iff.mpr (hc.abv hs hr ho hf)
      walk_at "d"
      refine ⟨s, r, c, o, rfl, hs, hr, hc, ho, hf, ?_⟩
      unfold tD
      walk_at "d"
      refine ⟨p, _, kyT (abv s r c o), _, rfl, up_same, keyD_kyT _, kyT_depth _, look_dct hin, ?_⟩
      walk_at "d"
      refine ⟨_, up_same, kyT (abv s r c o), keyD_kyT _, kyT_depth _, small' (k := 1000) (by rw [dct_len]; omega), ?_⟩
      rw [up_up, put_dct hin]
      refine hP _ _ ⟨⟨_, _, _, rfl⟩, ?_⟩
      congr 2
      unfold dct
      refine List.map_congr_left fun y _ => ?_
      by_cases ey : y = abv s r c o
      · subst ey; simp [addF]
      · simp [addF, ey]
    · rintro rr m' ⟨⟨x5, x6, x7, rfl⟩, rfl⟩
      walk_at "d"
      refine ⟨_, up_same, ?_⟩
      refine end_rtL (m2 := m) (fun b z hb => ?_) ?_
      · rw [up_ne (fun z => by subst z; rw [hp] at hb; cases hb)]; exact hb
      · have e : ((dct (cellsOf s o) fun c => D.int (((cellsOf s r).zip xs).foldl (fun g q => addF g (abv s r q.1 o, q.2)) (fun _ => 0) c)).map (·.2)) = (rolN s r xs o).map D.int := by
          unfold dct rolN rolF kxOf
          rw [List.map_map, List.map_map, List.foldl_map]
          rfl
        rw [e]
        exact q
theorem fin_fine {s : Sch} {o : List Nat} : fineB (finN s) o = true := fine_of fun i x y hx _ => by
  unfold finN at hx
  rw [List.getElem?_replicate] at hx
  split at hx
  · cases hx; exact Nat.zero_le _
  · cases hx
def s_sums_of : DSp := fun ds m Q => ∃ (s : Sch) (xs : List Int) (o : List Nat), ds = [encS s, iD xs, tD o] ∧ SchV s ∧ Roll s o ∧ Q (iD (rolN s (finN s) xs o)) m
theorem l_sums_of : ∀ ds m Q, s_sums_of ds m Q → ds.length = 3 := by rintro ds m Q ⟨s, xs, o, rfl, _⟩; rfl
def t_sums_of : DS := (xRet (dCB s_rolled_of (dCons (dVar 0) (dCons (dCB s_finest (dCons (dVar 0) dNil)) (dCons (dVar 1) (dCons (dVar 2) dNil))))))
theorem v_sums_of : Body 3 t_sums_of s_sums_of := by
  rintro ds m Q ⟨s, xs, o, rfl, hs, ho, q⟩
  unfold t_sums_of
  walk_at "d"
  exact ⟨s, rfl, hs, s, finN s, xs, o, rfl, hs, fin_roll s, ho, fin_fine, end_rt q⟩
def Tab (s : Sch) (xs : List Int) : Prop := xs.length = prodN (szs s (finN s))
def s_need_table : DSp := fun ds m Q => ∃ (s : Sch) (xs : List Int), ds = [encS s, iD xs] ∧ SchV s ∧ Tab s xs ∧ Q .non m
theorem l_need_table : ∀ ds m Q, s_need_table ds m Q → ds.length = 2 := by rintro ds m Q ⟨s, xs, rfl, _⟩; rfl
def t_need_table : DS := (xIf (dNot (dTest (dCB s_is_table_of (dCons (dVar 0) (dCons (dVar 1) dNil))))) xNever xNext)
theorem v_need_table : Body 2 t_need_table s_need_table := by
  rintro ds m Q ⟨s, xs, rfl, hs, hx, q⟩
  unfold t_need_table
  walk_at "d"
  refine ⟨s, _, rfl, hs, kn_iD m xs, _, rfl, ?_⟩
  rw [isAm_ok hx]
  exact end_nx q
def s_sums : DSp := fun ds m Q => ∃ (s : Sch) (xs : List Int) (o : List Nat), ds = [encS s, iD xs, tD o] ∧ SchV s ∧ Tab s xs ∧ Roll s o ∧ Q (iD (rolN s (finN s) xs o)) m
theorem l_sums : ∀ ds m Q, s_sums ds m Q → ds.length = 3 := by rintro ds m Q ⟨s, xs, o, rfl, _⟩; rfl
def t_sums : DS := (xSeq (xDrop (dCB s_need_scheme (dCons (dVar 0) dNil)))
  (xSeq (xDrop (dCB s_need_table (dCons (dVar 0) (dCons (dVar 1) dNil))))
  (xSeq (xDrop (dCB s_need_rollup (dCons (dVar 0) (dCons (dVar 2) dNil))))
  (xRet (dCB s_sums_of (dCons (dVar 0) (dCons (dVar 1) (dCons (dVar 2) dNil))))))))
theorem v_sums : Body 3 t_sums s_sums := by
  rintro ds m Q ⟨s, xs, o, rfl, hs, hx, ho, q⟩
  unfold t_sums
  walk_at "d"
  exact ⟨s, rfl, hs, s, xs, rfl, hs, hx, s, o, rfl, hs.2.1, ho, s, xs, o, rfl, hs, ho, end_rt q⟩
end Mn

set_option linter.all false
set_option maxHeartbeats 4000000
set_option autoImplicit false
set_option maxRecDepth 100000
namespace Mn
open PySem L2
variable [Tbs]
local macro_rules | `(tactic| walk_at "d") => `(tactic| (try simp only [xNext, xSeq, xAsg, xRet, xRetF, xDrop, xIf, xPar, xPar3, xMatch, mGo, xFrz, xPut, xAug, xFor, dVar, dC, dOp, dTest, dChain, dAndV, dOrV, dNotV, dAnd, dOr, dNot, dIf, dNil, dCons, dTup, dLst, dLstM, dCB, dIsi, dLc, dLcM, dYes, wipeD, dSlice, oSome, oNone, aSl_tup, aSl_lst, dNeg, dStar, dNewD, dTupVals, dSortSet, dCountL, dExtend, dAppend, dFrz, dLc2, dCountT, dIndexT, sqf_tup, sqf_lst, sqf_pair, sSeq, sSeq_tup, sSeq_lst, sRg1, sRg2, sZip2, sZip3, sZip4, sEnum, gV, gN, gC, gT, tupOf_tup, tupOf_pair, aAdd_int, aAdd_tup, aAdd_lst, aSub_int, aMul_int, aDiv_int, aMod_int, aPow_int, aCmp_int, aIx_tup, aIx_lst, aIx_scr, aIx_pair, aMax_int, aMin_int, aInt_bl, aInt_int, aLen_tup, aLen_lst, aLen_scr, aLen_pair, aTuple_lst, aTuple_tup, aIsB_bl, aNotB_bl, aEq_int, aNe_int, startD, List.map_cons, List.map_nil, List.length_cons, List.length_nil, List.cons_append, List.nil_append, List.replicate_zero, List.replicate_succ, List.append_nil, List.getElem?_cons_zero, List.getElem?_cons_succ, List.set_cons_zero, List.set_cons_succ, Option.some.injEq, exists_eq_left', exists_eq_left, exists_eq', D.int.injEq, D.bl.injEq, D.tup.injEq, D.lst.injEq, D.pair.injEq, D.ref.injEq, List.cons.injEq, Nat.sub_self, Nat.zero_add, Nat.add_sub_cancel, seqI_tup, seqI_lst, seqOf_tup, seqOf_lst, tyN_tup, tyN_lst, tyN_int, tyN_bl, tyN_str, tyN_non, isi_tt, at_0, at_1, at_2, at_3, Option.map_some, true_and, and_true, if_true, Bool.false_eq_true, if_false, Bool.not_true, Bool.not_false, ↓reduceIte, Nat.reduceAdd, Nat.reduceSub, exists_and_left, and_assoc]))
/-! the order of cells -/
/-! places: for each cell of the finest rollup the cell above -/
theorem flatMap_cong {α β : Type} {f g : α → List β} : ∀ {l : List α}, (∀ x ∈ l, f x = g x) → l.flatMap f = l.flatMap g
  | [], _ => rfl
  | x :: l, h => by rw [List.flatMap_cons, List.flatMap_cons, h x List.mem_cons_self, flatMap_cong fun y hy => h y (List.mem_cons_of_mem _ hy)]
namespace B
theorem cutD_to (ds : List D) (hi : Nat) (h : hi ≤ ds.length) : cutD ds none (some (hi : Int)) = ds.take hi := by
  unfold cutD
  rw [HT.sIx_nat, Nat.min_eq_left h, show HT.sIx ds.length 0 none = 0 from rfl, List.drop_zero, Nat.sub_zero]
def s_law_groups : DSp := fun ds m Q => ∃ (a : At) (l : Nat), ds = [a.enc, nD l] ∧ a.V ∧ l ≤ a.ss.length ∧ Q (lD (rowN a l)) m
theorem l_law_groups : ∀ ds m Q, s_law_groups ds m Q → ds.length = 2 := by rintro ds m Q ⟨a, l, rfl, _⟩; rfl
def t_law_groups : DS := (xSeq (xAsg (dListRg (dOp aIx (dVar 0) (dC (.int 0)))) (gV 2))
  (xSeq (xFor (sSeq (dSlice (dOp aIx (dVar 0) (dC (.int 1))) oNone (oSome (dVar 1)))) (gV 3) (xAsg (dLc (sSeq (dVar 2)) [4] (gV 4) dYes (dOp aIx (dVar 3) (dVar 4))) (gV 2)))
  (xRet (dVar 2))))
theorem v_law_groups : Body 5 t_law_groups s_law_groups := by
  rintro ds m Q ⟨a, l, rfl, ha, hl, q⟩
  have hq := end_rt (m0 := m) q
  have h6 := ha.2.1; have h3 := ha.2.2.1
  unfold t_law_groups At.enc dListRg nD
  walk_at "d"
  refine ⟨by omega, by omega, ?_⟩
  rw [rgD_nat, cutD_to _ _ (by rw [List.length_map]; exact hl), ← List.map_take]
  refine ⟨_, .inr rfl, ?_⟩
  refine forGo_take (enc := tD) (fun pre rr m' => m' = m ∧ ∃ x3 x4, rr = [some (.tup [.int (a.n : Int), .tup (a.ss.map tD)]), some (.int (l : Int)), some (lD (rowN a pre.length)), x3, x4]) (a.ss.take l) [] _ _ _ rfl ⟨rfl, none, none, ?_⟩ ?_ ?_
  · rw [List.length_nil, rowN_zero]; rfl
  · rintro pre st post rr m' P e ⟨rfl, x3, x4, rfl⟩ hP
    have hpl : pre.length < l := by
      have := congrArg List.length e
      rw [List.length_append, List.length_cons, List.length_take] at this
      omega
    have hst : st = a.ss.getD pre.length [] := by
      have e1 : (a.ss.take l)[pre.length]? = some st := by rw [e, List.getElem?_append_right (Nat.le_refl _), Nat.sub_self]; rfl
      rw [List.getElem?_take_of_lt (by omega)] at e1
      rw [List.getD_eq_getElem?_getD, e1]; rfl
    have hs := ha.step (l := pre.length) (by omega)
    unfold lD
    walk_at "d"
    refine ⟨_, .inl rfl, small (k := 1000) (by rw [List.length_map]; unfold rowN; rw [List.length_map, List.length_range]; omega), ?_⟩
    refine lcGo_maps (fun g => nD (stepG st g)) (rowN a pre.length) [] _ (fun g hg K hK => ?_) ?_
    · obtain ⟨v, hv, rfl⟩ := List.mem_map.mp hg
      have hlt : a.up v 0 pre.length < a.sz pre.length := ha.up_lt (List.mem_range.mp hv) (Nat.zero_le _) (by omega)
      unfold tD nD
      walk_at "d"
      refine ⟨_, ?_, hK⟩
      rw [at_nat, List.getElem?_map, List.getElem?_eq_getElem (by rw [hst, hs.1]; exact hlt), stepG_get (by rw [hst, hs.1]; exact hlt)]
      rfl
    · rw [List.nil_append]
      have erow : ((rowN a pre.length).map fun g => nD (stepG st g)) = (rowN a (pre.length + 1)).map nD := by
        unfold rowN
        rw [List.map_map, List.map_map]
        refine List.map_congr_left fun v _ => ?_
        simp only [Function.comp]
        rw [up_succ (Nat.zero_le _) (by omega), ← hst]
      rw [erow]
      refine hP _ _ ⟨rfl, some (tD st), x4, ?_⟩
      rw [List.length_append, List.length_singleton]
      rfl
  · rintro rr m' ⟨rfl, x3, x4, rfl⟩
    rw [List.length_take, Nat.min_eq_left hl]
    walk_at "d"
    exact hq
theorem cell_bd {s : Sch} {r c : List Nat} (hs : SchV s) (hr : Roll s r) (h : Cell s r c) : ∀ x ∈ c, x < 6 := by
  intro x hx
  obtain ⟨i, hi⟩ := List.mem_iff_getElem?.mp hx
  have hl := h.len hr
  have hi2 : i < s.length := by rw [← hl]; exact (List.getElem?_eq_some_iff.mp hi).1
  obtain ⟨a, ha⟩ := get_ex hi2
  obtain ⟨l, hl2⟩ := get_ex (l := r) (i := i) (by rw [hr.len]; exact hi2)
  have h1 := h.at ha hl2 hi
  have hv := hs.2.2.1 a (List.mem_of_getElem? ha)
  have := (hv.sz_le (hr.at ha hl2)).2
  have := hv.2.1
  omega
end B
end Mn

set_option linter.all false
set_option maxHeartbeats 4000000
set_option autoImplicit false
set_option maxRecDepth 100000
namespace Mn
open PySem L2
variable [Tbs]
local macro_rules | `(tactic| walk_at "d") => `(tactic| (try simp only [xNext, xSeq, xAsg, xRet, xRetF, xDrop, xIf, xPar, xPar3, xFrz, xPut, xAug, xFor, dVar, dC, dOp, dTest, dChain, dAndV, dOrV, dNotV, dAnd, dOr, dNot, dIf, dNil, dCons, dTup, dLst, dLstM, dCB, dIsi, dLc, dLcM, dYes, wipeD, dSlice, oSome, oNone, aSl_tup, aSl_lst, dNeg, dStar, dNewD, dTupVals, dCountL, dExtend, dAppend, dFrz, dLc2, dCountT, dIndexT, sqf_tup, sqf_lst, sqf_pair, sSeq, sSeq_tup, sSeq_lst, sRg1, sRg2, sZip2, sZip3, sZip4, sEnum, gV, gN, gC, gT, tupOf_tup, tupOf_pair, aAdd_int, aAdd_tup, aAdd_lst, aSub_int, aMul_int, aDiv_int, aMod_int, aPow_int, aCmp_int, aIx_tup, aIx_lst, aIx_scr, aIx_pair, aMax_int, aMin_int, aInt_bl, aInt_int, aLen_tup, aLen_lst, aLen_scr, aLen_pair, aTuple_lst, aTuple_tup, aEq_int, aNe_int, startD, List.map_cons, List.map_nil, List.length_cons, List.length_nil, List.cons_append, List.nil_append, List.replicate_zero, List.replicate_succ, List.append_nil, List.getElem?_cons_zero, List.getElem?_cons_succ, List.set_cons_zero, List.set_cons_succ, Option.some.injEq, exists_eq_left', exists_eq_left, exists_eq', D.int.injEq, D.bl.injEq, D.tup.injEq, D.lst.injEq, D.pair.injEq, D.ref.injEq, List.cons.injEq, Nat.sub_self, Nat.zero_add, Nat.add_sub_cancel, seqI_tup, seqI_lst, seqOf_tup, seqOf_lst, tyN_tup, tyN_lst, tyN_int, tyN_bl, tyN_str, tyN_non, isi_tt, at_0, at_1, at_2, at_3, Option.map_some, true_and, and_true, if_true, Bool.false_eq_true, if_false, Bool.not_true, Bool.not_false, ↓reduceIte, Nat.reduceAdd, Nat.reduceSub, exists_and_left, and_assoc]))
/-! loops that return -/
section
variable {α : Type} {enc : α → D} {g : DG} {tb : DS} {De : DE}
theorem forGo_find (f : α → Option D) (I : Ro → Prop) (m : Mu) : ∀ (xs : List α) (r : Ro), I r →
    (∀ x ∈ xs, ∀ (r : Ro) (P : Ro → Mu → Prop), I r → (∀ d, f x = some d → De.rt d m) → (f x = none → ∀ r', I r' → P r' m) → g (enc x) r fun r1 => tb { De with nx := P, ct := P, bk := De.nx } r1 m) →
    (∀ d, xs.findSome? f = some d → De.rt d m) → (xs.findSome? f = none → ∀ r', I r' → De.nx r' m) → forGo g tb De (xs.map enc) r m
  | [], r, h0, _, _, h2 => h2 rfl r h0
  | x :: xs, r, h0, hs, h1, h2 => by
    refine hs x List.mem_cons_self r (forGo g tb De (xs.map enc)) h0 (fun d e => h1 d (by rw [List.findSome?_cons, e])) fun e r' h' => ?_
    exact forGo_find f I m xs r' h' (fun y hy => hs y (List.mem_cons_of_mem _ hy)) (fun d e2 => h1 d (by rw [List.findSome?_cons, e]; exact e2)) (fun e2 => h2 (by rw [List.findSome?_cons, e]; exact e2))
end
theorem findSome_if {α β : Type} (p : α → Bool) (f : α → β) : ∀ xs : List α, xs.findSome? (fun x => if p x = true then some (f x) else none) = (xs.find? p).map f
  | [] => rfl
  | x :: xs => by
    rw [List.findSome?_cons, List.find?_cons]
    by_cases h : p x = true
    · simp [h]
    · simp [h, findSome_if p f xs]
/-! the stored -/
def stD (st : List (List Nat)) : D := .tup (st.map tD)
def Stv (s : Sch) (st : List (List Nat)) : Prop := st.length ≤ 8 ∧ ∀ r ∈ st, Roll s r
def isRolls (s : Sch) (d : D) : Bool := match d with
  | .tup ds => decide (ds.length ≤ 8) && ds.all (isRoll s)
  | _ => false
def s_are_rollups : DSp := fun ds m Q => ∃ (s : Sch) (d : D), ds = [encS s, d] ∧ s.length ≤ 3 ∧ Kn m d ∧ Q (.bl (isRolls s d)) m
theorem l_are_rollups : ∀ ds m Q, s_are_rollups ds m Q → ds.length = 2 := by rintro ds m Q ⟨s, d, rfl, _⟩; rfl
def t_are_rollups : DS := (xRet (dAndV (dIsi "tuple" (dVar 1)) (dAndV (dOp aLe (dCB aLen (dCons (dVar 1) dNil)) (dC (.int 8))) (dCB aAll (dCons (dLc (sSeq (dVar 1)) [2] (gV 2) dYes (dCB s_is_rollup (dCons (dVar 0) (dCons (dVar 2) dNil)))) dNil)))))
theorem v_are_rollups : Body 3 t_are_rollups s_are_rollups := by
  rintro ds m Q ⟨s, d, rfl, h3, ht, q⟩
  have hq := end_rt (m0 := m) q
  obtain ⟨t, et⟩ := ht.ty
  unfold t_are_rollups
  cases d with
  | tup ls =>
    walk_at "d"
    by_cases hl : ls.length ≤ 8
    · have e1 : (ls.length : Int) ≤ 8 := by omega
      simp only [e1, decide_true, ↓reduceIte]
      refine ⟨_, Or.inr rfl, small (k := 1000) (by omega), ?_⟩
      refine lcGo_map (fun x => .bl (isRoll s x)) _ [] _ (fun x hx K hK => ?_) ?_
      · walk_at "d"
        exact ⟨s, x, rfl, h3, ht.tup hx, hK⟩
      · rw [List.nil_append]
        have e : (ls.map fun x => D.bl (isRoll s x)) = (ls.map (isRoll s)).map D.bl := by rw [List.map_map]; rfl
        rw [e]
        refine aAll_list ?_
        rw [List.all_map]
        simpa only [isRolls, hl, decide_true, Bool.true_and, Function.id_comp] using hq
    · have e1 : ¬ (ls.length : Int) ≤ 8 := by omega
      simp only [e1, decide_false, Bool.false_eq_true, ↓reduceIte]
      simpa only [isRolls, hl, decide_false, Bool.false_and] using hq
  | _ =>
    have e2 := isi_tup et
    simp only [xRet, dAndV, dIsi, dVar]
    refine ⟨_, rfl, t, et, _, rfl, ?_⟩
    rw [e2]
    exact hq
theorem Stv.ok {s : Sch} {st : List (List Nat)} (h : Stv s st) : isRolls s (stD st) = true := by
  simp only [isRolls, stD, List.length_map, h.1, decide_true, Bool.true_and, List.all_map, List.all_eq_true]
  intro r hr
  exact h.2 r hr
theorem kn_stD (m : Mu) (st : List (List Nat)) : Kn m (stD st) := Kn.of (by
  unfold stD; rw [refs]
  induction st with
  | nil => rfl
  | cons x xs ih =>
    rw [List.map_cons, refsL, ih, List.append_nil]
    unfold tD; rw [refs]
    clear ih
    induction x with
    | nil => rfl
    | cons y ys ih => rw [List.map_cons, refsL, ih]; rfl)
def s_need_stored : DSp := fun ds m Q => ∃ (s : Sch) (st : List (List Nat)), ds = [encS s, stD st] ∧ s.length ≤ 3 ∧ Stv s st ∧ Q .non m
theorem l_need_stored : ∀ ds m Q, s_need_stored ds m Q → ds.length = 2 := by rintro ds m Q ⟨s, d, rfl, _⟩; rfl
def t_need_stored : DS := (xIf (dNot (dTest (dCB s_are_rollups (dCons (dVar 0) (dCons (dVar 1) dNil))))) xNever xNext)
theorem v_need_stored : Body 2 t_need_stored s_need_stored := by
  rintro ds m Q ⟨s, st, rfl, h3, hst, q⟩
  unfold t_need_stored
  walk_at "d"
  refine ⟨s, _, rfl, h3, kn_stD m st, _, rfl, ?_⟩
  rw [hst.ok]
  exact end_nx q
def s_need_wanted : DSp := fun ds m Q => ∃ (s : Sch) (st : List (List Nat)) (w : List Nat), ds = [encS s, stD st, tD w] ∧ SchV s ∧ Stv s st ∧ Roll s w ∧ Q .non m
theorem l_need_wanted : ∀ ds m Q, s_need_wanted ds m Q → ds.length = 3 := by rintro ds m Q ⟨s, st, w, rfl, _⟩; rfl
def t_need_wanted : DS := (xSeq (xDrop (dCB s_need_scheme (dCons (dVar 0) dNil)))
  (xSeq (xDrop (dCB s_need_stored (dCons (dVar 0) (dCons (dVar 1) dNil))))
  (xDrop (dCB s_need_rollup (dCons (dVar 0) (dCons (dVar 2) dNil))))))
theorem v_need_wanted : Body 3 t_need_wanted s_need_wanted := by
  rintro ds m Q ⟨s, st, w, rfl, hs, hst, hw, q⟩
  unfold t_need_wanted
  walk_at "d"
  exact ⟨s, rfl, hs, s, st, rfl, hs.2.1, hst, s, w, rfl, hs.2.1, hw, end_nx q⟩
/-! the place -/
def plN (st : List (List Nat)) (w : List Nat) : Option Nat := ((st.zipIdx 0).find? fun q => fineB q.1 w).map (·.2)
def plI (o : Option Nat) : Int := match o with
  | some i => (i : Int)
  | none => -1
def s_place_ofT : DSp := fun ds m Q => ∃ (st : List (List Nat)) (w : List Nat), ds = [stD st, tD w] ∧ (∀ r ∈ st, r.length ≤ 1000) ∧ Q (.int (plI (plN st w))) m
def s_place_ofL : DSp := fun ds m Q => ∃ (st : List (List Nat)) (w : List Nat), ds = [.lst (st.map tD), tD w] ∧ (∀ r ∈ st, r.length ≤ 1000) ∧ Q (.int (plI (plN st w))) m
def s_place_of : DSp := fun ds m Q => s_place_ofT ds m Q ∨ s_place_ofL ds m Q
theorem l_place_of : ∀ ds m Q, s_place_of ds m Q → ds.length = 2 := by rintro ds m Q (⟨st, w, rfl, _⟩ | ⟨st, w, rfl, _⟩) <;> rfl
def t_place_of : DS := (xSeq (xFor (sEnum (dVar 0)) (gT 2 (gC (gV 2) (gC (gV 3) gN))) (xIf (dTest (dCB s_are_fine (dCons (dVar 3) (dCons (dVar 1) dNil)))) (xRet (dVar 2)) xNext))
  (xRet (dNeg (dC (.int 1)))))
theorem v_place_ofT : Body 4 t_place_of s_place_ofT := by
  rintro ds m Q ⟨st, w, rfl, hst, q⟩
  have hq := end_rt (m0 := m) q
  unfold t_place_of stD
  walk_at "d"
  rw [enumD_map]
  have ef := findSome_if (fun q : List Nat × Nat => fineB q.1 w) (fun q => nD q.2) (st.zipIdx 0)
  refine forGo_find (enc := fun q : List Nat × Nat => D.pair [.int (q.2 : Nat), tD q.1]) (fun q : List Nat × Nat => if fineB q.1 w = true then some (nD q.2) else none) (fun r => ∃ x2 x3, r = [some (.tup (st.map tD)), some (tD w), x2, x3]) m _ _ ⟨_, _, rfl⟩ ?_ ?_ ?_
  · rintro ⟨r, i⟩ hx rr P ⟨x2, x3, rfl⟩ h1 h2
    walk_at "d"
    have hr : r ∈ st := by
      rw [List.mem_zipIdx_iff_getElem?] at hx
      exact List.mem_of_getElem? hx
    refine ⟨r, w, rfl, hst r hr, _, rfl, ?_⟩
    by_cases h : fineB r w = true
    · simp only [h, ↓reduceIte, Option.some.injEq, forall_eq'] at h1 ⊢
      exact h1
    · simp only [h, Bool.false_eq_true, ↓reduceIte, true_implies] at h2 ⊢
      exact h2 _ ⟨_, _, rfl⟩
  · intro d e
    rw [ef] at e
    unfold plN at hq
    obtain ⟨q, e2, rfl⟩ := Option.map_eq_some_iff.mp e
    rw [e2] at hq
    exact hq
  · rintro e rr ⟨x2, x3, rfl⟩
    rw [ef, Option.map_eq_none_iff] at e
    unfold plN at hq
    rw [e] at hq
    walk_at "d"
    exact hq
theorem v_place_ofL : Body 4 t_place_of s_place_ofL := by
  rintro ds m Q ⟨st, w, rfl, hst, q⟩
  have hq := end_rt (m0 := m) q
  unfold t_place_of
  walk_at "d"
  rw [enumD_map]
  have ef := findSome_if (fun q : List Nat × Nat => fineB q.1 w) (fun q => nD q.2) (st.zipIdx 0)
  refine forGo_find (enc := fun q : List Nat × Nat => D.pair [.int (q.2 : Nat), tD q.1]) (fun q : List Nat × Nat => if fineB q.1 w = true then some (nD q.2) else none) (fun r => ∃ x2 x3, r = [some (.lst (st.map tD)), some (tD w), x2, x3]) m _ _ ⟨_, _, rfl⟩ ?_ ?_ ?_
  · rintro ⟨r, i⟩ hx rr P ⟨x2, x3, rfl⟩ h1 h2
    walk_at "d"
    have hr : r ∈ st := by
      rw [List.mem_zipIdx_iff_getElem?] at hx
      exact List.mem_of_getElem? hx
    refine ⟨r, w, rfl, hst r hr, _, rfl, ?_⟩
    by_cases h : fineB r w = true
    · simp only [h, ↓reduceIte, Option.some.injEq, forall_eq'] at h1 ⊢
      exact h1
    · simp only [h, Bool.false_eq_true, ↓reduceIte, true_implies] at h2 ⊢
      exact h2 _ ⟨_, _, rfl⟩
  · intro d e
    rw [ef] at e
    unfold plN at hq
    obtain ⟨q, e2, rfl⟩ := Option.map_eq_some_iff.mp e
    rw [e2] at hq
    exact hq
  · rintro e rr ⟨x2, x3, rfl⟩
    rw [ef, Option.map_eq_none_iff] at e
    unfold plN at hq
    rw [e] at hq
    walk_at "d"
    exact hq
theorem v_place_of : Body 4 t_place_of s_place_of := by
  rintro ds m Q (h | h)
  · exact v_place_ofT ds m Q h
  · exact v_place_ofL ds m Q h
/-! the two values taken -/
theorem findSome_map {α β γ : Type} (h : β → γ) (g : α → Option β) : ∀ xs : List α, xs.findSome? (fun x => (g x).map h) = (xs.findSome? g).map h
  | [] => rfl
  | x :: xs => by
    rw [List.findSome?_cons, List.findSome?_cons]
    cases g x with
    | none => exact findSome_map h g xs
    | some y => rfl
def tkC (a : At) (l i j : Nat) : Bool := decide (a.up i 0 l ≠ a.up j 0 l) && decide (a.up i 0 (l + 1) = a.up j 0 (l + 1))
def tkJ (a : At) (l i : Nat) : Option (List Nat) := (List.range' (i + 1) (a.n - (i + 1))).findSome? fun j => if tkC a l i j = true then some [i, j] else none
def tkO (a : At) (l : Nat) : Option (List Nat) := (List.range a.n).findSome? fun i => tkJ a l i
def tkN (a : At) (l : Nat) : List Nat := if l < a.ss.length then (tkO a l).getD [0] else [0]
def TkV (n : Nat) (t : List Nat) : Prop := t = [0] ∨ ∃ i j, i < j ∧ j < n ∧ t = [i, j]
theorem tk_v (a : At) (l : Nat) : TkV a.n (tkN a l) := by
  unfold tkN
  by_cases h : l < a.ss.length
  · rw [if_pos h]
    cases e : tkO a l with
    | none => exact Or.inl rfl
    | some t =>
      unfold tkO at e
      obtain ⟨i, hi, e⟩ := List.exists_of_findSome?_eq_some e
      unfold tkJ at e
      obtain ⟨j, hj, e⟩ := List.exists_of_findSome?_eq_some e
      rw [List.mem_range'_1] at hj
      rw [List.mem_range] at hi
      split at e
      · cases e; exact Or.inr ⟨i, j, by omega, by omega, rfl⟩
      · cases e
  · rw [if_neg h]; exact Or.inl rfl
def s_taken_at : DSp := fun ds m Q => ∃ (a : At) (l : Nat), ds = [a.enc, nD l] ∧ a.V ∧ l ≤ a.ss.length ∧ Q (tD (tkN a l)) m
theorem l_taken_at : ∀ ds m Q, s_taken_at ds m Q → ds.length = 2 := by rintro ds m Q ⟨a, l, rfl, _⟩; rfl
def t_taken_at : DS := (xSeq (xAsg (dVar 0) (gT 2 (gC (gV 2) (gC (gV 3) gN))))
  (xSeq (xIf (dTest (dOp aLt (dVar 1) (dCB aLen (dCons (dVar 3) dNil)))) (xFor (sRg1 (dVar 2)) (gV 4) (xFor (sRg2 (dOp aAdd (dVar 4) (dC (.int 1))) (dVar 2)) (gV 5) (xSeq (xPar 6 7 (dCons (dCB s_group_above (dCons (dVar 0) (dCons (dVar 4) (dCons (dC (.int 0)) (dCons (dVar 1) dNil))))) (dCons (dCB s_group_above (dCons (dVar 0) (dCons (dVar 5) (dCons (dC (.int 0)) (dCons (dVar 1) dNil))))) dNil)))
  (xIf (dAnd (dTest (dOp aNe (dVar 6) (dVar 7))) (dTest (dOp aEq (dOp aIx (dOp aIx (dVar 3) (dVar 1)) (dVar 6)) (dOp aIx (dOp aIx (dVar 3) (dVar 1)) (dVar 7))))) (xRet (dTup (dCons (dVar 4) (dCons (dVar 5) dNil)))) xNext)))) xNext)
  (xRet (dTup (dCons (dC (.int 0)) dNil)))))
theorem v_taken_at : Body 8 t_taken_at s_taken_at := by
  rintro ds m Q ⟨a, l, rfl, av, hl, q⟩
  have hq := end_rt (m0 := m) q
  have a6 := av.2.1; have a3 := av.2.2.1
  unfold tkN at hq
  unfold t_taken_at At.enc nD
  walk_at "d"
  rw [List.length_map]
  by_cases hlt : l < a.ss.length
  · have e1 : (l : Int) < (a.ss.length : Int) := by omega
    rw [if_pos hlt] at hq
    simp only [e1, decide_true, ↓reduceIte]
    refine ⟨by omega, by omega, ?_⟩
    rw [rgD_map]
    refine forGo_find (enc := fun i : Nat => D.int (i : Int)) (fun i => (tkJ a l i).map tD) (fun r => ∃ x4 x5 x6 x7, r = [some (.tup [.int (a.n : Int), .tup (a.ss.map tD)]), some (.int (l : Int)), some (.int (a.n : Int)), some (.tup (a.ss.map tD)), x4, x5, x6, x7]) m _ _ ⟨_, _, _, _, rfl⟩ ?_ ?_ ?_
    · rintro i hi rr P ⟨x4, x5, x6, x7, rfl⟩ h1 h2
      have hi' : i < a.n := List.mem_range.mp hi
      walk_at "d"
      refine ⟨by omega, by omega, by omega, by omega, ?_⟩
      rw [show ((i : Int) + 1) = ((i + 1 : Nat) : Int) by omega, rgD_map2]
      have ej : (List.range' (i + 1) (a.n - (i + 1))).findSome? (fun j => (if tkC a l i j = true then some [i, j] else none).map tD) = (tkJ a l i).map tD := findSome_map tD _ _
      refine forGo_find (enc := fun i : Nat => D.int (i : Int)) (fun j => (if tkC a l i j = true then some [i, j] else none).map tD) (fun r => ∃ x5 x6 x7, r = [some (.tup [.int (a.n : Int), .tup (a.ss.map tD)]), some (.int (l : Int)), some (.int (a.n : Int)), some (.tup (a.ss.map tD)), some (.int (i : Int)), x5, x6, x7]) m _ _ ⟨_, _, _, rfl⟩ ?_ ?_ ?_
      · rintro j hj rr P2 ⟨x5, x6, x7, rfl⟩ g1 g2
        rw [List.mem_range'_1] at hj
        walk_at "d"
        refine ⟨a, i, 0, l, rfl, av, Nat.zero_le _, hl, hi', a, j, 0, l, rfl, av, Nat.zero_le _, hl, by show j < a.n; omega, ?_⟩
        have hs := av.step hlt
        have ui := av.up_lt (g := i) (lo := 0) hi' (Nat.zero_le _) hl
        have uj := av.up_lt (g := j) (lo := 0) (show j < a.n by omega) (Nat.zero_le _) hl
        have hst : at_ (a.ss.map tD) (l : Int) = some (tD (a.ss.getD l [])) := by
          rw [at_nat, List.getElem?_map, List.getElem?_eq_getElem hlt, List.getD_eq_getElem?_getD, List.getElem?_eq_getElem hlt]; rfl
        have hix : ∀ g, g < a.sz l → at_ ((a.ss.getD l []).map nD) (g : Int) = some (nD (stepG (a.ss.getD l []) g)) := fun g hg => by
          rw [at_nat, List.getElem?_map, List.getElem?_eq_getElem (by have := hs.1; omega), stepG_get (by have := hs.1; omega)]; rfl
        unfold nD
        walk_at "d"
        have en : (!decide ((a.up i 0 l : Int) = (a.up j 0 l : Int))) = decide (a.up i 0 l ≠ a.up j 0 l) := by
          rw [← decide_not, decide_eq_decide]; omega
        rw [en]
        unfold tkC at g1 g2
        by_cases h3 : a.up i 0 l = a.up j 0 l
        · simp only [h3, ne_eq, not_true_eq_false, decide_false, Bool.false_and, Bool.false_eq_true, ↓reduceIte, Option.map_none, true_implies] at g2 ⊢
          exact g2 _ ⟨_, _, _, rfl⟩
        · simp only [h3, ne_eq, not_false_eq_true, decide_true, Bool.true_and, ↓reduceIte] at g1 g2 ⊢
          refine ⟨_, hst, ?_⟩
          unfold tD
          walk_at "d"
          refine ⟨_, hix _ ui, _, hst, ?_⟩
          unfold tD
          walk_at "d"
          refine ⟨_, hix _ uj, ?_⟩
          rw [up_succ (Nat.zero_le _) hlt, up_succ (Nat.zero_le _) hlt] at g1 g2
          unfold nD
          walk_at "d"
          by_cases h4 : stepG (a.ss.getD l []) (a.up i 0 l) = stepG (a.ss.getD l []) (a.up j 0 l)
          · have e4 : ((stepG (a.ss.getD l []) (a.up i 0 l) : Nat) : Int) = ((stepG (a.ss.getD l []) (a.up j 0 l) : Nat) : Int) := by omega
            simp only [e4, decide_true, ↓reduceIte]
            simp only [h4, decide_true, ↓reduceIte, Option.map_some, Option.some.injEq, forall_eq'] at g1
            exact ⟨by decide, g1⟩
          · have e4 : ¬ ((stepG (a.ss.getD l []) (a.up i 0 l) : Nat) : Int) = ((stepG (a.ss.getD l []) (a.up j 0 l) : Nat) : Int) := by omega
            simp only [e4, decide_false, Bool.false_eq_true, ↓reduceIte]
            simp only [h4, decide_false, Bool.false_eq_true, ↓reduceIte, Option.map_none, true_implies] at g2
            exact g2 _ ⟨_, _, _, rfl⟩
      · intro d e; rw [ej] at e; exact h1 d e
      · rintro e rr ⟨x5, x6, x7, rfl⟩
        rw [ej] at e
        exact h2 e _ ⟨_, _, _, _, rfl⟩
    · intro d e
      rw [findSome_map tD] at e
      obtain ⟨t, e2, rfl⟩ := Option.map_eq_some_iff.mp e
      rw [show tkO a l = some t from e2] at hq
      exact hq
    · rintro e rr ⟨x4, x5, x6, x7, rfl⟩
      rw [findSome_map tD, Option.map_eq_none_iff] at e
      rw [show tkO a l = none from e] at hq
      walk_at "d"
      exact ⟨by decide, hq⟩
  · have e1 : ¬ (l : Int) < (a.ss.length : Int) := by omega
    rw [if_neg hlt] at hq
    simp only [e1, decide_false, Bool.false_eq_true, ↓reduceIte]
    exact ⟨by decide, hq⟩
/-! the two tables -/
def inAll (c : List Nat) (ts : List (List Nat)) : Bool := (c.zip ts).all fun p => p.2.contains p.1
def secs (c : List Nat) (ts : List (List Nat)) : Nat := ((c.zip ts).filter fun p => decide (p.1 ≠ p.2.headD 0)).length
def prt (s : Sch) (ts : List (List Nat)) (b : Nat) : List Nat := (cellsOf s (finN s)).map fun c => if (inAll c ts && decide (secs c ts % 2 = b)) = true then 1 else 0
theorem cont_cast (t : List Nat) (v : Nat) : (t.map fun k : Nat => (k : Int)).contains (v : Int) = t.contains v := by
  induction t with
  | nil => rfl
  | cons k t ih =>
    rw [List.map_cons, List.contains_cons, List.contains_cons, ih]
    congr 1
    rw [Bool.eq_iff_iff]
    simp only [beq_iff_eq]
    omega
theorem aIn_tD {t : List Nat} {v : Nat} {m : Mu} {Q : DK} (q : Q (.bl (t.contains v)) m) : aIn (.int (v : Int)) (tD t) m Q :=
  ⟨(v : Int), t.map fun k : Nat => (k : Int), rfl, by rw [List.map_map]; rfl, by rw [cont_cast]; exact q⟩
def s_two_tables : DSp := fun ds m Q => ∃ (s : Sch) (ts : List (List Nat)), ds = [encS s, .lst (ts.map tD)] ∧ SchV s ∧ ts.length ≤ 3 ∧ (∀ t ∈ ts, t ≠ []) ∧ Q (.tup [tD (prt s ts 0), tD (prt s ts 1)]) m
theorem l_two_tables : ∀ ds m Q, s_two_tables ds m Q → ds.length = 2 := by rintro ds m Q ⟨s, ts, rfl, _⟩; rfl
def t_two_tables : DS := (xSeq (xAsg (dLstM dNil) (gV 2))
  (xSeq (xAsg (dLstM dNil) (gV 3))
  (xSeq (xFor (sSeq (dCB s_cells_of (dCons (dVar 0) (dCons (dCB s_finest (dCons (dVar 0) dNil)) dNil)))) (gV 4) (xSeq (xAsg (dCB aAll (dCons (dLc (sZip2 (dVar 4) (dVar 1)) [7, 8] (gT 2 (gC (gV 7) (gC (gV 8) gN))) dYes (dOp aIn (dVar 7) (dVar 8))) dNil)) (gV 5))
  (xSeq (xAsg (dCB aLen (dCons (dLc (sZip2 (dVar 4) (dVar 1)) [7, 8] (gT 2 (gC (gV 7) (gC (gV 8) gN))) (dTest (dOp aNe (dVar 7) (dOp aIx (dVar 8) (dC (.int 0))))) (dC (.int 1))) dNil)) (gV 6))
  (xSeq (xDrop (dAppend (dVar 2) (dCB aInt (dCons (dAndV (dVar 5) (dOp aEq (dOp aMod (dVar 6) (dC (.int 2))) (dC (.int 0)))) dNil))))
  (xDrop (dAppend (dVar 3) (dCB aInt (dCons (dAndV (dVar 5) (dOp aEq (dOp aMod (dVar 6) (dC (.int 2))) (dC (.int 1)))) dNil))))))))
  (xRet (dTup (dCons (dCB aTuple (dCons (dVar 2) dNil)) (dCons (dCB aTuple (dCons (dVar 3) dNil)) dNil)))))))
def TwoI (m0 : Mu) (p1 p2 : Addr) (s : Sch) (ts : List (List Nat)) : List (List Nat) → Ro → Mu → Prop := fun pre rr m' =>
  (∃ x4 x5 x6 x7 x8, rr = [some (encS s), some (.lst (ts.map tD)), some (.ref p1), some (.ref p2), x4, x5, x6, x7, x8]) ∧
  m' p1 = some (.lst (((prt s ts 0).take pre.length).map nD)) ∧ m' p2 = some (.lst (((prt s ts 1).take pre.length).map nD)) ∧ ∀ b o, m0 b = some o → m' b = some o
theorem prt_len {s : Sch} {ts : List (List Nat)} {b : Nat} (hs : SchV s) : (prt s ts b).length ≤ 60 := by unfold prt; rw [List.length_map]; exact cells_small hs (fin_roll s)
theorem prt_at {s : Sch} {ts : List (List Nat)} {b : Nat} {pre post : List (List Nat)} {c : List Nat} (e : cellsOf s (finN s) = pre ++ c :: post) : (prt s ts b)[pre.length]? = some (if (inAll c ts && decide (secs c ts % 2 = b)) = true then 1 else 0) := by
  unfold prt
  rw [List.getElem?_map, e, List.getElem?_append_right (Nat.le_refl _), Nat.sub_self]; rfl
theorem v_two_tables : Body 9 t_two_tables s_two_tables := by
  rintro ds m Q ⟨s, ts, rfl, hs, h3, hne, q⟩
  unfold t_two_tables
  walk_at "d"
  refine ⟨by decide, fun p1 hp1 => ⟨by decide, fun p2 hp2 => ?_⟩⟩
  have n21 : p2 ≠ p1 := by rintro rfl; rw [up_same] at hp2; cases hp2
  have hp2' : m p2 = none := by rw [up_ne n21] at hp2; exact hp2
  refine ⟨s, rfl, hs, s, finN s, rfl, hs, fin_roll s, _, Or.inl rfl, ?_⟩
  refine forGo_take (enc := tD) (TwoI m p1 p2 s ts) (cellsOf s (finN s)) [] _ _ _ rfl ⟨⟨_, _, _, _, _, rfl⟩, by rw [up_ne n21.symm, up_same]; rfl, up_same, fun b o hb => ?_⟩ ?_ ?_
  · rw [up_ne (fun z => by subst z; rw [hp2'] at hb; cases hb), up_ne (fun z => by subst z; rw [hp1] at hb; cases hb)]
    exact hb
  · rintro pre c post rr m' P e ⟨⟨x4, x5, x6, x7, x8, rfl⟩, e1, e2, le⟩ hP
    have hl1 : ((prt s ts 0).take pre.length).length ≤ 60 := by have := prt_len (ts := ts) (b := 0) hs; rw [List.length_take]; omega
    have hl2 : ((prt s ts 1).take pre.length).length ≤ 60 := by have := prt_len (ts := ts) (b := 1) hs; rw [List.length_take]; omega
    have e0 : tD c = .tup (c.map nD) := rfl
    walk_at "d"
    simp only [e0]
    walk_at "d"
    rw [zip2_map]
    refine ⟨small (k := 1000) (by rw [List.length_map, List.length_zip]; omega), ?_⟩
    refine lcGo_maps (fun p : Nat × List Nat => .bl (p.2.contains p.1)) _ [] _ (fun p hp K hK => ?_) ?_
    · unfold nD
      walk_at "d"
      exact aIn_tD hK
    rw [List.nil_append, show ((c.zip ts).map fun p : Nat × List Nat => D.bl (p.2.contains p.1)) = ((c.zip ts).map fun p => p.2.contains p.1).map D.bl by rw [List.map_map]; rfl]
    refine aAll_list ?_
    rw [show ((c.zip ts).map fun p => p.2.contains p.1).all id = inAll c ts by unfold inAll; rw [List.all_map]; rfl]
    refine ⟨small (k := 1000) (by rw [List.length_map, List.length_zip]; omega), ?_⟩
    refine lcGo_filt (fun p : Nat × List Nat => decide (p.1 ≠ p.2.headD 0)) (fun _ => D.int 1) _ [] _ (fun p hp A B hAB => ?_) ?_
    · have ht : p.2 ≠ [] := hne _ (List.of_mem_zip hp).2
      obtain ⟨x, t, et⟩ := List.exists_cons_of_ne_nil ht
      rw [et] at hAB ⊢
      unfold nD tD
      walk_at "d"
      unfold nD
      walk_at "d"
      have en : (!decide ((p.1 : Int) = (x : Int))) = decide (p.1 ≠ (x :: t).headD 0) := by
        rw [← decide_not, decide_eq_decide, List.headD_cons]; omega
      rw [en]
      exact hAB
    rw [List.nil_append]
    walk_at "d"
    rw [List.length_map, show ((c.zip ts).filter fun p : Nat × List Nat => decide (p.1 ≠ p.2.headD 0)).length = secs c ts from rfl]
    refine ⟨_, e1, ?_⟩
    have hP' : ∀ (m2 : Mu) (b1 b2 : Nat) (x4 x5 x6 x7 x8 : Option D), b1 = (if (inAll c ts && decide (secs c ts % 2 = 0)) = true then 1 else 0) → b2 = (if (inAll c ts && decide (secs c ts % 2 = 1)) = true then 1 else 0) →
        m2 = up (up m' p1 (.lst (((prt s ts 0).take pre.length).map nD ++ [nD b1]))) p2 (.lst (((prt s ts 1).take pre.length).map nD ++ [nD b2])) →
        P [some (encS s), some (.lst (ts.map tD)), some (.ref p1), some (.ref p2), x4, x5, x6, x7, x8] m2 := by
      rintro m2 b1 b2 x4 x5 x6 x7 x8 rfl rfl rfl
      refine hP _ _ ⟨⟨_, _, _, _, _, rfl⟩, ?_, ?_, fun b o hb => ?_⟩
      · rw [up_ne n21.symm, up_same, List.length_append, List.length_singleton, List.take_add_one, prt_at e, List.map_append]; rfl
      · rw [up_same, List.length_append, List.length_singleton, List.take_add_one, prt_at e, List.map_append]; rfl
      · rw [up_ne (fun z => by subst z; rw [hp2'] at hb; cases hb), up_ne (fun z => by subst z; rw [hp1] at hb; cases hb)]
        exact le b o hb
    have e2' : ∀ o, up m' p1 o p2 = some (.lst (((prt s ts 1).take pre.length).map nD)) := fun o => by rw [up_ne n21]; exact e2
    have k0 : decide (((secs c ts : Nat) : Int) % 2 = 0) = decide (secs c ts % 2 = 0) := decide_eq_decide.mpr (by omega)
    have k1 : decide (((secs c ts : Nat) : Int) % 2 = 1) = decide (secs c ts % 2 = 1) := decide_eq_decide.mpr (by omega)
    by_cases ht : inAll c ts = true
    · simp only [ht, ↓reduceIte, k0, k1]
      refine ⟨by decide, _, e1, small' (k := 1000) (by rw [List.length_map]; omega), _, e2' _, by decide, _, e2' _, small' (k := 1000) (by rw [List.length_map]; omega), ?_⟩
      refine hP' _ _ _ _ _ _ _ _ rfl rfl ?_
      simp only [ht, Bool.true_and]
      unfold nD
      by_cases z0 : secs c ts % 2 = 0
      · have z1 : ¬ secs c ts % 2 = 1 := by omega
        simp [z0, z1]
      · have z1 : secs c ts % 2 = 1 := by omega
        simp [z0, z1]
    · simp only [ht, Bool.false_eq_true, ↓reduceIte]
      refine ⟨_, e1, small' (k := 1000) (by rw [List.length_map]; omega), _, e2' _, _, e2' _, small' (k := 1000) (by rw [List.length_map]; omega), ?_⟩
      refine hP' _ _ _ _ _ _ _ _ rfl rfl ?_
      simp only [ht, Bool.false_and, Bool.false_eq_true, ↓reduceIte]
      rfl
  · rintro rr m' ⟨⟨x4, x5, x6, x7, x8, rfl⟩, e1, e2, le⟩
    walk_at "d"
    have hz : ∀ b, (cellsOf s (finN s)).length = (prt s ts b).length := fun b => by unfold prt; rw [List.length_map]
    rw [hz 0, List.take_length] at e1
    rw [hz 1, List.take_length] at e2
    simp only [aTuple_ref e1, aTuple_ref e2]
    exact ⟨by decide, end_rtL (m2 := m) le q⟩
/-! the answer -/
def tks (s : Sch) (w : List Nat) : List (List Nat) := (s.zip w).map fun p => tkN p.1 p.2
def ansN (s : Sch) (st : List (List Nat)) (w : List Nat) : D := match plN st w with
  | some i => .tup [.str (Str.ofString "from"), nD i]
  | none => .tup [.str (Str.ofString "tables"), tD (prt s (tks s w) 0), tD (prt s (tks s w) 1)]
theorem tks_ne {s : Sch} {w : List Nat} : ∀ t ∈ tks s w, t ≠ [] := fun t ht => by
  unfold tks at ht
  obtain ⟨p, _, rfl⟩ := List.mem_map.mp ht
  rcases tk_v p.1 p.2 with h | ⟨i, j, _, _, h⟩ <;> rw [h] <;> simp
def s_answer_of : DSp := fun ds m Q => ∃ (s : Sch) (st : List (List Nat)) (w : List Nat), ds = [encS s, stD st, tD w] ∧ SchV s ∧ Stv s st ∧ Roll s w ∧ Q (ansN s st w) m
theorem l_answer_of : ∀ ds m Q, s_answer_of ds m Q → ds.length = 3 := by rintro ds m Q ⟨s, st, w, rfl, _⟩; rfl
def t_answer_of : DS := (xSeq (xAsg (dCB s_place_of (dCons (dVar 1) (dCons (dVar 2) dNil))) (gV 3))
  (xSeq (xIf (dTest (dOp aGe (dVar 3) (dC (.int 0)))) (xRet (dTup (dCons (dC (.str (Str.ofString "from"))) (dCons (dVar 3) dNil)))) xNext)
  (xSeq (xAsg (dLc (sZip2 (dVar 0) (dVar 2)) [7, 8] (gT 2 (gC (gV 7) (gC (gV 8) gN))) dYes (dCB s_taken_at (dCons (dVar 7) (dCons (dVar 8) dNil)))) (gV 4))
  (xSeq (xAsg (dCB s_two_tables (dCons (dVar 0) (dCons (dVar 4) dNil))) (gT 2 (gC (gV 5) (gC (gV 6) gN))))
  (xRet (dTup (dCons (dC (.str (Str.ofString "tables"))) (dCons (dVar 5) (dCons (dVar 6) dNil)))))))))
theorem v_answer_of : Body 9 t_answer_of s_answer_of := by
  rintro ds m Q ⟨s, st, w, rfl, hs, hst, hw, q⟩
  have hq := end_rt (m0 := m) q
  have h3 := hs.2.1; have hwl := hw.len
  unfold ansN at hq
  unfold t_answer_of
  walk_at "d"
  refine .inl ⟨st, w, rfl, fun r hr => by have := (hst.2 r hr).len; omega, ?_⟩
  walk_at "d"
  cases e : plN st w with
  | some i =>
    rw [e] at hq
    have e1 : (0 : Int) ≤ (i : Int) := by omega
    simp only [plI, ge_iff_le, e1, decide_true, ↓reduceIte]
    exact ⟨by decide, hq⟩
  | none =>
    rw [e] at hq
    simp only [plI, show decide ((-1 : Int) ≥ 0) = false from rfl, Bool.false_eq_true, ↓reduceIte]
    unfold encS tD
    walk_at "d"
    rw [zip2_map]
    refine ⟨small (k := 1000) (by rw [List.length_map, List.length_zip]; omega), ?_⟩
    refine lcGo_maps (fun p : At × Nat => tD (tkN p.1 p.2)) _ [] _ (fun p hp K hK => ?_) ?_
    · obtain ⟨i, h1, h2⟩ := zip_mem hp
      walk_at "d"
      exact ⟨p.1, p.2, rfl, hs.2.2.1 _ (List.mem_of_getElem? h1), hw.at h1 h2, hK⟩
    · rw [List.nil_append]
      refine ⟨s, tks s w, ?_, hs, ?_, tks_ne, ?_⟩
      · unfold tks; rw [List.map_map]; rfl
      · unfold tks; rw [List.length_map, List.length_zip]; omega
      · walk_at "d"
        exact ⟨by decide, hq⟩
def s_answer : DSp := s_answer_of
theorem l_answer : ∀ ds m Q, s_answer ds m Q → ds.length = 3 := l_answer_of
def t_answer : DS := (xSeq (xDrop (dCB s_need_wanted (dCons (dVar 0) (dCons (dVar 1) (dCons (dVar 2) dNil)))))
  (xRet (dCB s_answer_of (dCons (dVar 0) (dCons (dVar 1) (dCons (dVar 2) dNil))))))
theorem v_answer : Body 3 t_answer s_answer := by
  rintro ds m Q ⟨s, st, w, rfl, hs, hst, hw, q⟩
  unfold t_answer
  walk_at "d"
  exact ⟨s, st, w, rfl, hs, hst, hw, s, st, w, rfl, hs, hst, hw, end_rt q⟩
end Mn

set_option linter.all false
set_option maxHeartbeats 4000000
set_option autoImplicit false
set_option maxRecDepth 100000
namespace Mn
open PySem L2
variable [Tbs]
local macro_rules | `(tactic| walk_at "d") => `(tactic| (try simp only [xNext, xSeq, xAsg, xRet, xRetF, xDrop, xIf, xPar, xPar3, xFrz, xPut, xAug, xFor, dVar, dC, dOp, dTest, dChain, dAndV, dOrV, dNotV, dAnd, dOr, dNot, dIf, dNil, dCons, dTup, dLst, dLstM, dCB, dIsi, dLc, dLcM, dYes, wipeD, dSlice, oSome, oNone, aSl_tup, aSl_lst, dNeg, dStar, dNewD, dTupVals, dCountL, dExtend, dAppend, dFrz, dLc2, dCountT, dIndexT, sqf_tup, sqf_lst, sqf_pair, sSeq, sSeq_tup, sSeq_lst, sRg1, sRg2, sZip2, sZip3, sZip4, sEnum, gV, gN, gC, gT, tupOf_tup, tupOf_pair, aAdd_int, aAdd_tup, aAdd_lst, aSub_int, aMul_int, aDiv_int, aMod_int, aPow_int, aCmp_int, aIx_tup, aIx_lst, aIx_scr, aIx_pair, aMax_int, aMin_int, aInt_bl, aInt_int, aLen_tup, aLen_lst, aLen_scr, aLen_pair, aTuple_lst, aTuple_tup, aEq_int, aNe_int, startD, List.map_cons, List.map_nil, List.length_cons, List.length_nil, List.cons_append, List.nil_append, List.replicate_zero, List.replicate_succ, List.append_nil, List.getElem?_cons_zero, List.getElem?_cons_succ, List.set_cons_zero, List.set_cons_succ, Option.some.injEq, exists_eq_left', exists_eq_left, exists_eq', D.int.injEq, D.bl.injEq, D.tup.injEq, D.lst.injEq, D.pair.injEq, D.ref.injEq, List.cons.injEq, Nat.sub_self, Nat.zero_add, Nat.add_sub_cancel, seqI_tup, seqI_lst, seqOf_tup, seqOf_lst, tyN_tup, tyN_lst, tyN_int, tyN_bl, tyN_str, tyN_non, isi_tt, at_0, at_1, at_2, at_3, Option.map_some, true_and, and_true, if_true, Bool.false_eq_true, if_false, Bool.not_true, Bool.not_false, ↓reduceIte, Nat.reduceAdd, Nat.reduceSub, exists_and_left, and_assoc]))
/-! which levels keep the values of a group together -/
def clsN (a : At) (v l : Nat) : List Nat := (List.range a.n).filter fun w => decide (a.up w 0 l = a.up v 0 l)
theorem mem_cls {a : At} {v l w : Nat} : w ∈ clsN a v l ↔ w < a.n ∧ a.up w 0 l = a.up v 0 l := by
  unfold clsN; rw [List.mem_filter, List.mem_range, decide_eq_true_eq]
theorem filter_ext {p q : Nat → Bool} {n : Nat} (h : ∀ w, w < n → (p w = true ↔ q w = true)) : (List.range n).filter p = (List.range n).filter q :=
  List.filter_congr fun w hw => by
    have := h w (List.mem_range.mp hw)
    cases hp : p w <;> cases hq : q w <;> simp_all
theorem cls_eq {a : At} {v l l' : Nat} : clsN a v l = clsN a v l' ↔ ∀ w, w < a.n → (a.up w 0 l = a.up v 0 l ↔ a.up w 0 l' = a.up v 0 l') := by
  constructor
  · intro h w hw
    have h1 := mem_cls (a := a) (v := v) (l := l) (w := w)
    have h2 := mem_cls (a := a) (v := v) (l := l') (w := w)
    rw [h] at h1
    constructor
    · intro e; exact (h2.mp (h1.mpr ⟨hw, e⟩)).2
    · intro e; exact (h1.mp (h2.mpr ⟨hw, e⟩)).2
  · intro h
    exact filter_ext fun w hw => by rw [decide_eq_true_eq, decide_eq_true_eq]; exact h w hw
theorem count_one {st : List Nat} {g y : Nat} (hg : g < st.length) (e : stepG st g = y) : st.count y = 1 ↔ ∀ g', g' < st.length → stepG st g' = y → g' = g := by
  have hs : st = st.take g ++ y :: st.drop (g + 1) := by
    rw [stepG_get hg] at e
    rw [← e, List.getElem_cons_drop, List.take_append_drop]
  have hc : st.count y = (st.take g).count y + 1 + (st.drop (g + 1)).count y := by
    conv => lhs; rw [hs]
    rw [List.count_append, List.count_cons_self]
    omega
  constructor
  · intro h g' hg' e'
    rw [stepG_get hg'] at e'
    have h1 : (st.take g).count y = 0 := by omega
    have h2 : (st.drop (g + 1)).count y = 0 := by omega
    rw [List.count_eq_zero] at h1 h2
    by_cases c1 : g' < g
    · exact absurd (by rw [← e']; exact List.mem_iff_getElem.mpr ⟨g', by rw [List.length_take]; omega, by rw [List.getElem_take]⟩) h1
    · by_cases c2 : g' = g
      · exact c2
      · refine absurd ?_ h2
        rw [← e']
        refine List.mem_iff_getElem.mpr ⟨g' - (g + 1), by rw [List.length_drop]; omega, ?_⟩
        rw [List.getElem_drop]
        congr 1
        omega
  · intro h
    have h1 : (st.take g).count y = 0 := by
      rw [List.count_eq_zero]
      intro hm
      obtain ⟨i, hi, ei⟩ := List.mem_iff_getElem.mp hm
      rw [List.length_take] at hi
      rw [List.getElem_take] at ei
      have := h i (by omega) (by rw [stepG_get (by omega)]; exact ei)
      omega
    have h2 : (st.drop (g + 1)).count y = 0 := by
      rw [List.count_eq_zero]
      intro hm
      obtain ⟨i, hi, ei⟩ := List.mem_iff_getElem.mp hm
      rw [List.length_drop] at hi
      rw [List.getElem_drop] at ei
      have := h (g + 1 + i) (by omega) (by rw [stepG_get (by omega)]; exact ei)
      omega
    omega
/-- one level on -/
theorem cls_step {a : At} (ha : a.V) {v l : Nat} (hv : v < a.n) (hl : l < a.ss.length) : clsN a v (l + 1) = clsN a v l ↔ (a.ss.getD l []).count (stepG (a.ss.getD l []) (a.up v 0 l)) = 1 := by
  have hst := ha.step hl
  have hlt : ∀ {w}, w < a.n → a.up w 0 l < a.sz l := fun hw => ha.up_lt hw (Nat.zero_le _) (by omega)
  rw [cls_eq, count_one (by rw [hst.1]; exact hlt hv) rfl]
  constructor
  · intro h g' hg' e
    rw [hst.1] at hg'
    obtain ⟨w, hw, ew⟩ := ha.up_surj (lo := 0) (Nat.zero_le _) (by omega) hg'
    have := (h w hw).mp (by rw [up_succ (Nat.zero_le _) hl, up_succ (Nat.zero_le _) hl, ew]; exact e)
    rw [← ew]; exact this
  · intro h w hw
    rw [up_succ (Nat.zero_le _) hl, up_succ (Nat.zero_le _) hl]
    constructor
    · intro e
      exact h _ (by rw [hst.1]; exact hlt hw) e
    · intro e; rw [e]
/-- classes grow -/
theorem cls_mono {a : At} {v w l l' : Nat} (h : l ≤ l') (h' : l' ≤ a.ss.length) (e : a.up w 0 l = a.up v 0 l) : a.up w 0 l' = a.up v 0 l' := by
  rw [← up_trans (a := a) (lo := 0) (mid := l) (Nat.zero_le _) h h', e, up_trans (Nat.zero_le _) h h']
theorem own_spec {a : At} (ha : a.V) {v : Nat} (hv : v < a.n) : ∀ (k l : Nat), a.ss.length - l = k → l ≤ a.ss.length →
    l ≤ (ownG a l (a.up v 0 l)).1 ∧ (ownG a l (a.up v 0 l)).1 ≤ a.ss.length ∧ (ownG a l (a.up v 0 l)).2 = a.up v 0 (ownG a l (a.up v 0 l)).1 ∧ clsN a v (ownG a l (a.up v 0 l)).1 = clsN a v l ∧
    ∀ l', (ownG a l (a.up v 0 l)).1 < l' → l' ≤ a.ss.length → clsN a v l' ≠ clsN a v l := by
  intro k
  induction k with
  | zero =>
    intro l hk hl
    have e : l = a.ss.length := by omega
    rw [ownG_no (fun h => by have := h.1; omega)]
    exact ⟨Nat.le_refl _, hl, rfl, rfl, fun l' h1 h2 => by simp only at h1; omega⟩
  | succ k ih =>
    intro l hk hl
    have hl' : l < a.ss.length := by omega
    by_cases hc : (a.ss.getD l []).count (stepG (a.ss.getD l []) (a.up v 0 l)) = 1
    · rw [ownG_yes hl' hc, ← up_succ (Nat.zero_le _) hl']
      have hs := (cls_step ha hv hl').mpr hc
      obtain ⟨q1, q2, q3, q4, q5⟩ := ih (l + 1) (by omega) hl'
      exact ⟨by omega, q2, q3, q4.trans hs, fun l' h1 h2 e => q5 l' h1 h2 (e.trans hs.symm)⟩
    · rw [ownG_no (fun h => hc h.2)]
      refine ⟨Nat.le_refl _, hl, rfl, rfl, fun l' h1 h2 e => hc ((cls_step ha hv hl').mp ?_)⟩
      simp only at h1
      rw [cls_eq] at e ⊢
      intro w hw
      constructor
      · intro e1
        exact (e w hw).mp (cls_mono (by omega) h2 e1)
      · intro e1
        exact cls_mono (by omega) hl' e1
/-! the law -/
theorem eqv_nats : ∀ (xs ys : List Nat), PyData.eqvAll (pyL (xs.map nD)) (pyL (ys.map nD)) = decide (xs = ys)
  | [], [] => rfl
  | [], _ :: _ => by simp [pyL, PyData.eqvAll]
  | _ :: _, [] => by simp [pyL, PyData.eqvAll]
  | x :: xs, y :: ys => by
    have ih := eqv_nats xs ys
    simp only [List.map_cons, pyL, PyData.eqvAll, ih, nD, py, PyData.eqv]
    by_cases h : x = y
    · subst h; simp
    · have : ¬ ((x : Int) = (y : Int)) := by omega
      simp [h, this]
theorem ownL_at {s : Sch} {r c : List Nat} {i : Nat} {a : At} {l g : Nat} (ha : s[i]? = some a) (hl : r[i]? = some l) (hg : c[i]? = some g) : (ownL s r c)[i]? = some (ownG a l g).1 ∧ (ownC s r c)[i]? = some (ownG a l g).2 := by
  have : (s.zip (r.zip c))[i]? = some (a, l, g) := by
    rw [List.getElem?_zip_eq_some, List.getElem?_zip_eq_some]
    exact ⟨ha, hl, hg⟩
  unfold ownL ownC
  rw [List.getElem?_map, List.getElem?_map, this]
  exact ⟨rfl, rfl⟩
end Mn

set_option linter.all false
set_option maxHeartbeats 4000000
set_option autoImplicit false
set_option maxRecDepth 100000
namespace Mn
open PySem L2
variable [Tbs]
local macro_rules | `(tactic| walk_at "d") => `(tactic| (try simp only [xNext, xSeq, xAsg, xRet, xRetF, xDrop, xIf, xPar, xPar3, xMatch, mGo, xFrz, xPut, xAug, xFor, dVar, dC, dOp, dTest, dChain, dAndV, dOrV, dNotV, dAnd, dOr, dNot, dIf, dNil, dCons, dTup, dLst, dLstM, dCB, dIsi, dLc, dLcM, dYes, wipeD, dSlice, oSome, oNone, aSl_tup, aSl_lst, dNeg, dStar, dNewD, dTupVals, dSortSet, dCountL, dExtend, dAppend, dFrz, dLc2, dCountT, dIndexT, sqf_tup, sqf_lst, sqf_pair, sSeq, sSeq_tup, sSeq_lst, sRg1, sRg2, sZip2, sZip3, sZip4, sEnum, gV, gN, gC, gT, tupOf_tup, tupOf_pair, aAdd_int, aAdd_tup, aAdd_lst, aSub_int, aMul_int, aDiv_int, aMod_int, aPow_int, aCmp_int, aIx_tup, aIx_lst, aIx_scr, aIx_pair, aMax_int, aMin_int, aInt_bl, aInt_int, aLen_tup, aLen_lst, aLen_scr, aLen_pair, aTuple_lst, aTuple_tup, aIsB_bl, aNotB_bl, aEq_int, aNe_int, startD, List.map_cons, List.map_nil, List.length_cons, List.length_nil, List.cons_append, List.nil_append, List.replicate_zero, List.replicate_succ, List.append_nil, List.getElem?_cons_zero, List.getElem?_cons_succ, List.set_cons_zero, List.set_cons_succ, Option.some.injEq, exists_eq_left', exists_eq_left, exists_eq', D.int.injEq, D.bl.injEq, D.tup.injEq, D.lst.injEq, D.pair.injEq, D.ref.injEq, List.cons.injEq, Nat.sub_self, Nat.zero_add, Nat.add_sub_cancel, seqI_tup, seqI_lst, seqOf_tup, seqOf_lst, tyN_tup, tyN_lst, tyN_int, tyN_bl, tyN_str, tyN_non, isi_tt, at_0, at_1, at_2, at_3, Option.map_some, true_and, and_true, if_true, Bool.false_eq_true, if_false, Bool.not_true, Bool.not_false, ↓reduceIte, Nat.reduceAdd, Nat.reduceSub, exists_and_left, and_assoc]))
/-! sorted without doubles -/
/-! tuples compared -/
theorem eqv_tD (a b : List Nat) (m : Mu) : PyData.eqv (pyM (tD a) m) (pyM (tD b) m) = decide (a = b) := by
  show PyData.eqv (PyData.tuple (pyL (a.map nD))) (PyData.tuple (pyL (b.map nD))) = _
  rw [PyData.eqv]
  exact eqv_nats a b
theorem ok_tD {a : List Nat} (h : ∀ x ∈ a, x ≤ 1000000) (m : Mu) : okD (tD a) m := (sm_tD (Nat.le_refl _) h).ok (by decide) m
/-! needed -/
end Mn

set_option linter.all false
set_option maxHeartbeats 4000000
set_option autoImplicit false
set_option maxRecDepth 100000
namespace Mn
open PySem L2
variable [Tbs]
local macro_rules | `(tactic| walk_at "d") => `(tactic| (try simp only [xNext, xSeq, xAsg, xRet, xRetF, xDrop, xIf, xPar, xPar3, xFrz, xPut, xAug, xFor, dVar, dC, dOp, dTest, dChain, dAndV, dOrV, dNotV, dAnd, dOr, dNot, dIf, dNil, dCons, dTup, dLst, dLstM, dCB, dIsi, dLc, dLcM, dYes, wipeD, dSlice, oSome, oNone, aSl_tup, aSl_lst, dNeg, dStar, dNewD, dTupVals, dCountL, dExtend, dAppend, dFrz, dLc2, dCountT, dIndexT, sqf_tup, sqf_lst, sqf_pair, sSeq, sSeq_tup, sSeq_lst, sRg1, sRg2, sZip2, sZip3, sZip4, sEnum, gV, gN, gC, gT, tupOf_tup, tupOf_pair, aAdd_int, aAdd_tup, aAdd_lst, aSub_int, aMul_int, aDiv_int, aMod_int, aPow_int, aCmp_int, aIx_tup, aIx_lst, aIx_scr, aIx_pair, aMax_int, aMin_int, aInt_bl, aInt_int, aLen_tup, aLen_lst, aLen_scr, aLen_pair, aTuple_lst, aTuple_tup, aEq_int, aNe_int, startD, List.map_cons, List.map_nil, List.length_cons, List.length_nil, List.cons_append, List.nil_append, List.replicate_zero, List.replicate_succ, List.append_nil, List.getElem?_cons_zero, List.getElem?_cons_succ, List.set_cons_zero, List.set_cons_succ, Option.some.injEq, exists_eq_left', exists_eq_left, exists_eq', D.int.injEq, D.bl.injEq, D.tup.injEq, D.lst.injEq, D.pair.injEq, D.ref.injEq, List.cons.injEq, Nat.sub_self, Nat.zero_add, Nat.add_sub_cancel, seqI_tup, seqI_lst, seqOf_tup, seqOf_lst, tyN_tup, tyN_lst, tyN_int, tyN_bl, tyN_str, tyN_non, isi_tt, at_0, at_1, at_2, at_3, Option.map_some, true_and, and_true, if_true, Bool.false_eq_true, if_false, Bool.not_true, Bool.not_false, ↓reduceIte, Nat.reduceAdd, Nat.reduceSub, exists_and_left, and_assoc]))
/-! the values taken for a cell -/
def fv (a : At) (l g : Nat) : Nat := ((List.range a.n).filter fun w => decide (a.up w 0 l = g)).headD 0
theorem fv_ok {a : At} (av : a.V) {l g : Nat} (hl : l ≤ a.ss.length) (hg : g < a.sz l) : fv a l g < a.n ∧ a.up (fv a l g) 0 l = g := by
  obtain ⟨v, hv, ev⟩ := av.up_surj (lo := 0) (Nat.zero_le _) hl hg
  have hm : fv a l g ∈ (List.range a.n).filter fun w => decide (a.up w 0 l = g) := by
    unfold fv
    cases e : (List.range a.n).filter fun w => decide (a.up w 0 l = g) with
    | nil =>
      rw [List.filter_eq_nil_iff] at e
      exact absurd (decide_eq_true ev) (e v (List.mem_range.mpr hv))
    | cons x r => simp
  rw [List.mem_filter, List.mem_range, decide_eq_true_eq] at hm
  exact hm
theorem cls_ne {a : At} {v l : Nat} (hv : v < a.n) : clsN a v l ≠ [] := fun e => by
  have : v ∈ clsN a v l := mem_cls.mpr ⟨hv, rfl⟩
  rw [e] at this; cases this
def others (a : At) (v l : Nat) : List Nat := (clsN a v (l + 1)).filter fun x => !(clsN a v l).contains x
theorem others_ne {a : At} {v l : Nat} (hl : l < a.ss.length) (h : clsN a v (l + 1) ≠ clsN a v l) : others a v l ≠ [] := fun e => h (by
  unfold others at e
  rw [List.filter_eq_nil_iff] at e
  unfold clsN
  refine List.filter_congr fun x hx => ?_
  rw [decide_eq_decide]
  constructor
  · intro hxe
    have hm := e x (mem_cls.mpr ⟨List.mem_range.mp hx, hxe⟩)
    have : x ∈ clsN a v l := by
      cases hc : (clsN a v l).contains x with
      | true => exact List.contains_iff_mem.mp hc
      | false => rw [hc] at hm; exact absurd rfl hm
    exact (mem_cls.mp this).2
  · intro hxe
    exact cls_mono (by omega) (by omega) hxe)
def tinN (a : At) (v l : Nat) : List Nat := if l = a.ss.length then [(clsN a v l).headD 0] else [(clsN a v l).headD 0, (others a v l).headD 0]
theorem head_at {l : List Nat} (h : l ≠ []) : at_ (l.map nD) 0 = some (nD (l.headD 0)) := by
  cases l with
  | nil => exact absurd rfl h
  | cons x r => rfl
theorem eqv_num (x y : Nat) : PyData.eqv (py (nD x)) (py (nD y)) = decide (x = y) := by
  simp only [nD, py, PyData.eqv]
  by_cases h : x = y
  · subst h; simp
  · have : ¬ ((x : Int) = (y : Int)) := by omega
    simp [h, this]
theorem sm_nats {l : List Nat} (h : ∀ k ∈ l, k < 1000) : ∀ d ∈ l.map nD, Sm d 0 20 := fun d hd => by
  obtain ⟨k, hk, rfl⟩ := List.mem_map.mp hd
  have := h k hk
  exact sm_int (by omega)
theorem any_nat (l : List Nat) (x : Nat) : ((l.map nD).any fun z => PyData.eqv (py z) (py (nD x))) = l.contains x := by
  induction l with
  | nil => rfl
  | cons y l ih =>
    rw [List.map_cons, List.any_cons, ih, eqv_num, List.contains_cons]
    congr 1
    rw [Bool.eq_iff_iff]
    simp only [decide_eq_true_eq, beq_iff_eq]
    omega
/-- x not in a list of small numbers -/
theorem aNotIn_lD {l : List Nat} {x : Nat} {m : Mu} {Q : DK} (h : ∀ k ∈ l, k < 1000) (hx : x < 1000) (q : Q (.bl (!l.contains x)) m) : aNotIn (.int (x : Int)) (.lst (l.map nD)) m Q := by
  refine ⟨(sm_int (by omega)).ok (by decide) m, (sm_lst (sm_nats h)).ok (by decide) m, ?_⟩
  have e : ((l.map nD).any fun z => PyData.eqv (py z) (pyM (.int (x : Int)) m)) = l.contains x := any_nat l x
  rw [e]
  exact q
def s_taken_in : DSp := fun ds m Q => ∃ (a : At) (l v : Nat), ds = [a.enc, nD l, nD (a.up v 0 l)] ∧ a.V ∧ v < a.n ∧ l ≤ a.ss.length ∧ (l < a.ss.length → clsN a v (l + 1) ≠ clsN a v l) ∧ Q (tD (tinN a v l)) m
theorem l_taken_in : ∀ ds m Q, s_taken_in ds m Q → ds.length = 3 := by rintro ds m Q ⟨a, l, v, rfl, _⟩; rfl
def t_taken_in : DS := (xSeq (xAsg (dVar 0) (gT 2 (gC (gV 5) (gC (gV 6) gN))))
  (xSeq (xAsg (dLc (sRg1 (dVar 5)) [7] (gV 7) (dTest (dOp aEq (dCB s_group_above (dCons (dVar 0) (dCons (dVar 7) (dCons (dC (.int 0)) (dCons (dVar 1) dNil))))) (dVar 2))) (dVar 7)) (gV 3))
  (xSeq (xIf (dTest (dOp aEq (dVar 1) (dCB aLen (dCons (dVar 6) dNil)))) (xRet (dTup (dCons (dOp aIx (dVar 3) (dC (.int 0))) dNil))) xNext)
  (xSeq (xAsg (dLc (sRg1 (dVar 5)) [7] (gV 7) (dTest (dOp aEq (dCB s_group_above (dCons (dVar 0) (dCons (dVar 7) (dCons (dC (.int 0)) (dCons (dOp aAdd (dVar 1) (dC (.int 1))) dNil))))) (dOp aIx (dOp aIx (dVar 6) (dVar 1)) (dVar 2)))) (dVar 7)) (gV 4))
  (xRet (dTup (dCons (dOp aIx (dVar 3) (dC (.int 0))) (dCons (dOp aIx (dLc (sSeq (dVar 4)) [7] (gV 7) (dTest (dOp aNotIn (dVar 7) (dVar 3))) (dVar 7)) (dC (.int 0))) dNil))))))))
theorem v_taken_in : Body 8 t_taken_in s_taken_in := by
  rintro ds m Q ⟨a, l, v, rfl, av, hv, hl, hne, q⟩
  have hq := end_rt (m0 := m) q
  have a6 := av.2.1; have a3 := av.2.2.1
  unfold tinN at hq
  have hsm : ∀ l' k, k ∈ clsN a v l' → k < 1000 := fun l' k hk => by have := (mem_cls.mp hk).1; omega
  unfold t_taken_in At.enc nD
  walk_at "d"
  refine ⟨by omega, by omega, ?_⟩
  rw [rgD_map]
  refine ⟨small (k := 1000) (by rw [List.length_map, List.length_range]; omega), ?_⟩
  refine lcGo_filt (enc := fun i : Nat => D.int (i : Int)) (fun w => decide (a.up w 0 l = a.up v 0 l)) (fun w => nD w) _ [] _ (fun w hw A B hAB => ?_) ?_
  · walk_at "d"
    refine ⟨a, w, 0, l, rfl, av, Nat.zero_le _, hl, List.mem_range.mp hw, ?_⟩
    unfold nD
    walk_at "d"
    rw [show decide ((a.up w 0 l : Int) = (a.up v 0 l : Int)) = decide (a.up w 0 l = a.up v 0 l) from decide_eq_decide.mpr (by omega)]
    exact hAB
  rw [List.nil_append, show ((List.range a.n).filter fun w => decide (a.up w 0 l = a.up v 0 l)).map (fun w => nD w) = (clsN a v l).map nD from rfl, List.length_map]
  by_cases hlt : l = a.ss.length
  · have e1 : (l : Int) = (a.ss.length : Int) := by omega
    rw [if_pos hlt] at hq
    simp only [e1, decide_true, ↓reduceIte]
    refine ⟨_, head_at (cls_ne hv), ?_⟩
    exact ⟨by decide, hq⟩
  · have e1 : ¬ (l : Int) = (a.ss.length : Int) := by omega
    have hlt' : l < a.ss.length := by omega
    rw [if_neg hlt] at hq
    simp only [e1, decide_false, Bool.false_eq_true, ↓reduceIte]
    refine ⟨by omega, by omega, ?_⟩
    refine ⟨small (k := 1000) (by rw [List.length_map, List.length_range]; omega), ?_⟩
    have hs := av.step hlt'
    have uv := av.up_lt (g := v) (lo := 0) hv (Nat.zero_le _) hl
    refine lcGo_filt (enc := fun i : Nat => D.int (i : Int)) (fun w => decide (a.up w 0 (l + 1) = a.up v 0 (l + 1))) (fun w => nD w) _ [] _ (fun w hw A B hAB => ?_) ?_
    · walk_at "d"
      refine ⟨a, w, 0, l + 1, rfl, av, Nat.zero_le _, hlt', List.mem_range.mp hw, ?_⟩
      have hst : at_ (a.ss.map tD) (l : Int) = some (tD (a.ss.getD l [])) := by
        rw [at_nat, List.getElem?_map, List.getElem?_eq_getElem hlt', List.getD_eq_getElem?_getD, List.getElem?_eq_getElem hlt']; rfl
      have hix : at_ ((a.ss.getD l []).map nD) ((a.up v 0 l : Nat) : Int) = some (nD (stepG (a.ss.getD l []) (a.up v 0 l))) := by
        rw [at_nat, List.getElem?_map, List.getElem?_eq_getElem (by have := hs.1; omega), stepG_get (by have := hs.1; omega)]; rfl
      refine ⟨_, hst, ?_⟩
      unfold tD
      walk_at "d"
      refine ⟨_, hix, ?_⟩
      unfold nD
      walk_at "d"
      rw [← up_succ (Nat.zero_le _) hlt', show decide ((a.up w 0 (l + 1) : Int) = (a.up v 0 (l + 1) : Int)) = decide (a.up w 0 (l + 1) = a.up v 0 (l + 1)) from decide_eq_decide.mpr (by omega)]
      exact hAB
    rw [List.nil_append, show ((List.range a.n).filter fun w => decide (a.up w 0 (l + 1) = a.up v 0 (l + 1))).map (fun w => nD w) = (clsN a v (l + 1)).map nD from rfl]
    walk_at "d"
    refine ⟨_, head_at (cls_ne hv), ?_⟩
    refine ⟨_, Or.inl rfl, small (k := 1000) (by rw [List.length_map]; unfold clsN; have := List.length_filter_le (fun w => decide (a.up w 0 (l + 1) = a.up v 0 (l + 1))) (List.range a.n); rw [List.length_range] at this; omega), ?_⟩
    refine lcGo_filt (enc := nD) (fun x => !(clsN a v l).contains x) nD _ [] _ (fun x hx A B hAB => ?_) ?_
    · unfold nD
      walk_at "d"
      refine aNotIn_lD (hsm _) (hsm _ _ hx) ⟨_, rfl, ?_⟩
      exact hAB
    rw [List.nil_append]
    walk_at "d"
    exact ⟨_, head_at (others_ne hlt' (hne hlt')), by decide, hq⟩
/-! the answer for a cell -/
def tins (s : Sch) (w c : List Nat) : List (List Nat) := (s.zip (w.zip c)).map fun p => tinN p.1 (fv p.1 p.2.1 p.2.2) (ownG p.1 p.2.1 p.2.2).1
def ansC (s : Sch) (st : List (List Nat)) (w c : List Nat) : D := match plN st (ownL s w c) with
  | some i => .tup [.str (Str.ofString "from"), nD i]
  | none => .tup [.str (Str.ofString "tables"), tD (prt s (tins s w c) 0), tD (prt s (tins s w c) 1)]
theorem tinN_ne {a : At} {v l : Nat} : tinN a v l ≠ [] := by unfold tinN; split <;> simp
theorem tins_ne {s : Sch} {w c : List Nat} : ∀ t ∈ tins s w c, t ≠ [] := fun t ht => by
  unfold tins at ht
  obtain ⟨p, _, rfl⟩ := List.mem_map.mp ht
  exact tinN_ne
theorem own_zip : ∀ (s : Sch) (r c : List Nat), s.zip ((ownL s r c).zip (ownC s r c)) = (s.zip (r.zip c)).map fun p => (p.1, (ownG p.1 p.2.1 p.2.2).1, (ownG p.1 p.2.1 p.2.2).2)
  | [], _, _ => by simp [ownL, ownC]
  | _ :: _, [], _ => by simp [ownL, ownC]
  | _ :: _, _ :: _, [] => by simp [ownL, ownC]
  | a :: s, l :: r, g :: c => by
    have ih := own_zip s r c
    unfold ownL ownC at ih ⊢
    simp only [List.zip_cons_cons, List.map_cons]
    rw [ih]
/-- what is known of the own level of a group -/
theorem own_fv {a : At} (av : a.V) {l g : Nat} (hl : l ≤ a.ss.length) (hg : g < a.sz l) :
    fv a l g < a.n ∧ (ownG a l g).1 ≤ a.ss.length ∧ (ownG a l g).2 = a.up (fv a l g) 0 (ownG a l g).1 ∧ l ≤ (ownG a l g).1 ∧ clsN a (fv a l g) (ownG a l g).1 = clsN a (fv a l g) l ∧
    ∀ l', (ownG a l g).1 < l' → l' ≤ a.ss.length → clsN a (fv a l g) l' ≠ clsN a (fv a l g) l := by
  obtain ⟨h1, h2⟩ := fv_ok av hl hg
  have own := own_spec av h1 _ l rfl hl
  rw [h2] at own
  exact ⟨h1, own.2.1, own.2.2.1, own.1, own.2.2.2.1, own.2.2.2.2⟩
def s_answer_at : DSp := fun ds m Q => ∃ (s : Sch) (st : List (List Nat)) (w c : List Nat), ds = [encS s, stD st, tD w, tD c] ∧ SchV s ∧ Stv s st ∧ Roll s w ∧ Cell s w c ∧ Q (ansC s st w c) m
theorem l_answer_at : ∀ ds m Q, s_answer_at ds m Q → ds.length = 4 := by rintro ds m Q ⟨s, st, w, c, rfl, _⟩; rfl
def t_answer_at : DS := (xSeq (xAsg (dCB s_own_of (dCons (dVar 0) (dCons (dVar 2) (dCons (dVar 3) dNil)))) (gT 2 (gC (gV 6) (gC (gV 7) gN))))
  (xSeq (xAsg (dCB s_place_of (dCons (dVar 1) (dCons (dVar 6) dNil))) (gV 4))
  (xSeq (xIf (dTest (dOp aGe (dVar 4) (dC (.int 0)))) (xRet (dTup (dCons (dC (.str (Str.ofString "from"))) (dCons (dVar 4) dNil)))) xNext)
  (xSeq (xAsg (dLc (sZip3 (dVar 0) (dVar 6) (dVar 7)) [10, 11, 12] (gT 3 (gC (gV 10) (gC (gV 11) (gC (gV 12) gN)))) dYes (dCB s_taken_in (dCons (dVar 10) (dCons (dVar 11) (dCons (dVar 12) dNil))))) (gV 5))
  (xSeq (xAsg (dCB s_two_tables (dCons (dVar 0) (dCons (dVar 5) dNil))) (gT 2 (gC (gV 8) (gC (gV 9) gN))))
  (xRet (dTup (dCons (dC (.str (Str.ofString "tables"))) (dCons (dVar 8) (dCons (dVar 9) dNil))))))))))
theorem v_answer_at : Body 13 t_answer_at s_answer_at := by
  rintro ds m Q ⟨s, st, w, c, rfl, hs, hst, hw, hc, q⟩
  have hq := end_rt (m0 := m) q
  have h3 := hs.2.1; have hwl := hw.len
  unfold ansC at hq
  unfold t_answer_at
  walk_at "d"
  refine ⟨s, w, c, rfl, hs, hw, hc, ?_⟩
  walk_at "d"
  refine .inl ⟨st, ownL s w c, rfl, fun r hr => by have := (hst.2 r hr).len; omega, ?_⟩
  walk_at "d"
  cases e : plN st (ownL s w c) with
  | some i =>
    rw [e] at hq
    have e1 : (0 : Int) ≤ (i : Int) := by omega
    simp only [plI, ge_iff_le, e1, decide_true, ↓reduceIte]
    exact ⟨by decide, hq⟩
  | none =>
    rw [e] at hq
    simp only [plI, show decide ((-1 : Int) ≥ 0) = false from rfl, Bool.false_eq_true, ↓reduceIte]
    unfold encS tD
    walk_at "d"
    rw [zip3_map, own_zip, List.map_map]
    refine ⟨small (k := 1000) (by rw [List.length_map, List.length_zip]; omega), ?_⟩
    refine lcGo_maps (fun p : At × Nat × Nat => tD (tinN p.1 (fv p.1 p.2.1 p.2.2) (ownG p.1 p.2.1 p.2.2).1)) _ [] _ (fun p hp K hK => ?_) ?_
    · obtain ⟨i, h1, h2, h4⟩ := zip3_mem hp
      obtain ⟨o1, o2, o3, o4, o5, o6⟩ := own_fv (hs.2.2.1 _ (List.mem_of_getElem? h1)) (hw.at h1 h2) (hc.at h1 h2 h4)
      simp only [Function.comp]
      walk_at "d"
      refine ⟨p.1, (ownG p.1 p.2.1 p.2.2).1, fv p.1 p.2.1 p.2.2, by rw [← o3], hs.2.2.1 _ (List.mem_of_getElem? h1), o1, o2, fun hlt => ?_, hK⟩
      rw [o5]
      exact o6 _ (by omega) (by omega)
    · rw [List.nil_append]
      refine ⟨s, tins s w c, ?_, hs, ?_, tins_ne, ?_⟩
      · unfold tins; rw [List.map_map]; rfl
      · unfold tins; rw [List.length_map, List.length_zip]; omega
      · walk_at "d"
        exact ⟨by decide, hq⟩
def s_answer_cell : DSp := s_answer_at
theorem l_answer_cell : ∀ ds m Q, s_answer_cell ds m Q → ds.length = 4 := l_answer_at
def t_answer_cell : DS := (xSeq (xDrop (dCB s_need_wanted (dCons (dVar 0) (dCons (dVar 1) (dCons (dVar 2) dNil)))))
  (xSeq (xDrop (dCB s_need_cell (dCons (dVar 0) (dCons (dVar 2) (dCons (dVar 3) dNil)))))
  (xRet (dCB s_answer_at (dCons (dVar 0) (dCons (dVar 1) (dCons (dVar 2) (dCons (dVar 3) dNil))))))))
theorem v_answer_cell : Body 4 t_answer_cell s_answer_cell := by
  rintro ds m Q ⟨s, st, w, c, rfl, hs, hst, hw, hc, q⟩
  unfold t_answer_cell
  walk_at "d"
  exact ⟨s, st, w, rfl, hs, hst, hw, s, w, c, rfl, hs, hw, hc, s, st, w, c, rfl, hs, hst, hw, hc, end_rt q⟩
end Mn

set_option linter.all false
set_option maxHeartbeats 4000000
set_option autoImplicit false
set_option maxRecDepth 100000
namespace Mn
open PySem L2
variable [Tbs]
local macro_rules | `(tactic| walk_at "d") => `(tactic| (try simp only [xNext, xSeq, xAsg, xRet, xRetF, xDrop, xIf, xPar, xPar3, xMatch, mGo, xFrz, xPut, xAug, xFor, dVar, dC, dOp, dTest, dChain, dAndV, dOrV, dNotV, dAnd, dOr, dNot, dIf, dNil, dCons, dTup, dLst, dLstM, dCB, dIsi, dLc, dLcM, dYes, wipeD, dSlice, oSome, oNone, aSl_tup, aSl_lst, dNeg, dStar, dNewD, dTupVals, dSortSet, dCountL, dExtend, dAppend, dFrz, dLc2, dCountT, dIndexT, sqf_tup, sqf_lst, sqf_pair, sSeq, sSeq_tup, sSeq_lst, sRg1, sRg2, sZip2, sZip3, sZip4, sEnum, gV, gN, gC, gT, tupOf_tup, tupOf_pair, aAdd_int, aAdd_tup, aAdd_lst, aSub_int, aMul_int, aDiv_int, aMod_int, aPow_int, aCmp_int, aIx_tup, aIx_lst, aIx_scr, aIx_pair, aMax_int, aMin_int, aInt_bl, aInt_int, aLen_tup, aLen_lst, aLen_scr, aLen_pair, aTuple_lst, aTuple_tup, aIsB_bl, aNotB_bl, aEq_int, aNe_int, startD, List.map_cons, List.map_nil, List.length_cons, List.length_nil, List.cons_append, List.nil_append, List.replicate_zero, List.replicate_succ, List.append_nil, List.getElem?_cons_zero, List.getElem?_cons_succ, List.set_cons_zero, List.set_cons_succ, Option.some.injEq, exists_eq_left', exists_eq_left, exists_eq', D.int.injEq, D.bl.injEq, D.tup.injEq, D.lst.injEq, D.pair.injEq, D.ref.injEq, List.cons.injEq, Nat.sub_self, Nat.zero_add, Nat.add_sub_cancel, seqI_tup, seqI_lst, seqOf_tup, seqOf_lst, tyN_tup, tyN_lst, tyN_int, tyN_bl, tyN_str, tyN_non, isi_tt, at_0, at_1, at_2, at_3, Option.map_some, true_and, and_true, if_true, Bool.false_eq_true, if_false, Bool.not_true, Bool.not_false, ↓reduceIte, Nat.reduceAdd, Nat.reduceSub, exists_and_left, and_assoc]))
/-! sums compared -/
theorem eqv_ints : ∀ (xs ys : List Int), PyData.eqvAll (pyL (xs.map D.int)) (pyL (ys.map D.int)) = decide (xs = ys)
  | [], [] => rfl
  | [], _ :: _ => by simp [pyL, PyData.eqvAll]
  | _ :: _, [] => by simp [pyL, PyData.eqvAll]
  | x :: xs, y :: ys => by
    have ih := eqv_ints xs ys
    simp only [List.map_cons, pyL, PyData.eqvAll, ih, py, PyData.eqv]
    by_cases h : x = y
    · subst h; simp
    · simp [h]
theorem eqv_iD (a b : List Int) (m : Mu) : PyData.eqv (pyM (iD a) m) (pyM (iD b) m) = decide (a = b) := by
  show PyData.eqv (PyData.tuple (pyL (a.map D.int))) (PyData.tuple (pyL (b.map D.int))) = _
  rw [PyData.eqv]
  exact eqv_ints a b
theorem cm_iD (a : List Int) : Cm (iD a) 1 := cm_tup fun d hd => by obtain ⟨i, _, rfl⟩ := List.mem_map.mp hd; exact cm_int i
theorem ok_iD (a : List Int) (m : Mu) : okD (iD a) m := (cm_iD a).ok (by decide) m
theorem aEq_iD {a b : List Int} {m : Mu} {Q : DK} (q : Q (.bl (decide (a = b))) m) : aEq (iD a) (iD b) m Q := by
  show okD _ _ ∧ okD _ _ ∧ _
  refine ⟨ok_iD a m, ok_iD b m, ?_⟩
  rw [eqv_iD]
  exact q
theorem aNe_iD {a b : List Int} {m : Mu} {Q : DK} (q : Q (.bl (!decide (a = b))) m) : aNe (iD a) (iD b) m Q := by
  show okD _ _ ∧ okD _ _ ∧ _
  refine ⟨ok_iD a m, ok_iD b m, ?_⟩
  rw [eqv_iD]
  exact q
def amI (d : D) : List Int := match d with
  | .tup ds => ds.map toI
  | _ => []
theorem am_eq {s : Sch} {r : List Nat} {d : D} (h : isAm s r d = true) : d = iD (amI d) ∧ (amI d).length = prodN (szs s r) := by
  cases d with
  | tup ds =>
    simp only [isAm, Bool.and_eq_true, decide_eq_true_eq] at h
    refine ⟨?_, by show (ds.map toI).length = _; rw [List.length_map]; exact h.1⟩
    show D.tup ds = .tup ((ds.map toI).map D.int)
    congr 1
    rw [List.map_map]
    refine (List.map_id ds).symm.trans (List.map_congr_left fun x hx => ?_)
    have := List.all_eq_true.mp h.2 x hx
    cases x <;> first | rfl | exact absurd this (by simp [isIntD])
  | _ => simp [isAm] at h
theorem amI_iD (xs : List Int) : amI (iD xs) = xs := by
  show (xs.map D.int).map toI = xs
  rw [List.map_map]
  exact (List.map_congr_left fun x _ => rfl).trans (List.map_id xs)
/-! a stored rollup that is fine enough -/
def isFrom (st : List (List Nat)) (w : List Nat) (p : D) : Bool := betw p 0 (((st.length : Nat) : Int) - 1) && fineB (st.getD (toI p).toNat []) w
def s_is_from : DSp := fun ds m Q => ∃ (st : List (List Nat)) (w : List Nat) (p : D), ds = [stD st, tD w, p] ∧ (∀ r ∈ st, r.length ≤ 1000) ∧ Kn m p ∧ Q (.bl (isFrom st w p)) m
theorem l_is_from : ∀ ds m Q, s_is_from ds m Q → ds.length = 3 := by rintro ds m Q ⟨st, w, p, rfl, _⟩; rfl
def t_is_from : DS := (xRet (dAndV (dCB s_is_between (dCons (dVar 2) (dCons (dC (.int 0)) (dCons (dOp aSub (dCB aLen (dCons (dVar 0) dNil)) (dC (.int 1))) dNil)))) (dCB s_are_fine (dCons (dOp aIx (dVar 0) (dVar 2)) (dCons (dVar 1) dNil)))))
theorem v_is_from : Body 3 t_is_from s_is_from := by
  rintro ds m Q ⟨st, w, p, rfl, hst, hk, q⟩
  have hq := end_rt (m0 := m) q
  unfold t_is_from stD
  walk_at "d"
  rw [List.length_map]
  refine ⟨p, _, _, rfl, hk, _, rfl, ?_⟩
  unfold isFrom at hq
  cases e : betw p 0 (((st.length : Nat) : Int) - 1) with
  | false =>
    rw [e, Bool.false_and] at hq
    rw [if_neg (by decide)]; exact hq
  | true =>
    rw [e, Bool.true_and] at hq
    rw [if_pos rfl]
    cases p with
    | int i =>
      simp only [betw, Bool.and_eq_true, decide_eq_true_eq] at e
      have hi : i.toNat < st.length := by omega
      walk_at "d"
      refine ⟨tD st[i.toNat], ?_, st[i.toNat], w, rfl, hst _ (List.getElem_mem hi), ?_⟩
      · unfold at_
        rw [if_pos e.1, List.getElem?_map, List.getElem?_eq_getElem hi]
        rfl
      · have : st.getD (toI (.int i)).toNat [] = st[i.toNat] := by
          show st.getD i.toNat [] = _
          rw [List.getD_eq_getElem?_getD, List.getElem?_eq_getElem hi]; rfl
        rw [this] at hq
        exact hq
    | _ => simp [betw] at e
/-! tables with the same stored sums -/
def alike (s : Sch) (st : List (List Nat)) (a b : D) : Bool := isAm s (finN s) a && isAm s (finN s) b && st.all fun r => decide (rolN s (finN s) (amI a) r = rolN s (finN s) (amI b) r)
def s_are_alike : DSp := fun ds m Q => ∃ (s : Sch) (st : List (List Nat)) (a b : D), ds = [encS s, stD st, a, b] ∧ SchV s ∧ Stv s st ∧ Kn m a ∧ Kn m b ∧ Q (.bl (alike s st a b)) m
theorem l_are_alike : ∀ ds m Q, s_are_alike ds m Q → ds.length = 4 := by rintro ds m Q ⟨s, st, a, b, rfl, _⟩; rfl
def t_are_alike : DS := (xSeq (xIf (dOr (dNot (dTest (dCB s_is_table_of (dCons (dVar 0) (dCons (dVar 2) dNil))))) (dNot (dTest (dCB s_is_table_of (dCons (dVar 0) (dCons (dVar 3) dNil)))))) (xRet (dC (.bl false))) xNext)
  (xRet (dCB aAll (dCons (dLc (sSeq (dVar 1)) [4] (gV 4) dYes (dOp aEq (dCB s_sums_of (dCons (dVar 0) (dCons (dVar 2) (dCons (dVar 4) dNil)))) (dCB s_sums_of (dCons (dVar 0) (dCons (dVar 3) (dCons (dVar 4) dNil)))))) dNil))))
theorem aAll_maps {α : Type} {xs : List α} {p : α → Bool} {m : Mu} {Q : DK} (q : Q (.bl (xs.all p)) m) : aAll [.lst (xs.map fun x => .bl (p x))] m Q := by
  refine ⟨_, xs.map p, rfl, ?_, ?_⟩
  · simp only [lstOf, List.map_map]; rfl
  · rw [List.all_map]; exact q
theorem v_are_alike : Body 5 t_are_alike s_are_alike := by
  rintro ds m Q ⟨s, st, a, b, rfl, hs, hst, ka, kb, q⟩
  have hq := end_rt (m0 := m) q
  have h8 := hst.1
  unfold t_are_alike
  walk_at "d"
  refine ⟨s, a, rfl, hs, ka, _, rfl, ?_⟩
  unfold alike at hq
  cases ea : isAm s (finN s) a with
  | false => rw [ea] at hq; exact hq
  | true =>
    simp only [Bool.not_true, Bool.false_eq_true, ↓reduceIte]
    refine ⟨s, b, rfl, hs, kb, _, rfl, ?_⟩
    cases eb : isAm s (finN s) b with
    | false => rw [ea, eb] at hq; exact hq
    | true =>
      rw [ea, eb] at hq
      simp only [Bool.not_true, Bool.false_eq_true, ↓reduceIte]
      refine ⟨_, .inr rfl, small (k := 1000) (by rw [List.length_map]; omega), ?_⟩
      refine lcGo_maps (enc := tD) (fun r => .bl (decide (rolN s (finN s) (amI a) r = rolN s (finN s) (amI b) r))) st [] _ (fun r hr K hK => ?_) ?_
      · walk_at "d"
        have e1 := (am_eq ea).1; have e2 := (am_eq eb).1
        refine ⟨s, amI a, r, by rw [← e1], hs, hst.2 r hr, s, amI b, r, by rw [← e2], hs, hst.2 r hr, ?_⟩
        exact aEq_iD hK
      · rw [List.nil_append]
        exact aAll_maps hq
/-! what shows an answer -/
def wF : Str := Str.ofString "from"
def wT : Str := Str.ofString "tables"
def shA (s : Sch) (st : List (List Nat)) (w : List Nat) (d : D) : Bool := match d with
  | .tup [.str x, p] => decide (x = wF) && isFrom st w p
  | .tup [.str x, a, b] => decide (x = wT) && (alike s st a b && !decide (rolN s (finN s) (amI a) w = rolN s (finN s) (amI b) w))
  | _ => false
def isStrD (d : D) : Bool := match d with
  | .str _ => true
  | _ => false
theorem isi_str {d : D} {m : Mu} {t : String} (h : tyN d m = some t) : isiB t "str" = isStrD d := by
  cases d with
  | ref a =>
    simp only [tyN] at h
    split at h <;> first | (cases h; rfl) | cases h
  | pair ds => cases h
  | _ => cases h; rfl
def s_shows_answer : DSp := fun ds m Q => ∃ (s : Sch) (st : List (List Nat)) (w : List Nat) (d : D), ds = [encS s, stD st, tD w, d] ∧ SchV s ∧ Stv s st ∧ Roll s w ∧ Kn m d ∧ Q (.bl (shA s st w d)) m
theorem l_shows_answer : ∀ ds m Q, s_shows_answer ds m Q → ds.length = 4 := by rintro ds m Q ⟨s, st, a, b, rfl, _⟩; rfl
def t_shows_answer : DS := (xSeq (xDrop (dCB s_need_wanted (dCons (dVar 0) (dCons (dVar 1) (dCons (dVar 2) dNil)))))
  (xSeq (xIf (dOr (dNot (dTest (dIsi "tuple" (dVar 3)))) (dOr (dTest (dOp aLt (dCB aLen (dCons (dVar 3) dNil)) (dC (.int 2)))) (dNot (dTest (dIsi "str" (dOp aIx (dVar 3) (dC (.int 0)))))))) (xRet (dC (.bl false))) xNext)
  (xSeq (xMatch (dCons (dOp aIx (dVar 3) (dC (.int 0))) (dCons (dCB aLen (dCons (dVar 3) dNil)) dNil)) (((Str.ofString "from"), 2, (xRet (dCB s_is_from (dCons (dVar 1) (dCons (dVar 2) (dCons (dOp aIx (dVar 3) (dC (.int 1))) dNil)))))) :: (((Str.ofString "tables"), 3, (xSeq (xAsg (dVar 3) (gT 3 (gC (gV 4) (gC (gV 5) (gC (gV 6) gN)))))
  (xSeq (xIf (dNot (dTest (dCB s_are_alike (dCons (dVar 0) (dCons (dVar 1) (dCons (dVar 5) (dCons (dVar 6) dNil))))))) (xRet (dC (.bl false))) xNext)
  (xRet (dOp aNe (dCB s_sums_of (dCons (dVar 0) (dCons (dVar 5) (dCons (dVar 2) dNil)))) (dCB s_sums_of (dCons (dVar 0) (dCons (dVar 6) (dCons (dVar 2) dNil))))))))) :: [])))
  (xRet (dC (.bl false))))))
/-- how such a function looks at a value first -/
inductive Look2 : D → Prop
  | no (d : D) : isTupD d = false → Look2 d
  | few (ds : List D) : ds.length < 2 → Look2 (.tup ds)
  | odd (e : D) (ds : List D) : isStrD e = false → 1 ≤ ds.length → Look2 (.tup (e :: ds))
  | two (x : Str) (p : D) : Look2 (.tup [.str x, p])
  | three (x : Str) (a b : D) : Look2 (.tup [.str x, a, b])
  | four (x : Str) (a b c : D) (ds : List D) : Look2 (.tup (.str x :: a :: b :: c :: ds))
theorem look2 (d : D) : Look2 d := by
  cases d with
  | tup ds =>
    match ds with
    | [] => exact .few _ (by decide)
    | [a] => exact .few _ (Nat.lt_succ_self 1)
    | a :: b :: r =>
      cases a with
      | str x =>
        match r with
        | [] => exact .two x b
        | [c] => exact .three x b c
        | c :: e :: r => exact .four x b c e r
      | _ => exact .odd _ _ rfl (by simp)
  | _ => exact .no _ rfl
theorem wF_wT : wF ≠ wT := by decide
theorem v_shows_answer : Body 7 t_shows_answer s_shows_answer := by
  rintro ds m Q ⟨s, st, w, d, rfl, hs, hst, hw, hk, q⟩
  have hq := end_rt (m0 := m) q
  have hst' : ∀ r ∈ st, r.length ≤ 1000 := fun r hr => by have := (hst.2 r hr).len; have := hs.2.1; omega
  unfold t_shows_answer
  simp only [xSeq, xDrop, dCB, dCons, dVar, dNil, startD]
  refine ⟨_, rfl, _, rfl, _, rfl, s, st, w, rfl, hs, hst, hw, ?_⟩
  cases look2 d with
  | no _ h =>
    obtain ⟨t, et⟩ := hk.ty
    have e2 := isi_tup et
    simp only [xSeq, xIf, dOr, dNot, dTest, dIsi, dVar]
    refine ⟨_, rfl, t, et, _, rfl, ?_⟩
    rw [e2, h]
    have : shA s st w d = false := by cases d <;> first | rfl | cases h
    rw [this] at hq
    exact hq
  | few ds h =>
    walk_at "d"
    have : ((ds.length : Nat) : Int) < 2 := by omega
    simp only [this, decide_true, ↓reduceIte]
    have : shA s st w (.tup ds) = false := by
      match ds, h with
      | [], _ => rfl
      | [a], _ => cases a <;> rfl
    rw [this] at hq
    exact hq
  | odd e ds h hl =>
    obtain ⟨t, et⟩ := (hk.tup (d := e) (by simp)).ty
    have e2 := isi_str et
    walk_at "d"
    have hn : ¬ (((ds.length + 1 : Nat) : Int) < 2) := by omega
    simp only [hn, decide_false, Bool.false_eq_true, ↓reduceIte]
    refine ⟨t, et, ?_⟩
    rw [e2, h]
    simp only [D.bl.injEq, exists_eq_left', Bool.not_false, ↓reduceIte]
    have : shA s st w (.tup (e :: ds)) = false := by cases e <;> first | rfl | cases h
    rw [this] at hq
    exact hq
  | two x p =>
    walk_at "d"
    simp only [isiB, beq_self_eq_true, Bool.true_or, ↓reduceIte]
    rw [if_neg (by decide), if_neg (by decide)]
    refine ⟨x, rfl, ?_⟩
    have e : shA s st w (.tup [.str x, p]) = (decide (x = wF) && isFrom st w p) := rfl
    rw [e] at hq
    by_cases hx : x = wF
    · rw [if_pos ⟨hx, rfl⟩]
      rw [decide_eq_true hx, Bool.true_and] at hq
      exact ⟨st, w, p, rfl, hst', hk.tup (by simp), hq⟩
    · rw [if_neg (fun h => hx h.1), if_neg (fun h => absurd h.2 (by decide))]
      rw [decide_eq_false hx, Bool.false_and] at hq
      exact hq
  | three x a b =>
    walk_at "d"
    simp only [isiB, beq_self_eq_true, Bool.true_or, ↓reduceIte]
    rw [if_neg (by decide), if_neg (by decide)]
    refine ⟨x, rfl, ?_⟩
    have e : shA s st w (.tup [.str x, a, b]) = (decide (x = wT) && (alike s st a b && !decide (rolN s (finN s) (amI a) w = rolN s (finN s) (amI b) w))) := rfl
    rw [e] at hq
    rw [if_neg (fun h => absurd h.2 (by decide))]
    by_cases hx : x = wT
    · rw [if_pos ⟨hx, rfl⟩]
      rw [decide_eq_true hx, Bool.true_and] at hq
      refine ⟨s, st, a, b, rfl, hs, hst, hk.tup (by simp), hk.tup (by simp), _, rfl, ?_⟩
      cases ea : alike s st a b with
      | false =>
        rw [ea, Bool.false_and] at hq
        rw [if_pos (by rfl)]; exact hq
      | true =>
        rw [ea, Bool.true_and] at hq
        rw [if_neg (by decide)]
        simp only [alike, Bool.and_eq_true] at ea
        have e1 := (am_eq ea.1.1).1; have e2 := (am_eq ea.1.2).1
        refine ⟨s, amI a, w, by rw [← e1], hs, hw, s, amI b, w, by rw [← e2], hs, hw, ?_⟩
        exact aNe_iD hq
    · rw [if_neg (fun h => hx h.1)]
      rw [decide_eq_false hx, Bool.false_and] at hq
      exact hq
  | four x a b c ds =>
    walk_at "d"
    simp only [isiB, beq_self_eq_true, Bool.true_or, ↓reduceIte]
    have hn : ¬ (((ds.length + 1 + 1 + 1 + 1 : Nat) : Int) < 2) := by omega
    have h2 : ¬ (((ds.length + 1 + 1 + 1 + 1 : Nat) : Int) = 2) := by omega
    have h3 : ¬ (((ds.length + 1 + 1 + 1 + 1 : Nat) : Int) = 3) := by omega
    rw [if_neg (by simpa using hn), if_neg (by decide)]
    refine ⟨x, rfl, ?_⟩
    rw [if_neg (fun h => h2 h.2), if_neg (fun h => h3 h.2)]
    exact hq
/-! the sum at one cell -/
def smA (s : Sch) (xs : List Int) (w c : List Nat) : Int := rolF (kxOf s (finN s) xs w) c
def s_sum_at : DSp := fun ds m Q => ∃ (s : Sch) (xs : List Int) (w c : List Nat), ds = [encS s, iD xs, tD w, tD c] ∧ SchV s ∧ Roll s w ∧ Cell s w c ∧ Q (.int (smA s xs w c)) m
theorem l_sum_at : ∀ ds m Q, s_sum_at ds m Q → ds.length = 4 := by rintro ds m Q ⟨s, st, a, b, rfl, _⟩; rfl
def t_sum_at : DS := (xRet (dOp aIx (dCB s_sums_of (dCons (dVar 0) (dCons (dVar 1) (dCons (dVar 2) dNil)))) (dIndexL (dCB s_cells_of (dCons (dVar 0) (dCons (dVar 2) dNil))) (dVar 3))))
/-- cells.index(cell) -/
theorem index_tD {cs : List (List Nat)} {c : List Nat} {m : Mu} {P : D → Mu → Prop} (hc : c ∈ cs) (hb : ∀ k ∈ cs, ∀ x ∈ k, x ≤ 1000) (hl : ∀ k ∈ cs, k.length ≤ 3) (h2 : cs.length ≤ 1000) (q : ∀ j : Nat, cs[j]? = some c → P (.int (j : Nat)) m) :
    ∃ es j z, lst1 (.lst (cs.map tD)) m = some es ∧ okD (.lst (cs.map tD)) m ∧ okD (tD c) m ∧ es[j]? = some z ∧ PyData.eqv (py z) (pyM (tD c) m) = true ∧ (∀ i z', i < j → es[i]? = some z' → PyData.eqv (py z') (pyM (tD c) m) = false) ∧ P (.int (j : Nat)) m := by
  have hlt : cs.findIdx (fun x => decide (x = c)) < cs.length := List.findIdx_lt_length_of_exists ⟨c, hc, decide_eq_true rfl⟩
  have hget : cs[cs.findIdx (fun x => decide (x = c))]? = some c := by
    rw [List.getElem?_eq_getElem hlt]
    have := List.findIdx_getElem (p := fun x => decide (x = c)) (xs := cs) (w := hlt)
    rw [of_decide_eq_true this]
  have e : ∀ x : List Nat, PyData.eqv (py (tD x)) (pyM (tD c) m) = decide (x = c) := fun x => eqv_tD x c m
  refine ⟨_, cs.findIdx (fun x => decide (x = c)), tD c, rfl, ?_, ?_, by rw [List.getElem?_map, hget]; rfl, by rw [e]; exact decide_eq_true rfl, fun i z' hi hz => ?_, q _ hget⟩
  · refine (cm_lst (k := 1) fun d hd => ?_).ok (by decide) m
    obtain ⟨k, hk, rfl⟩ := List.mem_map.mp hd
    exact (sm_tD (Nat.le_refl _) fun x hx => by have := hb k hk x hx; omega).cm
  · exact ok_tD (fun x hx => by have := hb c hc x hx; omega) m
  · rw [List.getElem?_map] at hz
    obtain ⟨x, hx, rfl⟩ := Option.map_eq_some_iff.mp hz
    rw [e]
    have := List.not_of_lt_findIdx hi
    rw [List.getElem?_eq_getElem (by omega)] at hx
    cases hx
    simpa using this
theorem v_sum_at : Body 4 t_sum_at s_sum_at := by
  rintro ds m Q ⟨s, xs, w, c, rfl, hs, hw, hc, q⟩
  have hq := end_rt (m0 := m) q
  unfold t_sum_at
  walk_at "d"
  refine ⟨s, xs, w, rfl, hs, hw, ?_⟩
  unfold dIndexL
  simp only [dCB, dCons, dVar, dNil]
  refine ⟨_, rfl, _, rfl, s, w, rfl, hs, hw, rfl, _, rfl, ?_⟩
  have h60 := cells_small hs hw
  refine index_tD (P := fun y m2 => aIx (iD (rolN s (finN s) xs w)) y m2 (endD m Q).rt) (cell_iff.mpr hc) (fun k hk x hx => ?_) (fun k hk => ?_) (by omega) fun j hj => ?_
  · have := B.cell_bd hs hw (cell_iff.mp hk) x hx; omega
  · have := (cell_iff.mp hk).len hw; have := hs.2.1; omega
  · unfold iD rolN
    walk_at "d"
    refine ⟨_, ?_, hq⟩
    rw [at_nat, List.getElem?_map, List.getElem?_map, hj]
    rfl
def shC (s : Sch) (st : List (List Nat)) (w c : List Nat) (d : D) : Bool := match d with
  | .tup [.str x, p] => decide (x = wF) && isFrom st (ownL s w c) p
  | .tup [.str x, a, b] => decide (x = wT) && (alike s st a b && !decide (smA s (amI a) w c = smA s (amI b) w c))
  | _ => false
def s_shows_answer_cell : DSp := fun ds m Q => ∃ (s : Sch) (st : List (List Nat)) (w c : List Nat) (d : D), ds = [encS s, stD st, tD w, tD c, d] ∧ SchV s ∧ Stv s st ∧ Roll s w ∧ Cell s w c ∧ Kn m d ∧ Q (.bl (shC s st w c d)) m
theorem l_shows_answer_cell : ∀ ds m Q, s_shows_answer_cell ds m Q → ds.length = 5 := by rintro ds m Q ⟨s, st, w, a, b, rfl, _⟩; rfl
def t_shows_answer_cell : DS := (xSeq (xDrop (dCB s_need_wanted (dCons (dVar 0) (dCons (dVar 1) (dCons (dVar 2) dNil)))))
  (xSeq (xDrop (dCB s_need_cell (dCons (dVar 0) (dCons (dVar 2) (dCons (dVar 3) dNil)))))
  (xSeq (xIf (dOr (dNot (dTest (dIsi "tuple" (dVar 4)))) (dOr (dTest (dOp aLt (dCB aLen (dCons (dVar 4) dNil)) (dC (.int 2)))) (dNot (dTest (dIsi "str" (dOp aIx (dVar 4) (dC (.int 0)))))))) (xRet (dC (.bl false))) xNext)
  (xSeq (xMatch (dCons (dOp aIx (dVar 4) (dC (.int 0))) (dCons (dCB aLen (dCons (dVar 4) dNil)) dNil)) (((Str.ofString "from"), 2, (xRet (dCB s_is_from (dCons (dVar 1) (dCons (dOp aIx (dCB s_own_of (dCons (dVar 0) (dCons (dVar 2) (dCons (dVar 3) dNil)))) (dC (.int 0))) (dCons (dOp aIx (dVar 4) (dC (.int 1))) dNil)))))) :: (((Str.ofString "tables"), 3, (xSeq (xAsg (dVar 4) (gT 3 (gC (gV 5) (gC (gV 6) (gC (gV 7) gN)))))
  (xSeq (xIf (dNot (dTest (dCB s_are_alike (dCons (dVar 0) (dCons (dVar 1) (dCons (dVar 6) (dCons (dVar 7) dNil))))))) (xRet (dC (.bl false))) xNext)
  (xRet (dOp aNe (dCB s_sum_at (dCons (dVar 0) (dCons (dVar 6) (dCons (dVar 2) (dCons (dVar 3) dNil))))) (dCB s_sum_at (dCons (dVar 0) (dCons (dVar 7) (dCons (dVar 2) (dCons (dVar 3) dNil)))))))))) :: [])))
  (xRet (dC (.bl false)))))))
theorem v_shows_answer_cell : Body 8 t_shows_answer_cell s_shows_answer_cell := by
  rintro ds m Q ⟨s, st, w, c, d, rfl, hs, hst, hw, hc, hk, q⟩
  have hq := end_rt (m0 := m) q
  have hst' : ∀ r ∈ st, r.length ≤ 1000 := fun r hr => by have := (hst.2 r hr).len; have := hs.2.1; omega
  unfold t_shows_answer_cell
  simp only [xSeq, xDrop, dCB, dCons, dVar, dNil, startD]
  refine ⟨_, rfl, _, rfl, _, rfl, s, st, w, rfl, hs, hst, hw, _, rfl, _, rfl, _, rfl, s, w, c, rfl, hs, hw, hc, ?_⟩
  cases look2 d with
  | no _ h =>
    obtain ⟨t, et⟩ := hk.ty
    have e2 := isi_tup et
    simp only [xSeq, xIf, dOr, dNot, dTest, dIsi, dVar]
    refine ⟨_, rfl, t, et, _, rfl, ?_⟩
    rw [e2, h]
    have : shC s st w c d = false := by cases d <;> first | rfl | cases h
    rw [this] at hq
    exact hq
  | few ds h =>
    walk_at "d"
    have : ((ds.length : Nat) : Int) < 2 := by omega
    simp only [this, decide_true, ↓reduceIte]
    have : shC s st w c (.tup ds) = false := by
      match ds, h with
      | [], _ => rfl
      | [a], _ => cases a <;> rfl
    rw [this] at hq
    exact hq
  | odd e ds h hl =>
    obtain ⟨t, et⟩ := (hk.tup (d := e) (by simp)).ty
    have e2 := isi_str et
    walk_at "d"
    have hn : ¬ (((ds.length + 1 : Nat) : Int) < 2) := by omega
    simp only [hn, decide_false, Bool.false_eq_true, ↓reduceIte]
    refine ⟨t, et, ?_⟩
    rw [e2, h]
    simp only [D.bl.injEq, exists_eq_left', Bool.not_false, ↓reduceIte]
    have : shC s st w c (.tup (e :: ds)) = false := by cases e <;> first | rfl | cases h
    rw [this] at hq
    exact hq
  | two x p =>
    walk_at "d"
    simp only [isiB, beq_self_eq_true, Bool.true_or, ↓reduceIte]
    rw [if_neg (by decide), if_neg (by decide)]
    refine ⟨x, rfl, ?_⟩
    have e : shC s st w c (.tup [.str x, p]) = (decide (x = wF) && isFrom st (ownL s w c) p) := rfl
    rw [e] at hq
    by_cases hx : x = wF
    · rw [if_pos ⟨hx, rfl⟩]
      rw [decide_eq_true hx, Bool.true_and] at hq
      refine ⟨s, w, c, rfl, hs, hw, hc, ?_⟩
      walk_at "d"
      exact ⟨st, ownL s w c, p, rfl, hst', hk.tup (by simp), hq⟩
    · rw [if_neg (fun h => hx h.1), if_neg (fun h => absurd h.2 (by decide))]
      rw [decide_eq_false hx, Bool.false_and] at hq
      exact hq
  | three x a b =>
    walk_at "d"
    simp only [isiB, beq_self_eq_true, Bool.true_or, ↓reduceIte]
    rw [if_neg (by decide), if_neg (by decide)]
    refine ⟨x, rfl, ?_⟩
    have e : shC s st w c (.tup [.str x, a, b]) = (decide (x = wT) && (alike s st a b && !decide (smA s (amI a) w c = smA s (amI b) w c))) := rfl
    rw [e] at hq
    rw [if_neg (fun h => absurd h.2 (by decide))]
    by_cases hx : x = wT
    · rw [if_pos ⟨hx, rfl⟩]
      rw [decide_eq_true hx, Bool.true_and] at hq
      refine ⟨s, st, a, b, rfl, hs, hst, hk.tup (by simp), hk.tup (by simp), _, rfl, ?_⟩
      cases ea : alike s st a b with
      | false =>
        rw [ea, Bool.false_and] at hq
        rw [if_pos (by rfl)]; exact hq
      | true =>
        rw [ea, Bool.true_and] at hq
        rw [if_neg (by decide)]
        simp only [alike, Bool.and_eq_true] at ea
        have e1 := (am_eq ea.1.1).1; have e2 := (am_eq ea.1.2).1
        refine ⟨s, amI a, w, c, by rw [← e1], hs, hw, hc, s, amI b, w, c, by rw [← e2], hs, hw, hc, ?_⟩
        exact (aNe_int _ _ _ _).mpr hq
    · rw [if_neg (fun h => hx h.1)]
      rw [decide_eq_false hx, Bool.false_and] at hq
      exact hq
  | four x a b c' ds =>
    walk_at "d"
    simp only [isiB, beq_self_eq_true, Bool.true_or, ↓reduceIte]
    have hn : ¬ (((ds.length + 1 + 1 + 1 + 1 : Nat) : Int) < 2) := by omega
    have h2 : ¬ (((ds.length + 1 + 1 + 1 + 1 : Nat) : Int) = 2) := by omega
    have h3 : ¬ (((ds.length + 1 + 1 + 1 + 1 : Nat) : Int) = 3) := by omega
    rw [if_neg (by simpa using hn), if_neg (by decide)]
    refine ⟨x, rfl, ?_⟩
    rw [if_neg (fun h => h2 h.2), if_neg (fun h => h3 h.2)]
    exact hq
end Mn

set_option linter.all false
set_option maxHeartbeats 4000000
set_option autoImplicit false
set_option maxRecDepth 100000
namespace Mn
open PySem L2
variable [Tbs]
local macro_rules | `(tactic| walk_at "d") => `(tactic| (try simp only [xNext, xSeq, xAsg, xRet, xRetF, xDrop, xIf, xPar, xPar3, xMatch, mGo, xFrz, xPut, xAug, xFor, dVar, dC, dOp, dTest, dChain, dAndV, dOrV, dNotV, dAnd, dOr, dNot, dIf, dNil, dCons, dTup, dLst, dLstM, dCB, dIsi, dLc, dLcM, dYes, wipeD, dSlice, oSome, oNone, aSl_tup, aSl_lst, dNeg, dStar, dNewD, dTupVals, dSortSet, dCountL, dExtend, dAppend, dFrz, dLc2, dCountT, dIndexT, sqf_tup, sqf_lst, sqf_pair, sSeq, sSeq_tup, sSeq_lst, sRg1, sRg2, sZip2, sZip3, sZip4, sEnum, gV, gN, gC, gT, tupOf_tup, tupOf_pair, aAdd_int, aAdd_tup, aAdd_lst, aSub_int, aMul_int, aDiv_int, aMod_int, aPow_int, aCmp_int, aIx_tup, aIx_lst, aIx_scr, aIx_pair, aMax_int, aMin_int, aInt_bl, aInt_int, aLen_tup, aLen_lst, aLen_scr, aLen_pair, aTuple_lst, aTuple_tup, aIsB_bl, aNotB_bl, aEq_int, aNe_int, startD, List.map_cons, List.map_nil, List.length_cons, List.length_nil, List.cons_append, List.nil_append, List.replicate_zero, List.replicate_succ, List.append_nil, List.getElem?_cons_zero, List.getElem?_cons_succ, List.set_cons_zero, List.set_cons_succ, Option.some.injEq, exists_eq_left', exists_eq_left, exists_eq', D.int.injEq, D.bl.injEq, D.tup.injEq, D.lst.injEq, D.pair.injEq, D.ref.injEq, List.cons.injEq, Nat.sub_self, Nat.zero_add, Nat.add_sub_cancel, seqI_tup, seqI_lst, seqOf_tup, seqOf_lst, tyN_tup, tyN_lst, tyN_int, tyN_bl, tyN_str, tyN_non, isi_tt, at_0, at_1, at_2, at_3, Option.map_some, true_and, and_true, if_true, Bool.false_eq_true, if_false, Bool.not_true, Bool.not_false, ↓reduceIte, Nat.reduceAdd, Nat.reduceSub, exists_and_left, and_assoc]))
/-! sums over lists -/
theorem sum_flat {α β : Type} (F : β → Int) (f : α → List β) : ∀ l : List α, ((l.flatMap f).map F).sum = (l.map fun a => ((f a).map F).sum).sum
  | [] => rfl
  | a :: l => by rw [List.flatMap_cons, List.map_append, List.sum_append, List.map_cons, List.sum_cons, sum_flat F f l]
theorem sum_mulr {α : Type} (f : α → Int) (k : Int) : ∀ l : List α, (l.map fun a => f a * k).sum = (l.map f).sum * k
  | [] => by simp
  | a :: l => by rw [List.map_cons, List.sum_cons, List.map_cons, List.sum_cons, sum_mulr f k l, Int.add_mul]
theorem sum_mull {α : Type} (f : α → Int) (k : Int) : ∀ l : List α, (l.map fun a => k * f a).sum = k * (l.map f).sum
  | [] => by simp
  | a :: l => by rw [List.map_cons, List.sum_cons, List.map_cons, List.sum_cons, sum_mull f k l, Int.mul_add]
theorem sum_sub {α : Type} (f g : α → Int) : ∀ l : List α, (l.map fun a => f a - g a).sum = (l.map f).sum - (l.map g).sum
  | [] => by simp
  | a :: l => by rw [List.map_cons, List.sum_cons, List.map_cons, List.sum_cons, List.map_cons, List.sum_cons, sum_sub f g l]; omega
theorem sum_zero {α : Type} {f : α → Int} : ∀ {l : List α}, (∀ x ∈ l, f x = 0) → (l.map f).sum = 0
  | [], _ => rfl
  | a :: l, h => by rw [List.map_cons, List.sum_cons, h a List.mem_cons_self, sum_zero fun x hx => h x (List.mem_cons_of_mem _ hx)]; rfl
/-- at one place alone -/
theorem sum_one {α : Type} {f : α → Int} {x : α} : ∀ {l : List α}, l.Nodup → x ∈ l → (∀ y ∈ l, y ≠ x → f y = 0) → (l.map f).sum = f x
  | [], _, h, _ => nomatch h
  | a :: l, nd, hx, h => by
    obtain ⟨n1, n2⟩ := List.nodup_cons.mp nd
    rw [List.map_cons, List.sum_cons]
    by_cases e : a = x
    · subst e
      rw [sum_zero fun y hy => h y (List.mem_cons_of_mem _ hy) fun e => n1 (e ▸ hy)]; omega
    · have hx' : x ∈ l := by
        rcases List.mem_cons.mp hx with z | z
        · exact absurd z.symm e
        · exact z
      rw [h a List.mem_cons_self e, sum_one n2 hx' fun y hy => h y (List.mem_cons_of_mem _ hy)]; omega
theorem sum_two {α : Type} {f : α → Int} {x z : α} (hxz : x ≠ z) : ∀ {l : List α}, l.Nodup → x ∈ l → z ∈ l → (∀ y ∈ l, y ≠ x → y ≠ z → f y = 0) → (l.map f).sum = f x + f z
  | [], _, h, _, _ => nomatch h
  | a :: l, nd, hx, hz, h => by
    obtain ⟨n1, n2⟩ := List.nodup_cons.mp nd
    rw [List.map_cons, List.sum_cons]
    have mem : ∀ {y}, y ∈ a :: l → a ≠ y → y ∈ l := fun hy e => by
      rcases List.mem_cons.mp hy with z | z
      · exact absurd z.symm e
      · exact z
    by_cases e : a = x
    · subst e
      rw [sum_one n2 (mem hz hxz) fun y hy hne => h y (List.mem_cons_of_mem _ hy) (fun e => n1 (e ▸ hy)) hne]
    · by_cases e2 : a = z
      · subst e2
        rw [sum_one n2 (mem hx e) fun y hy hne => h y (List.mem_cons_of_mem _ hy) hne (fun e => n1 (e ▸ hy))]; omega
      · rw [h a List.mem_cons_self e e2, sum_two hxz n2 (mem hx e) (mem hz e2) fun y hy => h y (List.mem_cons_of_mem _ hy)]; omega
/-- sums as they are rolled up -/
theorem rolF_sum (kx : List (List Nat × Int)) (c : List Nat) : rolF kx c = (kx.map fun p => if c = p.1 then p.2 else 0).sum := by
  have key : ∀ (kx : List (List Nat × Int)) (f : List Nat → Int), kx.foldl addF f c = f c + (kx.map fun p => if c = p.1 then p.2 else 0).sum := by
    intro kx
    induction kx with
    | nil => intro f; simp
    | cons p kx ih =>
      intro f
      rw [List.foldl_cons, ih, List.map_cons, List.sum_cons]
      unfold addF
      split <;> omega
  unfold rolF
  rw [key]
  omega
/-! cells from the front -/
theorem cells_fold : ∀ (ns : List Nat) (rows : List (List Nat)), ns.foldl (fun rows k => rows.flatMap fun row => (List.range k).map fun j => row ++ [j]) rows = rows.flatMap fun row => (cellsN ns).map fun x => row ++ x
  | [], rows => by
    simp only [cellsN, List.foldl_nil, List.map_cons, List.map_nil, List.append_nil]
    exact (List.flatMap_singleton' rows).symm
  | k :: ns, rows => by
    have e : cellsN (k :: ns) = ([[]].flatMap fun row => (List.range k).map fun j => row ++ [j]).flatMap fun row => (cellsN ns).map fun x => row ++ x := cells_fold ns _
    rw [List.foldl_cons, cells_fold ns, e, List.flatMap_assoc]
    refine flatMap_cong fun row _ => ?_
    rw [List.flatMap_cons, List.flatMap_nil, List.append_nil, List.flatMap_map, List.flatMap_map, List.map_flatMap]
    refine flatMap_cong fun j _ => ?_
    rw [List.map_map]
    refine List.map_congr_left fun x _ => ?_
    simp
theorem cellsN_cons (n : Nat) (ns : List Nat) : cellsN (n :: ns) = (List.range n).flatMap fun v => (cellsN ns).map fun x => v :: x := by
  have e : cellsN (n :: ns) = ([[]].flatMap fun row => (List.range n).map fun j => row ++ [j]).flatMap fun row => (cellsN ns).map fun x => row ++ x := cells_fold ns _
  rw [e, List.flatMap_cons, List.flatMap_nil, List.append_nil, List.flatMap_map]
  rfl
/-! the difference of the two tables -/
def dl (v : Nat) (t : List Nat) : Int := if v = t.headD 0 then 1 else if t.contains v = true then -1 else 0
def dlt : List Nat → List (List Nat) → Int
  | v :: x, t :: ts => dl v t * dlt x ts
  | _, _ => 1
def gsum (a : At) (t : List Nat) (l g : Nat) : Int := ((List.range a.n).map fun v => if a.up v 0 l = g then dl v t else 0).sum
def gprod : Sch → List (List Nat) → List Nat → List Nat → Int
  | a :: s, t :: ts, l :: r, g :: c => gsum a t l g * gprod s ts r c
  | _, _, _, _ => 1
theorem diff_eq : ∀ (s : Sch) (ts : List (List Nat)) (r c : List Nat), ts.length = s.length → r.length = s.length → c.length = s.length →
    ((cellsN (s.map At.n)).map fun x => if c = abv s (finN s) x r then dlt x ts else 0).sum = gprod s ts r c
  | [], [], [], [], _, _, _ => rfl
  | a :: s, t :: ts, l :: r, g :: c, h1, h2, h3 => by
    have ih := diff_eq s ts r c (by simpa using h1) (by simpa using h2) (by simpa using h3)
    rw [List.map_cons, cellsN_cons, sum_flat, gprod, ← ih]
    unfold gsum
    rw [← sum_mulr]
    congr 1
    refine List.map_congr_left fun v _ => ?_
    rw [List.map_map, ← sum_mull]
    congr 1
    refine List.map_congr_left fun x _ => ?_
    show (if g :: c = a.up v 0 l :: abv s (finN s) x r then dl v t * dlt x ts else 0) = _
    by_cases e1 : a.up v 0 l = g
    · by_cases e2 : c = abv s (finN s) x r
      · rw [if_pos (by rw [e1, ← e2]), if_pos e1, if_pos e2]
      · rw [if_neg (fun h => e2 (List.cons.inj h).2), if_neg e2, Int.mul_zero]
    · rw [if_neg (fun h => e1 (List.cons.inj h).1.symm), if_neg e1, Int.zero_mul]
theorem inAll_cons (v : Nat) (x t : List Nat) (ts : List (List Nat)) : inAll (v :: x) (t :: ts) = (t.contains v && inAll x ts) := rfl
theorem secs_cons (v : Nat) (x t : List Nat) (ts : List (List Nat)) : secs (v :: x) (t :: ts) = (if v = t.headD 0 then 0 else 1) + secs x ts := by
  unfold secs
  rw [List.zip_cons_cons, List.filter_cons]
  by_cases h : v = t.headD 0
  · rw [if_neg (by simpa using h), if_pos h]; omega
  · rw [if_pos (by simpa using h), if_neg h, List.length_cons]; omega
theorem dlt_eq : ∀ (x : List Nat) (ts : List (List Nat)), x.length = ts.length → (∀ t ∈ ts, t ≠ []) → dlt x ts = if inAll x ts = true then (if secs x ts % 2 = 0 then 1 else -1) else 0
  | [], [], _, _ => rfl
  | v :: x, t :: ts, hl, hne => by
    have ih := dlt_eq x ts (by simpa using hl) fun t ht => hne t (List.mem_cons_of_mem _ ht)
    rw [dlt, ih, inAll_cons, secs_cons]
    unfold dl
    have ht : t ≠ [] := hne t List.mem_cons_self
    by_cases h1 : v = t.headD 0
    · have hc : t.contains v = true := by
        cases t with
        | nil => exact absurd rfl ht
        | cons y t => rw [List.contains_cons, h1]; simp
      rw [if_pos h1, if_pos h1, hc, Bool.true_and, Int.one_mul, Nat.zero_add]
    · rw [if_neg h1, if_neg h1]
      cases hc : t.contains v with
      | false => simp
      | true =>
        rw [if_pos rfl, Bool.true_and]
        cases hi : inAll x ts with
        | false => simp
        | true =>
          rw [if_pos rfl, if_pos rfl]
          by_cases e : secs x ts % 2 = 0
          · rw [if_pos e, if_neg (by omega)]; rfl
          · rw [if_neg e, if_pos (by omega)]; rfl
/-- the sums of the two tables differ by a product -/
theorem prt_diff {s : Sch} {ts : List (List Nat)} {r c : List Nat} (h1 : ts.length = s.length) (h2 : r.length = s.length) (h3 : c.length = s.length) (hne : ∀ t ∈ ts, t ≠ []) :
    smA s ((prt s ts 0).map fun k : Nat => (k : Int)) r c - smA s ((prt s ts 1).map fun k : Nat => (k : Int)) r c = gprod s ts r c := by
  unfold smA
  rw [rolF_sum, rolF_sum, ← diff_eq s ts r c h1 h2 h3]
  have key : ∀ b : Nat, ((kxOf s (finN s) ((prt s ts b).map fun k : Nat => (k : Int)) r).map fun p => if c = p.1 then p.2 else 0) = (cellsN (s.map At.n)).map fun x => if c = abv s (finN s) x r then (if (inAll x ts && decide (secs x ts % 2 = b)) = true then 1 else 0 : Int) else 0 := by
    intro b
    unfold kxOf prt cellsOf
    rw [szs_fin, List.map_map, List.map_map]
    have : ∀ (l : List (List Nat)) (f : List Nat → Int) (G : List Nat × Int → Int), ((l.zip (l.map f)).map G) = l.map fun x => G (x, f x) := by
      intro l f G
      induction l with
      | nil => rfl
      | cons a l ih => rw [List.map_cons, List.zip_cons_cons, List.map_cons, List.map_cons, ih]
    rw [this]
    refine List.map_congr_left fun x _ => ?_
    simp only [Function.comp]
    by_cases e : c = abv s (finN s) x r
    · rw [if_pos e, if_pos e]; split <;> rfl
    · rw [if_neg e, if_neg e]
  rw [key 0, key 1, ← sum_sub]
  congr 1
  refine List.map_congr_left fun x hx => ?_
  have hl : x.length = ts.length := by rw [cells_item hx, List.length_map, h1]
  by_cases e : c = abv s (finN s) x r
  · rw [if_pos e, if_pos e, if_pos e, dlt_eq x ts hl hne]
    cases hi : inAll x ts with
    | false => simp
    | true =>
      rw [Bool.true_and, Bool.true_and, if_pos rfl]
      by_cases e2 : secs x ts % 2 = 0
      · rw [if_pos (decide_eq_true e2), if_neg (by rw [decide_eq_false (by omega)]; decide), if_pos e2]; rfl
      · rw [if_neg (by rw [decide_eq_false e2]; decide), if_pos (decide_eq_true (by omega)), if_neg e2]; rfl
  · rw [if_neg e, if_neg e, if_neg e]; rfl
theorem dl_head (x : Nat) (t : List Nat) : dl x (x :: t) = 1 := by unfold dl; exact if_pos rfl
theorem dl_snd {x y : Nat} (h : x ≠ y) : dl y [x, y] = -1 := by
  unfold dl
  rw [if_neg (show ¬ y = [x, y].headD 0 from fun e => h (show y = x from e).symm), if_pos (by simp)]
theorem dl_no2 {x y v : Nat} (h1 : v ≠ x) (h2 : v ≠ y) : dl v [x, y] = 0 := by
  unfold dl
  rw [if_neg (show ¬ v = [x, y].headD 0 from h1), if_neg (by simp [h1, h2])]
theorem dl_no1 {x v : Nat} (h1 : v ≠ x) : dl v [x] = 0 := by
  unfold dl
  rw [if_neg (show ¬ v = [x].headD 0 from h1), if_neg (by simp [h1])]
/-- two values in one group -/
theorem gsum_zero {a : At} {x y l g : Nat} (hx : x < a.n) (hy : y < a.n) (hxy : x ≠ y) (h : a.up x 0 l = a.up y 0 l) : gsum a [x, y] l g = 0 := by
  unfold gsum
  rw [sum_two hxy List.nodup_range (List.mem_range.mpr hx) (List.mem_range.mpr hy) fun v _ h1 h2 => by rw [dl_no2 h1 h2]; split <;> rfl]
  rw [dl_head, dl_snd hxy, h]
  split <;> rfl
theorem gsum_one1 {a : At} {x l g : Nat} (hx : x < a.n) (h : a.up x 0 l = g) : gsum a [x] l g = 1 := by
  unfold gsum
  rw [sum_one (x := x) List.nodup_range (List.mem_range.mpr hx) fun v _ h1 => by rw [dl_no1 h1]; split <;> rfl]
  rw [if_pos h, dl_head]
theorem gsum_one2 {a : At} {x y l g : Nat} (hx : x < a.n) (hy : y < a.n) (hxy : x ≠ y) (h : a.up x 0 l = g) (h2 : a.up y 0 l ≠ g) : gsum a [x, y] l g = 1 := by
  unfold gsum
  rw [sum_two hxy List.nodup_range (List.mem_range.mpr hx) (List.mem_range.mpr hy) fun v _ h1 h2 => by rw [dl_no2 h1 h2]; split <;> rfl]
  rw [if_pos h, if_neg h2, dl_head]
  rfl
theorem gprod_zero : ∀ {s : Sch} {ts : List (List Nat)} {r c : List Nat} {i : Nat} {a : At} {t : List Nat} {l g : Nat}, s[i]? = some a → ts[i]? = some t → r[i]? = some l → c[i]? = some g → gsum a t l g = 0 → gprod s ts r c = 0
  | a :: s, t :: ts, l :: r, g :: c, 0, _, _, _, _, h1, h2, h3, h4, h => by
    cases h1; cases h2; cases h3; cases h4
    rw [gprod, h, Int.zero_mul]
  | a :: s, t :: ts, l :: r, g :: c, i + 1, _, _, _, _, h1, h2, h3, h4, h => by
    rw [gprod, gprod_zero (s := s) (ts := ts) (r := r) (c := c) (i := i) (by simpa using h1) (by simpa using h2) (by simpa using h3) (by simpa using h4) h, Int.mul_zero]
  | [], _, _, _, _, _, _, _, _, h1, _, _, _, _ => by simp at h1
  | _ :: _, [], _, _, _, _, _, _, _, _, h1, _, _, _ => by simp at h1
  | _ :: _, _ :: _, [], _, _, _, _, _, _, _, _, h1, _, _ => by simp at h1
  | _ :: _, _ :: _, _ :: _, [], _, _, _, _, _, _, _, _, h1, _ => by simp at h1
theorem gprod_one : ∀ {s : Sch} {ts : List (List Nat)} {r c : List Nat}, (∀ (i : Nat) (a : At) (t : List Nat) (l g : Nat), s[i]? = some a → ts[i]? = some t → r[i]? = some l → c[i]? = some g → gsum a t l g = 1) → gprod s ts r c = 1
  | a :: s, t :: ts, l :: r, g :: c, h => by
    rw [gprod, h 0 a t l g rfl rfl rfl rfl, gprod_one fun i a t l g h1 h2 h3 h4 => h (i + 1) a t l g (by simpa using h1) (by simpa using h2) (by simpa using h3) (by simpa using h4)]; rfl
  | [], _, _, _, _ => by simp [gprod]
  | _ :: _, [], _, _, _ => by simp [gprod]
  | _ :: _, _ :: _, [], _, _ => by simp [gprod]
  | _ :: _, _ :: _, _ :: _, [], _ => by simp [gprod]
end Mn

set_option linter.all false
set_option maxHeartbeats 4000000
set_option autoImplicit false
set_option maxRecDepth 100000
namespace Mn
open PySem L2
variable [Tbs]
local macro_rules | `(tactic| walk_at "d") => `(tactic| (try simp only [xNext, xSeq, xAsg, xRet, xRetF, xDrop, xIf, xPar, xPar3, xMatch, mGo, xFrz, xPut, xAug, xFor, dVar, dC, dOp, dTest, dChain, dAndV, dOrV, dNotV, dAnd, dOr, dNot, dIf, dNil, dCons, dTup, dLst, dLstM, dCB, dIsi, dLc, dLcM, dYes, wipeD, dSlice, oSome, oNone, aSl_tup, aSl_lst, dNeg, dStar, dNewD, dTupVals, dSortSet, dCountL, dExtend, dAppend, dFrz, dLc2, dCountT, dIndexT, sqf_tup, sqf_lst, sqf_pair, sSeq, sSeq_tup, sSeq_lst, sRg1, sRg2, sZip2, sZip3, sZip4, sEnum, gV, gN, gC, gT, tupOf_tup, tupOf_pair, aAdd_int, aAdd_tup, aAdd_lst, aSub_int, aMul_int, aDiv_int, aMod_int, aPow_int, aCmp_int, aIx_tup, aIx_lst, aIx_scr, aIx_pair, aMax_int, aMin_int, aInt_bl, aInt_int, aLen_tup, aLen_lst, aLen_scr, aLen_pair, aTuple_lst, aTuple_tup, aIsB_bl, aNotB_bl, aEq_int, aNe_int, startD, List.map_cons, List.map_nil, List.length_cons, List.length_nil, List.cons_append, List.nil_append, List.replicate_zero, List.replicate_succ, List.append_nil, List.getElem?_cons_zero, List.getElem?_cons_succ, List.set_cons_zero, List.set_cons_succ, Option.some.injEq, exists_eq_left', exists_eq_left, exists_eq', D.int.injEq, D.bl.injEq, D.tup.injEq, D.lst.injEq, D.pair.injEq, D.ref.injEq, List.cons.injEq, Nat.sub_self, Nat.zero_add, Nat.add_sub_cancel, seqI_tup, seqI_lst, seqOf_tup, seqOf_lst, tyN_tup, tyN_lst, tyN_int, tyN_bl, tyN_str, tyN_non, isi_tt, at_0, at_1, at_2, at_3, Option.map_some, true_and, and_true, if_true, Bool.false_eq_true, if_false, Bool.not_true, Bool.not_false, ↓reduceIte, Nat.reduceAdd, Nat.reduceSub, exists_and_left, and_assoc]))
/-! what is taken tells the tables apart -/
def Tk2 (a : At) (t : List Nat) (L g : Nat) : Prop :=
  (L = a.ss.length ∧ ∃ x, t = [x] ∧ x < a.n ∧ a.up x 0 L = g) ∨ (L < a.ss.length ∧ ∃ x y, t = [x, y] ∧ x < a.n ∧ y < a.n ∧ x ≠ y ∧ a.up x 0 L = g ∧ a.up y 0 L ≠ g ∧ a.up x 0 (L + 1) = a.up y 0 (L + 1))
def Tks (s : Sch) (ts : List (List Nat)) (Ls gs : List Nat) : Prop := ts.length = s.length ∧ Ls.length = s.length ∧ gs.length = s.length ∧
  ∀ (i : Nat) (a : At) (t : List Nat) (L g : Nat), s[i]? = some a → ts[i]? = some t → Ls[i]? = some L → gs[i]? = some g → Tk2 a t L g
theorem Tk2.ne {a : At} {t : List Nat} {L g : Nat} (h : Tk2 a t L g) : t ≠ [] := by
  rcases h with ⟨_, x, e, _⟩ | ⟨_, x, y, e, _⟩ <;> rw [e] <;> simp
theorem Tks.ne {s : Sch} {ts : List (List Nat)} {Ls gs : List Nat} (h : Tks s ts Ls gs) : ∀ t ∈ ts, t ≠ [] := fun t ht => by
  obtain ⟨i, hi⟩ := List.mem_iff_getElem?.mp ht
  have hl := (List.getElem?_eq_some_iff.mp hi).1
  obtain ⟨a, ha⟩ := get_ex (l := s) (i := i) (by have := h.1; omega)
  obtain ⟨L, hL⟩ := get_ex (l := Ls) (i := i) (by have := h.1; have := h.2.1; omega)
  obtain ⟨g, hg⟩ := get_ex (l := gs) (i := i) (by have := h.1; have := h.2.2.1; omega)
  exact (h.2.2.2 i a t L g ha hi hL hg).ne
theorem up_more {a : At} {x y L l : Nat} (h1 : L + 1 ≤ l) (h2 : l ≤ a.ss.length) (h : a.up x 0 (L + 1) = a.up y 0 (L + 1)) : a.up x 0 l = a.up y 0 l := by
  rw [← up_trans (mid := L + 1) (Nat.zero_le _) h1 h2, h, up_trans (Nat.zero_le _) h1 h2]
theorem fine_no {a b : List Nat} (hl : a.length = b.length) (h : fineB a b = false) : ∃ (i x y : Nat), a[i]? = some x ∧ b[i]? = some y ∧ y < x := by
  rcases Classical.em (∃ (i x y : Nat), a[i]? = some x ∧ b[i]? = some y ∧ y < x) with c | c
  · exact c
  · have : fineB a b = true := fine_of fun i x y hx hy => by
      rcases Nat.lt_or_ge y x with z | z
      · exact absurd ⟨i, x, y, hx, hy, z⟩ c
      · exact z
    rw [this] at h; cases h
abbrev tI (l : List Nat) : List Int := l.map fun k : Nat => (k : Int)
theorem rolN_sm (s : Sch) (xs : List Int) (r : List Nat) : rolN s (finN s) xs r = (cellsOf s r).map (smA s xs r) := rfl
theorem tks_same {s : Sch} {ts : List (List Nat)} {Ls gs r : List Nat} (hs : SchV s) (h : Tks s ts Ls gs) (hr : Roll s r) (hf : fineB r Ls = false) : rolN s (finN s) (tI (prt s ts 0)) r = rolN s (finN s) (tI (prt s ts 1)) r := by
  rw [rolN_sm, rolN_sm]
  refine List.map_congr_left fun c hc => ?_
  have hC := cell_iff.mp hc
  have hd : smA s (tI (prt s ts 0)) r c - smA s (tI (prt s ts 1)) r c = gprod s ts r c := prt_diff (r := r) (c := c) h.1 hr.len (hC.len hr) h.ne
  obtain ⟨i, l, L, hl, hL, hlt⟩ := fine_no (by rw [hr.len, h.2.1]) hf
  have hi : i < s.length := by rw [← hr.len]; exact (List.getElem?_eq_some_iff.mp hl).1
  obtain ⟨a, ha⟩ := get_ex hi
  obtain ⟨t, ht⟩ := get_ex (l := ts) (i := i) (by have := h.1; omega)
  obtain ⟨g, hg⟩ := get_ex (l := gs) (i := i) (by have := h.2.2.1; omega)
  obtain ⟨g', hg'⟩ := get_ex (l := c) (i := i) (by rw [hC.len hr]; exact hi)
  have hla := hr.at ha hl
  have hz : gsum a t l g' = 0 := by
    rcases h.2.2.2 i a t L g ha ht hL hg with ⟨e, _⟩ | ⟨_, x, y, e, hx, hy, hxy, _, _, e2⟩
    · omega
    · rw [e]; exact gsum_zero hx hy hxy (up_more (by omega) hla e2)
  rw [gprod_zero ha ht hl hg' hz] at hd
  omega
theorem tks_unlike {s : Sch} {ts : List (List Nat)} {Ls gs : List Nat} {w c : List Nat} (h : Tks s ts Ls gs) (hw : w.length = s.length) (hc : c.length = s.length)
    (hk : ∀ (i : Nat) (a : At) (L g l k : Nat), s[i]? = some a → Ls[i]? = some L → gs[i]? = some g → w[i]? = some l → c[i]? = some k → ∀ v, v < a.n → (a.up v 0 l = k ↔ a.up v 0 L = g)) :
    smA s (tI (prt s ts 0)) w c ≠ smA s (tI (prt s ts 1)) w c := by
  have hd : smA s (tI (prt s ts 0)) w c - smA s (tI (prt s ts 1)) w c = gprod s ts w c := prt_diff (r := w) (c := c) h.1 hw hc h.ne
  have : gprod s ts w c = 1 := gprod_one fun i a t l k ha ht hl hk' => by
    have hi := (List.getElem?_eq_some_iff.mp ha).1
    obtain ⟨L, hL⟩ := get_ex (l := Ls) (i := i) (by have := h.2.1; omega)
    obtain ⟨g, hg⟩ := get_ex (l := gs) (i := i) (by have := h.2.2.1; omega)
    have hv := hk i a L g l k ha hL hg hl hk'
    rcases h.2.2.2 i a t L g ha ht hL hg with ⟨_, x, e, hx, e2⟩ | ⟨_, x, y, e, hx, hy, hxy, e2, e3, _⟩
    · rw [e]; exact gsum_one1 hx ((hv x hx).mpr e2)
    · rw [e]; exact gsum_one2 hx hy hxy ((hv x hx).mpr e2) fun z => e3 ((hv y hy).mp z)
  omega
/-! the first two values that a level tells apart -/
theorem tk_ex {a : At} (ha : a.V) {l : Nat} (hl : l < a.ss.length) : ∃ x y, x < y ∧ y < a.n ∧ a.up x 0 l ≠ a.up y 0 l ∧ a.up x 0 (l + 1) = a.up y 0 (l + 1) := by
  rcases Classical.em (∃ x y, x < y ∧ y < a.n ∧ a.up x 0 l ≠ a.up y 0 l ∧ a.up x 0 (l + 1) = a.up y 0 (l + 1)) with c | c
  · exact c
  · exfalso
    have inj : ∀ x y, x < a.n → y < a.n → a.up x 0 (l + 1) = a.up y 0 (l + 1) → a.up x 0 l = a.up y 0 l := fun x y hx hy e => by
      rcases Classical.em (a.up x 0 l = a.up y 0 l) with z | z
      · exact z
      · exfalso
        rcases Nat.lt_trichotomy x y with k | k | k
        · exact c ⟨x, y, k, hy, z, e⟩
        · exact z (by rw [k])
        · exact c ⟨y, x, k, hx, fun q => z q.symm, e.symm⟩
    have hst := ha.step hl
    have nd : ((List.range (a.sz l)).map fun g => stepG (a.ss.getD l []) g).Nodup := by
      refine List.pairwise_map.mpr (List.Pairwise.imp_of_mem (fun {g g'} hg hg' hlt e => ?_) List.pairwise_lt_range)
      obtain ⟨x, hx, ex⟩ := ha.up_surj (lo := 0) (Nat.zero_le _) (Nat.le_of_lt hl) (List.mem_range.mp hg)
      obtain ⟨y, hy, ey⟩ := ha.up_surj (lo := 0) (Nat.zero_le _) (Nat.le_of_lt hl) (List.mem_range.mp hg')
      have := inj x y hx hy (by rw [up_succ (Nat.zero_le _) hl, up_succ (Nat.zero_le _) hl, ex, ey]; exact e)
      rw [ex, ey] at this
      omega
    have := L2.nat_nodup_len _ (List.range (a.sz (l + 1))) nd fun x hx => by
      obtain ⟨g, hg, rfl⟩ := List.mem_map.mp hx
      exact List.mem_range.mpr (ha.lt hl (List.mem_range.mp hg))
    rw [List.length_map, List.length_range, List.length_range] at this
    have := hst.2.1
    omega
theorem tk_spec {a : At} (ha : a.V) {l : Nat} (hl : l < a.ss.length) : ∃ x y, tkN a l = [x, y] ∧ x < y ∧ y < a.n ∧ a.up x 0 l ≠ a.up y 0 l ∧ a.up x 0 (l + 1) = a.up y 0 (l + 1) := by
  unfold tkN
  rw [if_pos hl]
  have hsome : tkO a l ≠ none := fun e => by
    obtain ⟨x, y, h1, h2, h3, h4⟩ := tk_ex ha hl
    unfold tkO at e
    rw [List.findSome?_eq_none_iff] at e
    have e2 := e x (List.mem_range.mpr (by omega))
    unfold tkJ at e2
    rw [List.findSome?_eq_none_iff] at e2
    have e3 := e2 y (List.mem_range'_1.mpr ⟨by omega, by omega⟩)
    rw [if_pos (by unfold tkC; rw [decide_eq_true h3, decide_eq_true h4]; rfl)] at e3
    cases e3
  cases e : tkO a l with
  | none => exact absurd e hsome
  | some t =>
    unfold tkO at e
    obtain ⟨i, hi, e⟩ := List.exists_of_findSome?_eq_some e
    unfold tkJ at e
    obtain ⟨j, hj, e⟩ := List.exists_of_findSome?_eq_some e
    rw [List.mem_range'_1] at hj
    rw [List.mem_range] at hi
    split at e
    · next h =>
      cases e
      unfold tkC at h
      rw [Bool.and_eq_true, decide_eq_true_eq, decide_eq_true_eq] at h
      exact ⟨i, j, rfl, by omega, by omega, h.1, h.2⟩
    · cases e
/-- the groups of the values taken -/
def tkG (s : Sch) (w : List Nat) : List Nat := (s.zip w).map fun p => p.1.up ((tkN p.1 p.2).headD 0) 0 p.2
theorem zip_at {α β : Type} {as : List α} {bs : List β} {i : Nat} {a : α} {b : β} (ha : as[i]? = some a) (hb : bs[i]? = some b) : (as.zip bs)[i]? = some (a, b) := by
  rw [List.getElem?_zip_eq_some]; exact ⟨ha, hb⟩
theorem tks_tk {s : Sch} {w : List Nat} (hs : SchV s) (hw : Roll s w) : Tks s (tks s w) w (tkG s w) := by
  have hl := hw.len
  refine ⟨by unfold tks; rw [List.length_map, List.length_zip]; omega, hl, by unfold tkG; rw [List.length_map, List.length_zip]; omega, fun i a t L g ha ht hL hg => ?_⟩
  have hz := zip_at ha hL
  unfold tks at ht
  rw [List.getElem?_map, hz] at ht
  unfold tkG at hg
  rw [List.getElem?_map, hz] at hg
  cases ht; cases hg
  have hV := hs.2.2.1 a (List.mem_of_getElem? ha)
  by_cases e : L < a.ss.length
  · obtain ⟨x, y, e1, h1, h2, h3, h4⟩ := tk_spec hV e
    right
    exact ⟨e, x, y, e1, by omega, h2, by omega, by simp only [e1]; rfl, by simp only [e1]; exact fun z => h3 z.symm, h4⟩
  · left
    have hle := hw.at ha hL
    refine ⟨by omega, 0, ?_, hV.1, ?_⟩
    · simp only [tkN]; rw [if_neg e]
    · simp only [tkN]; rw [if_neg e]; rfl
theorem amI_tD (l : List Nat) : amI (tD l) = tI l := by rw [tD_ints]; exact amI_iD _
theorem prt_am (s : Sch) (ts : List (List Nat)) (b : Nat) : isAm s (finN s) (tD (prt s ts b)) = true := by
  rw [tD_ints]
  exact isAm_ok (by rw [List.length_map]; unfold prt cellsOf; rw [List.length_map, cellsN_len])
theorem pl_none {st : List (List Nat)} {w : List Nat} (h : plN st w = none) : ∀ r ∈ st, fineB r w = false := fun r hr => by
  unfold plN at h
  rw [Option.map_eq_none_iff, List.find?_eq_none] at h
  obtain ⟨i, hi⟩ := List.mem_iff_getElem?.mp hr
  have := h (r, i) (by rw [List.mem_zipIdx_iff_getElem?]; exact hi)
  simpa using this
theorem pl_some {st : List (List Nat)} {w : List Nat} {i : Nat} (h : plN st w = some i) : ∃ r, st[i]? = some r ∧ fineB r w = true := by
  unfold plN at h
  obtain ⟨q, h1, h2⟩ := Option.map_eq_some_iff.mp h
  have h3 := List.find?_some h1
  have h4 := List.mem_of_find?_eq_some h1
  rw [List.mem_zipIdx_iff_getElem?] at h4
  subst h2
  exact ⟨q.1, h4, h3⟩
theorem pl_iff {st : List (List Nat)} {w : List Nat} : plN st w = none ↔ ∀ r ∈ st, fineB r w = false := by
  refine ⟨pl_none, fun h => ?_⟩
  cases e : plN st w with
  | none => rfl
  | some i =>
    obtain ⟨r, h1, h2⟩ := pl_some e
    rw [h r (List.mem_of_getElem? h1)] at h2; cases h2
theorem from_ok {st : List (List Nat)} {w : List Nat} {i : Nat} (h : plN st w = some i) : isFrom st w (nD i) = true := by
  obtain ⟨r, h1, h2⟩ := pl_some h
  have hi := (List.getElem?_eq_some_iff.mp h1).1
  unfold isFrom
  rw [Bool.and_eq_true]
  refine ⟨?_, ?_⟩
  · simp only [betw, nD, Bool.and_eq_true, decide_eq_true_eq]; omega
  · show fineB (st.getD ((i : Int)).toNat []) w = true
    rw [Int.toNat_natCast, List.getD_eq_getElem?_getD, h1]
    exact h2
theorem tabs_alike {s : Sch} {ts : List (List Nat)} {st : List (List Nat)} (h : ∀ r ∈ st, rolN s (finN s) (tI (prt s ts 0)) r = rolN s (finN s) (tI (prt s ts 1)) r) : alike s st (tD (prt s ts 0)) (tD (prt s ts 1)) = true := by
  unfold alike
  rw [prt_am, prt_am, amI_tD, amI_tD, Bool.true_and, Bool.true_and, List.all_eq_true]
  intro r hr
  exact decide_eq_true (h r hr)
theorem tins_tk {s : Sch} {w c : List Nat} (hs : SchV s) (hw : Roll s w) (hc : Cell s w c) : Tks s (tins s w c) (ownL s w c) (ownC s w c) := by
  have hl := hw.len; have hcl := hc.len hw
  have hz : (s.zip (w.zip c)).length = s.length := by rw [List.length_zip, List.length_zip]; omega
  refine ⟨by unfold tins; rw [List.length_map, hz], by unfold ownL; rw [List.length_map, hz], by unfold ownC; rw [List.length_map, hz], fun i a t L g ha ht hL hg => ?_⟩
  have hi := (List.getElem?_eq_some_iff.mp ha).1
  obtain ⟨l, hl'⟩ := get_ex (l := w) (i := i) (by omega)
  obtain ⟨k, hk'⟩ := get_ex (l := c) (i := i) (by omega)
  obtain ⟨e1, e2⟩ := ownL_at ha hl' hk'
  rw [e1] at hL; cases hL
  rw [e2] at hg; cases hg
  unfold tins at ht
  rw [List.getElem?_map, zip_at ha (zip_at hl' hk')] at ht
  cases ht
  have hV := hs.2.2.1 a (List.mem_of_getElem? ha)
  obtain ⟨f1, f2, f3, f4, f5, f6⟩ := own_fv hV (hw.at ha hl') (hc.at ha hl' hk')
  simp only
  generalize hv : fv a l k = v at *
  generalize hLL : (ownG a l k).1 = L at *
  have hne := cls_ne (l := L) f1
  obtain ⟨x, r, ex⟩ := List.exists_cons_of_ne_nil hne
  have hx : x ∈ clsN a v L := by rw [ex]; exact List.mem_cons_self
  obtain ⟨hx1, hx2⟩ := mem_cls.mp hx
  unfold tinN
  by_cases e : L = a.ss.length
  · left
    refine ⟨e, x, by rw [if_pos e, ex]; rfl, hx1, by rw [f3]; exact hx2⟩
  · right
    have hlt : L < a.ss.length := by omega
    have hcn : clsN a v (L + 1) ≠ clsN a v L := by rw [f5]; exact f6 (L + 1) (by omega) hlt
    obtain ⟨y, r2, ey⟩ := List.exists_cons_of_ne_nil (others_ne hlt hcn)
    have hy : y ∈ others a v L := by rw [ey]; exact List.mem_cons_self
    unfold others at hy
    rw [List.mem_filter] at hy
    obtain ⟨hy1, hy2⟩ := mem_cls.mp hy.1
    have hy3 : y ∉ clsN a v L := by simpa using hy.2
    have hy4 : a.up y 0 L ≠ a.up v 0 L := fun z => hy3 (mem_cls.mpr ⟨hy1, z⟩)
    refine ⟨hlt, x, y, by rw [if_neg e, ex, ey]; rfl, hx1, hy1, ?_, by rw [f3]; exact hx2, by rw [f3]; exact hy4, ?_⟩
    · rintro rfl; exact hy4 hx2
    · rw [cls_mono (l := L) (l' := L + 1) (by omega) hlt hx2, hy2]
theorem shC_ans {s : Sch} {st : List (List Nat)} {w c : List Nat} (hs : SchV s) (hst : Stv s st) (hw : Roll s w) (hc : Cell s w c) : shC s st w c (ansC s st w c) = true := by
  unfold ansC
  cases e : plN st (ownL s w c) with
  | some i =>
    show (decide (Str.ofString "from" = wF) && isFrom st (ownL s w c) (nD i)) = true
    rw [from_ok e]; rfl
  | none =>
    have hk := tins_tk hs hw hc
    have h0 := pl_none e
    have ha := tabs_alike (s := s) (ts := tins s w c) (st := st) fun r hr => tks_same hs hk (hst.2 r hr) (h0 r hr)
    show (decide (Str.ofString "tables" = wT) && (alike s st (tD (prt s (tins s w c) 0)) (tD (prt s (tins s w c) 1)) && !decide (smA s (amI (tD (prt s (tins s w c) 0))) w c = smA s (amI (tD (prt s (tins s w c) 1))) w c))) = true
    rw [ha, amI_tD, amI_tD]
    have hn := tks_unlike (w := w) (c := c) hk hw.len (hc.len hw) fun i a L g l k ha hL hg hl hk' v hv => by
      obtain ⟨e1, e2⟩ := ownL_at ha hl hk'
      rw [e1] at hL; cases hL
      rw [e2] at hg; cases hg
      have hV := hs.2.2.1 a (List.mem_of_getElem? ha)
      obtain ⟨f1, f2, f3, f4, f5, f6⟩ := own_fv hV (hw.at ha hl) (hc.at ha hl hk')
      have hfv := (fv_ok hV (hw.at ha hl) (hc.at ha hl hk')).2
      have := cls_eq.mp f5 v hv
      rw [f3, this, hfv]
    rw [decide_eq_false hn]
    rfl
end Mn

set_option Elab.async false
set_option linter.all false
set_option maxRecDepth 100000
set_option maxHeartbeats 4000000
set_option autoImplicit false
namespace Mn
open PySem PySem.Spec PyProof.Rows L2
variable [Tbs]
/-! t[::k], k = 1 or -1 -/
section
variable {prog : Program} {w : World} {A : Around} {E : Value → Shared → Prop} {s : Shared}
end
section
variable {X : Cx}
/-- over data -/
def dStep (te tk : DT) : DT := fun r m Q => te r m fun d m1 => tk r m1 fun k m2 => ∃ ds, d = .tup ds ∧ ((k = .int (-1) ∧ Q (.tup ds.reverse) m2) ∨ (k = .int 1 ∧ Q (.tup ds) m2))
end
end Mn

set_option Elab.async false
set_option linter.all false
set_option maxRecDepth 100000
set_option maxHeartbeats 4000000
set_option autoImplicit false
namespace Mn
open PySem PySem.Spec PyProof.Rows L2
variable [Tbs]
/-! t.index(x), t a tuple of any data -/
section
variable {X : Cx}
def rIdxTD (K : PySem.W.Frag) : V → List V → Hp → VK → Prop := fun x xs H Q => ∃ (a : Addr) (y : V) (d : PyData) (ds : List PyData) (j : Nat) (z : PyData), x = V.ref a ∧ xs = [y] ∧ Dp K H (V.ref a) (.tuple ds) ∧ Dp K H y d ∧
  SeqAt.shaped (.tuple ds) = true ∧ SeqAt.shaped d = true ∧ ds[j]? = some z ∧ PyData.eqv z d = true ∧ (∀ (i : Nat) (z' : PyData), i < j → ds[i]? = some z' → PyData.eqv z' d = false) ∧ Q (.int (j : Nat)) H
theorem mt_tindexD (hu : X.A.units + 65 < cLine) : MtR X "tuple.index" (rIdxTD X.K) := by
  intro pins s σ H x xs v us Q I rx rxs h
  obtain ⟨a, y, d, ds, j, z, rfl, rfl, hl, hy, sl, sd, hz, hzj, hno, q⟩ := h
  cases rx
  obtain ⟨uy, rfl, ry⟩ := rxs.one
  obtain ⟨bs, r1⟩ := Dp.reads I d y uy hy ry
  have lay : PyData.canLayAll0 ds = true := SeqAt.canLay_of_shaped sl
  have rm : X.A.units + 1 + min (PyData.depthAll ds) d.depth < cLine := room_in_shaped sd hu
  cases hl with
  | tup hs ha =>
    obtain ⟨its, rv, ⟨⟨cls, dd, data, sls⟩, ho, hc, n, hdt⟩, hlen⟩ := I.tuple hs
    simp only at hc hdt
    subst hc hdt
    obtain ⟨as, h4⟩ := Dp.readsAll I ds _ its ha rv
    have hn : its.length = ds.length := SeqAt.ReadsAll.length ds its as h4
    have em : its.map (SeqAt.readOf s.heap) = ds := SeqAt.readsAll_map ds its as lay h4
    have hjl : j < its.length := by have := (List.getElem?_eq_some_iff.mp hz).1; omega
    have get : ∀ (i : Nat) (hi : i < its.toArray.size), some (SeqAt.readOf s.heap its.toArray[i]) = ds[i]? := fun i hi => by
      have hil : i < its.length := by simpa using hi
      rw [← em, List.getElem?_map, List.getElem?_eq_getElem hil]
      simp
    refine call_meets PySem.F.slot_tuple_index ⟨_, ho, rfl⟩ PySem.F.entry_tuple_index (PySem.F.args_tuple_index_2 _ _) (TI.tuple_indexAt a its.toArray n dd sls uy (fun u => PyData.eqv (SeqAt.readOf s.heap u) d) j (by simpa using hjl) ?_ ?_)
      ⟨ho, SeqAt.items_eqAt (vs := its.toArray) (show ReadsAll s.heap its.toArray.toList ds as from h4) r1 lay (SeqAt.canLay_of_shaped sd) rm, ⟨.int (j : Nat), H, I.tok _, ⟨s.toks, rfl⟩, q⟩⟩
    · have := get j (by simpa using hjl)
      rw [hz] at this
      show PyData.eqv _ d = true
      rw [Option.some.inj this]
      exact hzj
    · intro i hi hij
      show PyData.eqv _ d = false
      exact hno i _ hij (get i hi).symm
def ixK (o d : D) (m : Mu) (P : Nat → Prop) : Prop := ∃ es j z, o = .tup es ∧ okD o m ∧ okD d m ∧ es[j]? = some z ∧ PyData.eqv (py z) (pyM d m) = true ∧ (∀ i z', i < j → es[i]? = some z' → PyData.eqv (py z') (pyM d m) = false) ∧ P j
def dIndexTD (to te : DT) : DT := fun r m Q => to r m fun o m1 => (∃ es, o = .tup es) ∧ te r m1 fun d m2 => ixK o d m2 fun j => Q (.int (j : Nat)) m2
theorem pd_indexTD {o e : Expr} {to te : DT} {apos cpos : Pos} (hu : X.A.units + 65 < cLine) (ho : PD X o to) (he : PD X e te) (hs : starEach [e] X.env = (false, eval e X.env) :: starEach [] X.env := by rfl) (hbase : attributeBase o "index" X.env (eval o X.env) = eval o X.env := by rfl)
    (hfew : ((backTo cpos (starEach [e] X.env)).all (fun x => !x.1) && (backToKw cpos (keywordEach [] X.env)).all (fun x => x.1.isSome)
      && decide ([e].length + ([] : List Keyword).length + (if ([] : List Keyword).isEmpty then 0 else 1) < 30)) = true := by rfl)
    (hline : (apos.endLine == cpos.line) = true := by rfl) (hplain : (backTo cpos (starEach [] X.env)).any (·.1) = false := by rfl) :
    PD X (.Call (.Attribute o "index" apos) [e] [] cpos) (dIndexTD to te) := by
  refine peM (pe_bmT PySem.F.slot_tuple_index PySem.F.type_tuple_index (mt_tindexD hu) ho (pa_cons he pa_nil hs) hbase hfew hline hs hplain) fun s H Q ⟨G, ro, m, Qd, hs, hr, q, w⟩ => ?_
  refine ⟨G, ro, m, _, hs, hr, q, fun v H1 G1 m1 d s1 r1 h1 ⟨⟨es, e1⟩, q1⟩ => ?_⟩
  subst e1
  have h10 := h1
  cases h1 with
  | tup hq hv hz =>
    rename_i ad vs
    obtain ⟨ob, hdn, hq⟩ := hq
    refine ⟨⟨ad, ob, _, rfl, hdn, r1.sub _ _ hq⟩, G1, ro, m1, _, hs.same s1.g, r1, q1, fun v2 H2 G2 m2 d2 s2 r2 h2 ⟨es', j, z, e', ok1, ok2, ej, eq1, no, q2⟩ => ?_⟩
    cases e'
    have hd1 := (h10.same s2.g).dpM r2 ok1.1
    have sh1 := ok1.2
    have epy : pyM (.tup es) m2 = .tuple (pyL es) := rfl
    rw [epy] at hd1 sh1
    have getL : ∀ (i : Nat), (pyL es)[i]? = (es[i]?).map py := fun i => by rw [pyL_map, List.getElem?_map]
    refine ⟨ad, v2, pyM d2 m2, pyL es, j, py z, rfl, rfl, hd1, h2.dpM r2 ok2.1, sh1, ok2.2, by rw [getL, ej]; rfl, eq1, fun i z' hi hz => ?_, w _ _ _ _ _ (s1.trans s2) r2 (.int _) q2⟩
    rw [getL] at hz
    obtain ⟨z0, hz0, rfl⟩ := Option.map_eq_some_iff.mp hz
    exact no i z0 hi hz0
end
end Mn

set_option linter.all false
set_option maxHeartbeats 4000000
set_option autoImplicit false
set_option maxRecDepth 100000
namespace Mn
open PySem L2
variable [Tbs]
local macro_rules | `(tactic| walk_at "d") => `(tactic| (try simp only [xNext, xSeq, xAsg, xRet, xRetF, xDrop, xIf, xPar, xPar3, xMatch, mGo, xFrz, xPut, xAug, xFor, dVar, dC, dOp, dTest, dChain, dAndV, dOrV, dNotV, dAnd, dOr, dNot, dIf, dNil, dCons, dTup, dLst, dLstM, dCB, dIsi, dLc, dLcM, dYes, wipeD, dSlice, oSome, oNone, aSl_tup, aSl_lst, dNeg, dStar, dNewD, dTupVals, dSortSet, dStep, dIndexTD, dCountL, dExtend, dAppend, dFrz, dLc2, dCountT, dIndexT, sqf_tup, sqf_lst, sqf_pair, sSeq, sSeq_tup, sSeq_lst, sRg1, sRg2, sZip2, sZip3, sZip4, sEnum, gV, gN, gC, gT, tupOf_tup, tupOf_pair, aAdd_int, aAdd_tup, aAdd_lst, aSub_int, aMul_int, aDiv_int, aMod_int, aPow_int, aCmp_int, aIx_tup, aIx_lst, aIx_scr, aIx_pair, aMax_int, aMin_int, aInt_bl, aInt_int, aLen_tup, aLen_lst, aLen_scr, aLen_pair, aTuple_lst, aTuple_tup, aIsB_bl, aNotB_bl, aEq_int, aNe_int, startD, List.map_cons, List.map_nil, List.length_cons, List.length_nil, List.cons_append, List.nil_append, List.replicate_zero, List.replicate_succ, List.append_nil, List.getElem?_cons_zero, List.getElem?_cons_succ, List.set_cons_zero, List.set_cons_succ, Option.some.injEq, exists_eq_left', exists_eq_left, exists_eq', D.int.injEq, D.bl.injEq, D.tup.injEq, D.lst.injEq, D.pair.injEq, D.ref.injEq, List.cons.injEq, Nat.sub_self, Nat.zero_add, Nat.add_sub_cancel, seqI_tup, seqI_lst, seqOf_tup, seqOf_lst, tyN_tup, tyN_lst, tyN_int, tyN_bl, tyN_str, tyN_non, isi_tt, at_0, at_1, at_2, at_3, Option.map_some, true_and, and_true, if_true, Bool.false_eq_true, if_false, Bool.not_true, Bool.not_false, ↓reduceIte, Nat.reduceAdd, Nat.reduceSub, exists_and_left, and_assoc]))
def s_cells : DSp := fun ds m Q => ∃ (s : Sch) (r : List Nat), ds = [encS s, tD r] ∧ SchV s ∧ Roll s r ∧ Q (stD (cellsOf s r)) m
theorem l_cells : ∀ ds m Q, s_cells ds m Q → ds.length = 2 := by rintro ds m Q ⟨s, r, rfl, _⟩; rfl
def t_cells : DS := (xSeq (xDrop (dCB s_need_scheme (dCons (dVar 0) dNil)))
  (xSeq (xDrop (dCB s_need_rollup (dCons (dVar 0) (dCons (dVar 1) dNil))))
  (xRet (dCB aTuple (dCons (dCB s_cells_of (dCons (dVar 0) (dCons (dVar 1) dNil))) dNil)))))
theorem v_cells : Body 2 t_cells s_cells := by
  rintro ds m Q ⟨s, r, rfl, hs, hr, q⟩
  have hq := end_rt (m0 := m) q
  unfold t_cells
  walk_at "d"
  refine ⟨s, rfl, hs, s, r, rfl, hs.2.1, hr, s, r, rfl, hs, hr, ?_⟩
  walk_at "d"
  exact hq
/-! more about cells of their own -/
theorem ownG_fix {a : At} : ∀ (k l g : Nat), a.ss.length - l = k → ownG a (ownG a l g).1 (ownG a l g).2 = ownG a l g := by
  intro k
  induction k with
  | zero =>
    intro l g hk
    have h0 : ¬ (l < a.ss.length ∧ (a.ss.getD l []).count (stepG (a.ss.getD l []) g) = 1) := fun h => by have := h.1; omega
    rw [ownG_no h0, ownG_no h0]
  | succ k ih =>
    intro l g hk
    by_cases h : l < a.ss.length ∧ (a.ss.getD l []).count (stepG (a.ss.getD l []) g) = 1
    · rw [ownG_yes h.1 h.2]; exact ih _ _ (by omega)
    · rw [ownG_no h, ownG_no h]
theorem own_len {s : Sch} {w c : List Nat} (hw : Roll s w) (hc : Cell s w c) : (ownL s w c).length = s.length ∧ (ownC s w c).length = s.length := by
  have hl := hw.len; have hcl := hc.len hw
  unfold ownL ownC
  rw [List.length_map, List.length_map, List.length_zip, List.length_zip]
  omega
/-- the facts at one attribute -/
theorem own_at {s : Sch} {w c : List Nat} (hs : SchV s) (hw : Roll s w) (hc : Cell s w c) {i : Nat} {a : At} (ha : s[i]? = some a) : ∃ l g, w[i]? = some l ∧ c[i]? = some g ∧ (ownL s w c)[i]? = some (ownG a l g).1 ∧ (ownC s w c)[i]? = some (ownG a l g).2 ∧
    l ≤ (ownG a l g).1 ∧ (ownG a l g).1 ≤ a.ss.length ∧ (ownG a l g).2 < a.sz (ownG a l g).1 ∧ ∀ v, v < a.n → (a.up v 0 l = g ↔ a.up v 0 (ownG a l g).1 = (ownG a l g).2) := by
  have hi := (List.getElem?_eq_some_iff.mp ha).1
  obtain ⟨l, hl⟩ := get_ex (l := w) (i := i) (by rw [hw.len]; exact hi)
  obtain ⟨g, hg⟩ := get_ex (l := c) (i := i) (by rw [hc.len hw]; exact hi)
  obtain ⟨e1, e2⟩ := ownL_at ha hl hg
  have hV := hs.2.2.1 a (List.mem_of_getElem? ha)
  obtain ⟨f1, f2, f3, f4, f5, f6⟩ := own_fv hV (hw.at ha hl) (hc.at ha hl hg)
  have hfv := (fv_ok hV (hw.at ha hl) (hc.at ha hl hg)).2
  refine ⟨l, g, hl, hg, e1, e2, f4, f2, by rw [f3]; exact hV.up_lt f1 (Nat.zero_le _) f2, fun v hv => ?_⟩
  have := cls_eq.mp f5 v hv
  rw [f3, this, hfv]
theorem own_roll {s : Sch} {w c : List Nat} (hs : SchV s) (hw : Roll s w) (hc : Cell s w c) : Roll s (ownL s w c) :=
  roll_of (own_len hw hc).1 fun i a k ha hk => by
    obtain ⟨l, g, _, _, e1, _, _, h, _⟩ := own_at hs hw hc ha
    rw [e1] at hk; cases hk; exact h
theorem own_cellc {s : Sch} {w c : List Nat} (hs : SchV s) (hw : Roll s w) (hc : Cell s w c) : Cell s (ownL s w c) (ownC s w c) := by
  refine ⟨by rw [(own_len hw hc).2, szs_len (own_roll hs hw hc)], fun i x k hx hk => ?_⟩
  obtain ⟨a, L, ha, hL, rfl⟩ := szs_at hk
  obtain ⟨l, g, _, _, e1, e2, _, _, h, _⟩ := own_at hs hw hc ha
  rw [e1] at hL; cases hL
  rw [e2] at hx; cases hx
  exact h
theorem own_fine {s : Sch} {w c : List Nat} (hs : SchV s) (hw : Roll s w) (hc : Cell s w c) : fineB w (ownL s w c) = true := fine_of fun i x y hx hy => by
  have hi : i < s.length := by rw [← hw.len]; exact (List.getElem?_eq_some_iff.mp hx).1
  obtain ⟨a, ha⟩ := get_ex hi
  obtain ⟨l, g, h1, _, e1, _, h, _⟩ := own_at hs hw hc ha
  rw [h1] at hx; cases hx
  rw [e1] at hy; cases hy
  exact h
theorem own_fix {s : Sch} {w c : List Nat} (hs : SchV s) (hw : Roll s w) (hc : Cell s w c) : ownL s (ownL s w c) (ownC s w c) = ownL s w c ∧ ownC s (ownL s w c) (ownC s w c) = ownC s w c := by
  have hR := own_roll hs hw hc; have hC := own_cellc hs hw hc
  have l1 := own_len hw hc; have l2 := own_len hR hC
  have key : ∀ i, i < s.length → ∃ a l g, (ownL s w c)[i]? = some (ownG a l g).1 ∧ (ownC s w c)[i]? = some (ownG a l g).2 ∧ (ownL s (ownL s w c) (ownC s w c))[i]? = some (ownG a l g).1 ∧ (ownC s (ownL s w c) (ownC s w c))[i]? = some (ownG a l g).2 := fun i hi => by
    obtain ⟨a, ha⟩ := get_ex hi
    obtain ⟨l, g, _, _, e1, e2, _⟩ := own_at hs hw hc ha
    obtain ⟨e3, e4⟩ := ownL_at ha e1 e2
    rw [ownG_fix _ l g rfl] at e3 e4
    exact ⟨a, l, g, e1, e2, e3, e4⟩
  constructor
  · refine List.ext_getElem? fun i => ?_
    by_cases hi : i < s.length
    · obtain ⟨a, l, g, e1, e2, e3, e4⟩ := key i hi
      rw [e1, e3]
    · rw [List.getElem?_eq_none (by omega), List.getElem?_eq_none (by omega)]
  · refine List.ext_getElem? fun i => ?_
    by_cases hi : i < s.length
    · obtain ⟨a, l, g, e1, e2, e3, e4⟩ := key i hi
      rw [e2, e4]
    · rw [List.getElem?_eq_none (by omega), List.getElem?_eq_none (by omega)]
/-- a finest cell lies in the cell exactly if it lies in its own one -/
theorem own_abv {s : Sch} {w c x : List Nat} (hs : SchV s) (hw : Roll s w) (hc : Cell s w c) (hx : Cell s (finN s) x) : abv s (finN s) x w = c ↔ abv s (finN s) x (ownL s w c) = ownC s w c := by
  have hR := own_roll hs hw hc; have hl := own_len hw hc
  have hxl := hx.len (fin_roll s)
  have hfl : (finN s).length = s.length := by unfold finN; rw [List.length_replicate]
  have a1 := abv_len (s := s) (r := finN s) (c := x) (o := w) hfl hxl hw.len
  have a2 := abv_len (s := s) (r := finN s) (c := x) (o := ownL s w c) hfl hxl hl.1
  have hcl := hc.len hw
  have key : ∀ i, i < s.length → ((abv s (finN s) x w)[i]? = c[i]? ↔ (abv s (finN s) x (ownL s w c))[i]? = (ownC s w c)[i]?) := fun i hi => by
    obtain ⟨a, ha⟩ := get_ex hi
    obtain ⟨l, g, h1, h2, e1, e2, _, _, _, h⟩ := own_at hs hw hc ha
    obtain ⟨v, hv⟩ := get_ex (l := x) (i := i) (by omega)
    have h0 : (finN s)[i]? = some 0 := by unfold finN; rw [List.getElem?_replicate, if_pos hi]
    have hvn : v < a.n := hx.at ha h0 hv
    rw [abv_at ha hv h0 h1, abv_at ha hv h0 e1, h2, e2]
    have := h v hvn
    simpa using this
  constructor
  · intro e
    refine List.ext_getElem? fun i => ?_
    by_cases hi : i < s.length
    · exact (key i hi).mp (by rw [e])
    · rw [List.getElem?_eq_none (by omega), List.getElem?_eq_none (by omega)]
  · intro e
    refine List.ext_getElem? fun i => ?_
    by_cases hi : i < s.length
    · exact (key i hi).mpr (by rw [e])
    · rw [List.getElem?_eq_none (by omega), List.getElem?_eq_none (by omega)]
theorem sm_own {s : Sch} {xs : List Int} {w c : List Nat} (hs : SchV s) (hw : Roll s w) (hc : Cell s w c) : smA s xs w c = smA s xs (ownL s w c) (ownC s w c) := by
  unfold smA
  rw [rolF_sum, rolF_sum]
  unfold kxOf
  rw [List.map_map, List.map_map]
  congr 1
  refine List.map_congr_left fun p hp => ?_
  have hx : Cell s (finN s) p.1 := cell_iff.mp (List.of_mem_zip hp).1
  have := own_abv hs hw hc hx
  simp only [Function.comp]
  by_cases e : c = abv s (finN s) p.1 w
  · rw [if_pos e, if_pos (this.mp e.symm).symm]
  · rw [if_neg e, if_neg fun z => e (this.mpr z.symm).symm]
theorem ansC_own {s : Sch} {st : List (List Nat)} {w c : List Nat} (hs : SchV s) (hw : Roll s w) (hc : Cell s w c) : ansC s st (ownL s w c) (ownC s w c) = ansC s st w c := by
  have hR := own_roll hs hw hc; have hC := own_cellc hs hw hc
  have hl := own_len hw hc; have hcl := hc.len hw; have hwl := hw.len
  have et : tins s (ownL s w c) (ownC s w c) = tins s w c := by
    refine List.ext_getElem? fun i => ?_
    unfold tins
    by_cases hi : i < s.length
    · obtain ⟨a, ha⟩ := get_ex hi
      obtain ⟨l, g, h1, h2, e1, e2, _, _, _, h⟩ := own_at hs hw hc ha
      rw [List.getElem?_map, List.getElem?_map, zip_at ha (zip_at h1 h2), zip_at ha (zip_at e1 e2)]
      simp only [Option.map_some]
      rw [ownG_fix _ l g rfl]
      have efv : fv a (ownG a l g).1 (ownG a l g).2 = fv a l g := by
        unfold fv
        congr 1
        refine List.filter_congr fun v hv => ?_
        have := h v (List.mem_range.mp hv)
        rw [Bool.eq_iff_iff, decide_eq_true_eq, decide_eq_true_eq]
        exact this.symm
      rw [efv]
    · rw [List.getElem?_eq_none (by rw [List.length_map, List.length_zip]; omega), List.getElem?_eq_none (by rw [List.length_map, List.length_zip]; omega)]
  unfold ansC
  rw [(own_fix hs hw hc).1, et]
/-- a cell that is its own rollup's -/
theorem own_exact {s : Sch} {w : List Nat} (hs : SchV s) (hw : Roll s w) : Cell s w (tkG s w) ∧ ownL s w (tkG s w) = w := by
  have hk := tks_tk hs hw
  have hlen := hk.2.2.1
  have hC : Cell s w (tkG s w) := by
    refine ⟨by rw [hlen, szs_len hw], fun i x k hx hk' => ?_⟩
    obtain ⟨a, l, ha, hl, rfl⟩ := szs_at hk'
    have hV := hs.2.2.1 a (List.mem_of_getElem? ha)
    unfold tkG at hx
    rw [List.getElem?_map, zip_at ha hl] at hx
    cases hx
    have hx0 : (tkN a l).headD 0 < a.n := by
      rcases tk_v a l with q | ⟨i, j, h1, h2, q⟩
      · rw [q]; exact hV.1
      · rw [q]; show i < a.n; omega
    exact hV.up_lt hx0 (Nat.zero_le _) (hw.at ha hl)
  refine ⟨hC, List.ext_getElem? fun i => ?_⟩
  have hol := own_len hw hC; have hwl := hw.len
  by_cases hi : i < s.length
  · obtain ⟨a, ha⟩ := get_ex hi
    obtain ⟨l, g, h1, h2, e1, e2, hle, hle2, _, h⟩ := own_at hs hw hC ha
    rw [e1, h1]
    congr 1
    have hV := hs.2.2.1 a (List.mem_of_getElem? ha)
    unfold tkG at h2
    rw [List.getElem?_map, zip_at ha h1] at h2
    have h2 := Option.some.inj h2
    rcases Nat.lt_or_ge l (ownG a l g).1 with c | c
    · obtain ⟨x, y, e, hxy, hy, hne, heq⟩ := tk_spec hV (l := l) (by omega)
      simp only [e] at h2
      have hx2 : a.up x 0 l = g := h2
      have a1 := (h x (by omega)).mp hx2
      have a2 : a.up y 0 (ownG a l g).1 = (ownG a l g).2 := by rw [← a1]; exact (up_more (by omega) hle2 heq).symm
      have a3 := (h y hy).mpr a2
      exact absurd (hx2.trans a3.symm) hne
    · omega
  · rw [List.getElem?_eq_none (by omega), List.getElem?_eq_none (by omega)]
end Mn

set_option linter.all false
set_option maxHeartbeats 4000000
set_option autoImplicit false
set_option maxRecDepth 100000
namespace Mn
open PySem L2
variable [Tbs]
local macro_rules | `(tactic| walk_at "d") => `(tactic| (try simp only [xNext, xSeq, xAsg, xRet, xRetF, xDrop, xIf, xPar, xPar3, xMatch, mGo, xFrz, xPut, xAug, xFor, dVar, dC, dOp, dTest, dChain, dAndV, dOrV, dNotV, dAnd, dOr, dNot, dIf, dNil, dCons, dTup, dLst, dLstM, dCB, dIsi, dLc, dLcM, dYes, wipeD, dSlice, oSome, oNone, aSl_tup, aSl_lst, dNeg, dStar, dNewD, dTupVals, dSortSet, dCountL, dExtend, dAppend, dFrz, dLc2, dCountT, dIndexT, sqf_tup, sqf_lst, sqf_pair, sSeq, sSeq_tup, sSeq_lst, sRg1, sRg2, sZip2, sZip3, sZip4, sEnum, gV, gN, gC, gT, tupOf_tup, tupOf_pair, aAdd_int, aAdd_tup, aAdd_lst, aSub_int, aMul_int, aDiv_int, aMod_int, aPow_int, aCmp_int, aIx_tup, aIx_lst, aIx_scr, aIx_pair, aMax_int, aMin_int, aInt_bl, aInt_int, aLen_tup, aLen_lst, aLen_scr, aLen_pair, aTuple_lst, aTuple_tup, aIsB_bl, aNotB_bl, aEq_int, aNe_int, startD, List.map_cons, List.map_nil, List.length_cons, List.length_nil, List.cons_append, List.nil_append, List.replicate_zero, List.replicate_succ, List.append_nil, List.getElem?_cons_zero, List.getElem?_cons_succ, List.set_cons_zero, List.set_cons_succ, Option.some.injEq, exists_eq_left', exists_eq_left, exists_eq', D.int.injEq, D.bl.injEq, D.tup.injEq, D.lst.injEq, D.pair.injEq, D.ref.injEq, List.cons.injEq, Nat.sub_self, Nat.zero_add, Nat.add_sub_cancel, seqI_tup, seqI_lst, seqOf_tup, seqOf_lst, tyN_tup, tyN_lst, tyN_int, tyN_bl, tyN_str, tyN_non, isi_tt, at_0, at_1, at_2, at_3, Option.map_some, true_and, and_true, if_true, Bool.false_eq_true, if_false, Bool.not_true, Bool.not_false, ↓reduceIte, Nat.reduceAdd, Nat.reduceSub, exists_and_left, and_assoc]))
/-! least, sums, membership -/
/-! costs -/
end Mn

set_option linter.all false
set_option maxHeartbeats 4000000
set_option autoImplicit false
set_option maxRecDepth 100000
namespace Mn
open PySem L2
variable [Tbs]
local macro_rules | `(tactic| walk_at "d") => `(tactic| (try simp only [xNext, xSeq, xAsg, xRet, xRetF, xDrop, xIf, xPar, xPar3, xMatch, mGo, xFrz, xPut, xAug, xFor, dVar, dC, dOp, dTest, dChain, dAndV, dOrV, dNotV, dAnd, dOr, dNot, dIf, dNil, dCons, dTup, dLst, dLstM, dCB, dIsi, dLc, dLcM, dYes, wipeD, dSlice, oSome, oNone, aSl_tup, aSl_lst, dNeg, dStar, dNewD, dTupVals, dSortSet, dStep, dCountL, dExtend, dAppend, dFrz, dLc2, dCountT, dIndexT, sqf_tup, sqf_lst, sqf_pair, sSeq, sSeq_tup, sSeq_lst, sRg1, sRg2, sZip2, sZip3, sZip4, sEnum, gV, gN, gC, gT, tupOf_tup, tupOf_pair, aAdd_int, aAdd_tup, aAdd_lst, aSub_int, aMul_int, aDiv_int, aMod_int, aPow_int, aCmp_int, aIx_tup, aIx_lst, aIx_scr, aIx_pair, aMax_int, aMin_int, aInt_bl, aInt_int, aLen_tup, aLen_lst, aLen_scr, aLen_pair, aTuple_lst, aTuple_tup, aIsB_bl, aNotB_bl, aEq_int, aNe_int, startD, List.map_cons, List.map_nil, List.length_cons, List.length_nil, List.cons_append, List.nil_append, List.replicate_zero, List.replicate_succ, List.append_nil, List.getElem?_cons_zero, List.getElem?_cons_succ, List.set_cons_zero, List.set_cons_succ, Option.some.injEq, exists_eq_left', exists_eq_left, exists_eq', D.int.injEq, D.bl.injEq, D.tup.injEq, D.lst.injEq, D.pair.injEq, D.ref.injEq, List.cons.injEq, Nat.sub_self, Nat.zero_add, Nat.add_sub_cancel, seqI_tup, seqI_lst, seqOf_tup, seqOf_lst, tyN_tup, tyN_lst, tyN_int, tyN_bl, tyN_str, tyN_non, isi_tt, at_0, at_1, at_2, at_3, Option.map_some, true_and, and_true, if_true, Bool.false_eq_true, if_false, Bool.not_true, Bool.not_false, ↓reduceIte, Nat.reduceAdd, Nat.reduceSub, exists_and_left, and_assoc]))
/-! data compared, of any size -/
theorem cm_tD (l : List Nat) : Cm (tD l) 1 := cm_tup fun d hd => by obtain ⟨i, _, rfl⟩ := List.mem_map.mp hd; exact cm_int i
theorem cm_stD (st : List (List Nat)) : Cm (stD st) 2 := cm_tup fun d hd => by obtain ⟨i, _, rfl⟩ := List.mem_map.mp hd; exact cm_tD i
/-! order without doubles is known by the members -/
/-! the order of rollups -/
theorem fine_cons (x y : Nat) (a b : List Nat) : fineB (x :: a) (y :: b) = (decide (x ≤ y) && fineB a b) := rfl
theorem fine_trans : ∀ {a b c : List Nat}, a.length = b.length → b.length = c.length → fineB a b = true → fineB b c = true → fineB a c = true
  | [], [], [], _, _, _, _ => rfl
  | x :: a, y :: b, z :: c, h1, h2, h3, h4 => by
    rw [fine_cons, Bool.and_eq_true, decide_eq_true_eq] at h3 h4 ⊢
    exact ⟨by omega, fine_trans (by simpa using h1) (by simpa using h2) h3.2 h4.2⟩
/-! how answers begin -/
theorem kn_tup {m : Mu} {ds : List D} (h : ∀ d ∈ ds, Kn m d) : Kn m (.tup ds) := fun x hx => by
  have key : ∀ (ds : List D), (∀ d ∈ ds, Kn m d) → ∀ x ∈ refsL ds, ∃ a, x = some a ∧ (tyN (.ref a) m).isSome = true := by
    intro ds
    induction ds with
    | nil => intro _ x hx; cases hx
    | cons d ds ih =>
      intro h x hx
      rw [refsL, List.mem_append] at hx
      rcases hx with hx | hx
      · exact h d List.mem_cons_self x hx
      · exact ih (fun e he => h e (List.mem_cons_of_mem _ he)) x hx
  exact key ds h x hx
theorem kn_int (m : Mu) (i : Int) : Kn m (.int i) := Kn.of rfl
theorem kn_str (m : Mu) (x : Str) : Kn m (.str x) := Kn.of rfl
end Mn

set_option linter.all false
set_option maxHeartbeats 4000000
set_option autoImplicit false
set_option maxRecDepth 100000
namespace Mn
open PySem L2
variable [Tbs]
local macro_rules | `(tactic| walk_at "d") => `(tactic| (try simp only [xNext, xSeq, xAsg, xRet, xRetF, xDrop, xIf, xPar, xPar3, xFrz, xPut, xAug, xFor, dVar, dC, dOp, dTest, dChain, dAndV, dOrV, dNotV, dAnd, dOr, dNot, dIf, dNil, dCons, dTup, dLst, dLstM, dCB, dIsi, dLc, dLcM, dYes, wipeD, dSlice, oSome, oNone, aSl_tup, aSl_lst, dNeg, dStar, dNewD, dTupVals, dCountL, dExtend, dAppend, dFrz, dLc2, dCountT, dIndexT, sqf_tup, sqf_lst, sqf_pair, sSeq, sSeq_tup, sSeq_lst, sRg1, sRg2, sZip2, sZip3, sZip4, sEnum, gV, gN, gC, gT, tupOf_tup, tupOf_pair, aAdd_int, aAdd_tup, aAdd_lst, aSub_int, aMul_int, aDiv_int, aMod_int, aPow_int, aCmp_int, aIx_tup, aIx_lst, aIx_scr, aIx_pair, aMax_int, aMin_int, aInt_bl, aInt_int, aLen_tup, aLen_lst, aLen_scr, aLen_pair, aTuple_lst, aTuple_tup, aEq_int, aNe_int, startD, List.map_cons, List.map_nil, List.length_cons, List.length_nil, List.cons_append, List.nil_append, List.replicate_zero, List.replicate_succ, List.append_nil, List.getElem?_cons_zero, List.getElem?_cons_succ, List.set_cons_zero, List.set_cons_succ, Option.some.injEq, exists_eq_left', exists_eq_left, exists_eq', D.int.injEq, D.bl.injEq, D.tup.injEq, D.lst.injEq, D.pair.injEq, D.ref.injEq, List.cons.injEq, Nat.sub_self, Nat.zero_add, Nat.add_sub_cancel, seqI_tup, seqI_lst, seqOf_tup, seqOf_lst, tyN_tup, tyN_lst, tyN_int, tyN_bl, tyN_str, tyN_non, isi_tt, at_0, at_1, at_2, at_3, Option.map_some, true_and, and_true, if_true, Bool.false_eq_true, if_false, Bool.not_true, Bool.not_false, ↓reduceIte, Nat.reduceAdd, Nat.reduceSub, exists_and_left, and_assoc]))
/-! the law's own sums -/
/-! all rollups -/
/-! tables drawn -/
def s_law_table : DSp := fun ds m Q => ∃ (p : Addr) (s : Sch) (n : Nat), ds = [.ref p, encS s] ∧ SchV s ∧ Pen m p n ∧ n ≤ 900000000 ∧ ∀ xs m', Tab s xs → (∀ x ∈ xs, -1000000 ≤ x ∧ x ≤ 1000000) → PenU m p (n + 300) m' → Q (iD xs) m'
theorem l_law_table : ∀ ds m Q, s_law_table ds m Q → ds.length = 2 := by rintro ds m Q ⟨p, s, n, rfl, _⟩; rfl
def t_law_table : DS := (xSeq (xPar 4 5 (dCons (dCB aLen (dCons (dCB s_law_all_cells (dCons (dVar 1) (dCons (dOp aMulA (dTup (dCons (dC (.int 0)) dNil)) (dCB aLen (dCons (dVar 1) dNil))) dNil))) dNil)) (dCons (dCB s_law_draw (dCons (dVar 0) (dCons (dC (.int 4)) dNil))) dNil)))
  (xSeq (xAsg (dLstM dNil) (gV 2))
  (xSeq (xFor (sRg1 (dVar 4)) (gV 3) (xSeq (xAsg (dOp aSub (dCB s_law_draw (dCons (dVar 0) (dCons (dC (.int 7)) dNil))) (dC (.int 3))) (gV 6))
  (xSeq (xIf (dTest (dOp aEq (dVar 5) (dC (.int 1)))) (xAsg (dOp aMulA (dCB s_law_draw (dCons (dVar 0) (dCons (dC (.int 2)) dNil))) (dCB s_law_draw (dCons (dVar 0) (dCons (dC (.int 4)) dNil)))) (gV 6)) xNext)
  (xSeq (xIf (dTest (dOp aEq (dVar 5) (dC (.int 2)))) (xAsg (dOp aSub (dCB s_law_draw (dCons (dVar 0) (dCons (dC (.int 2000001)) dNil))) (dC (.int 1000000))) (gV 6)) xNext)
  (xDrop (dAppend (dVar 2) (dVar 6)))))))
  (xRet (dCB aTuple (dCons (dVar 2) dNil))))))
def TabI (m0 : Mu) (p p2 : Addr) (s : Sch) (N w n : Nat) : Nat → Ro → Mu → Prop := fun i rr m' =>
  (∃ x3 x6, rr = [some (.ref p), some (encS s), some (.ref p2), x3, some (nD N), some (nD w), x6]) ∧ Pen m' p (n + 4 * i) ∧
  (∃ xs : List Int, xs.length = i ∧ (∀ x ∈ xs, -1000000 ≤ x ∧ x ≤ 1000000) ∧ m' p2 = some (.lst (xs.map D.int))) ∧ ∀ b, b ≠ p → b ≠ p2 → m' b = m0 b
theorem TabI.draw {m0 : Mu} {p p2 : Addr} (n2 : p2 ≠ p) {m' m2 : Mu} {k : Nat} {xs : List Int} (e2 : m' p2 = some (.lst (xs.map D.int))) (hfr : ∀ b, b ≠ p → b ≠ p2 → m' b = m0 b) (hu : PenU m' p k m2) :
    m2 p2 = some (.lst (xs.map D.int)) ∧ ∀ b, b ≠ p → b ≠ p2 → m2 b = m0 b :=
  ⟨by rw [hu.other n2]; exact e2, fun b h1 h2 => by rw [hu.other h1]; exact hfr b h1 h2⟩
/-- the last part of a lap: the amount is put behind -/
theorem TabI.put {m0 : Mu} {p p2 : Addr} {s : Sch} {N w n i : Nat} (n2 : p2 ≠ p) (hi : i ≤ 60) {m' : Mu} {P : Ro → Mu → Prop} (hP : ∀ r m, TabI m0 p p2 s N w n (i + 1) r m → P r m) {xs : List Int} (hx : xs.length = i) (hb : ∀ x ∈ xs, -1000000 ≤ x ∧ x ≤ 1000000)
    (e2 : m' p2 = some (.lst (xs.map D.int))) (hfr : ∀ b, b ≠ p → b ≠ p2 → m' b = m0 b) {k : Nat} (hp : Pen m' p k) (hk : k ≤ n + 4 * (i + 1)) {x : Int} (h1 : -1000000 ≤ x) (h2 : x ≤ 1000000) {x3 : Option D} :
    ∃ ds0, m' p2 = some (.lst ds0) ∧ ∃ ds, m' p2 = some (.lst ds) ∧ ds.length < sizeLine ∧ P [some (.ref p), some (encS s), some (.ref p2), x3, some (nD N), some (nD w), some (.int x)] (up m' p2 (.lst (ds ++ [.int x]))) := by
  refine ⟨_, e2, _, e2, small' (k := 1000) (by rw [List.length_map]; omega), hP _ _ ⟨⟨_, _, rfl⟩, ?_, ⟨xs ++ [x], by rw [List.length_append, List.length_singleton, hx], ?_, ?_⟩, ?_⟩⟩
  · obtain ⟨a, b, c, e, hh⟩ := hp
    exact ⟨a, b, c, by rw [up_ne n2.symm]; exact e, by omega⟩
  · intro y hy
    rcases List.mem_append.mp hy with hy | hy
    · exact hb y hy
    · rw [List.mem_singleton] at hy; subst hy; exact ⟨h1, h2⟩
  · rw [up_same, List.map_append]; rfl
  · intro b hb1 hb2
    rw [up_ne hb2]; exact hfr b hb1 hb2
theorem v_law_table : Body 7 t_law_table s_law_table := by
  rintro ds m Q ⟨p, s, n, rfl, hs, hp, hn, q⟩
  have h60 := szs_prod hs (fin_roll s)
  have h1 := hs.1; have h3 := hs.2.1
  have e0 : encS s = .tup (s.map At.enc) := rfl
  unfold t_law_table
  walk_at "d"
  simp only [e0]
  walk_at "d"
  rw [List.length_map]
  refine ⟨by decide, by simp, by simp, by omega, by omega, ?_⟩
  rw [Int.toNat_natCast, rep_tD]
  refine ⟨s, finN s, rfl, hs, fin_roll s, ?_⟩
  walk_at "d"
  rw [List.length_map, show (cellsOf s (finN s)).length = prodN (szs s (finN s)) from cellsN_len _]
  refine ⟨p, 4, n, rfl, hp, by omega, by decide, by decide, fun w m1 hw hu1 => ?_⟩
  walk_at "d"
  refine ⟨by decide, fun p2 hp2 => ?_⟩
  have hpe : ∃ o, m1 p = some o := by obtain ⟨a, b, c, e, _⟩ := hu1.pen; exact ⟨_, e⟩
  have n2 : p2 ≠ p := by rintro rfl; obtain ⟨o, e⟩ := hpe; rw [hp2] at e; cases e
  refine ⟨by omega, by omega, ?_⟩
  refine forGo_inv (TabI m1 p p2 s (prodN (szs s (finN s))) w (n + 1)) _ _ _ 0 ⟨⟨_, _, rfl⟩, ?_, ⟨[], rfl, fun x hx => (by cases hx), up_same⟩, fun b _ h2 => up_ne h2⟩ ?_ ?_
  · obtain ⟨a, b, c, e, hh⟩ := hu1.pen
    exact ⟨a, b, c, by rw [up_ne n2.symm]; exact e, by omega⟩
  · rintro j d rr m' P hd ⟨⟨x3, x6, rfl⟩, hpen, ⟨xs, hx, hb, e2⟩, hfr⟩ hP
    have hj : j < prodN (szs s (finN s)) := by
      have := (List.getElem?_eq_some_iff.mp hd).1
      unfold rgD at this
      rw [List.length_map, List.length_range] at this
      omega
    rw [Nat.zero_add] at hpen hP hx
    walk_at "d"
    refine ⟨p, 7, _, rfl, hpen, by omega, by decide, by decide, fun x m2 hx7 hu2 => ?_⟩
    obtain ⟨f2, g2⟩ := TabI.draw n2 e2 hfr hu2
    unfold nD
    walk_at "d"
    have w1 : decide ((w : Int) = 1) = decide (w = 1) := decide_eq_decide.mpr (by omega)
    have w2 : decide ((w : Int) = 2) = decide (w = 2) := decide_eq_decide.mpr (by omega)
    rw [w1]
    by_cases c1 : w = 1
    · subst c1
      simp only [decide_true, ↓reduceIte]
      refine ⟨p, 2, _, rfl, hu2.pen, by omega, by decide, by decide, fun y m3 hy hu3 => ⟨p, 4, _, rfl, hu3.pen, by omega, by decide, by decide, fun z m4 hz hu4 => ?_⟩⟩
      obtain ⟨f3, g3⟩ := TabI.draw n2 f2 g2 hu3
      obtain ⟨f4, g4⟩ := TabI.draw n2 f3 g3 hu4
      unfold nD
      walk_at "d"
      have hyz : (y : Int) * z ≤ 1 * 3 := Int.mul_le_mul (by omega) (by omega) (by omega) (by omega)
      have hyz0 : 0 ≤ (y : Int) * z := Int.mul_nonneg (by omega) (by omega)
      refine ⟨?_, ?_⟩
      · exact Or.inl ⟨by omega, by omega⟩
      simp only [show decide (((1 : Nat) : Int) = 2) = false from rfl, Bool.false_eq_true, ↓reduceIte]
      exact TabI.put (x := (y : Int) * z) n2 (by omega) hP hx hb f4 g4 hu4.pen (by omega) (by omega) (by omega)
    · simp only [c1, decide_false, Bool.false_eq_true, ↓reduceIte]
      rw [w2]
      by_cases c2 : w = 2
      · subst c2
        simp only [decide_true, ↓reduceIte]
        refine ⟨p, 2000001, _, rfl, hu2.pen, by omega, by decide, by decide, fun y m3 hy hu3 => ?_⟩
        obtain ⟨f3, g3⟩ := TabI.draw n2 f2 g2 hu3
        unfold nD
        walk_at "d"
        exact TabI.put (x := (y : Int) - 1000000) n2 (by omega) hP hx hb f3 g3 hu3.pen (by omega) (by omega) (by omega)
      · simp only [c2, decide_false, Bool.false_eq_true, ↓reduceIte]
        exact TabI.put (x := (x : Int) - 3) n2 (by omega) hP hx hb f2 g2 hu2.pen (by omega) (by omega) (by omega)
  · rintro rr m' ⟨⟨x3, x6, rfl⟩, ⟨a, b, c, ep, hh⟩, ⟨xs, hx, hb, e2⟩, hfr⟩
    walk_at "d"
    simp only [aTuple_ref e2]
    have hlen : xs.length = prodN (szs s (finN s)) := by
      rw [hx]; unfold rgD; rw [List.length_map, List.length_range]; omega
    refine end_rtL (m2 := up m p (.lst [.int a, .int b, .int c])) (fun x o e => ?_) (q xs _ hlen hb ⟨a, b, c, rfl, by omega⟩)
    by_cases hxp : x = p
    · subst hxp
      rw [up_same] at e
      rw [ep]; exact e
    · rw [up_ne hxp] at e
      have e' : m1 x = some o := by rw [hu1.other hxp]; exact e
      have x2 : x ≠ p2 := by rintro rfl; rw [hp2] at e'; cases e'
      rw [hfr x hxp x2]; exact e'
end Mn

set_option linter.all false
set_option maxHeartbeats 4000000
set_option autoImplicit false
set_option maxRecDepth 100000
namespace Mn
open PySem L2
variable [Tbs]
local macro_rules | `(tactic| walk_at "d") => `(tactic| (try simp only [xNext, xSeq, xAsg, xRet, xRetF, xDrop, xIf, xPar, xPar3, xFrz, xPut, xAug, xFor, dVar, dC, dOp, dTest, dChain, dAndV, dOrV, dNotV, dAnd, dOr, dNot, dIf, dNil, dCons, dTup, dLst, dLstM, dCB, dIsi, dLc, dLcM, dYes, wipeD, dSlice, oSome, oNone, aSl_tup, aSl_lst, dNeg, dStar, dNewD, dTupVals, dCountL, dExtend, dAppend, dFrz, dLc2, dCountT, dIndexT, sqf_tup, sqf_lst, sqf_pair, sSeq, sSeq_tup, sSeq_lst, sRg1, sRg2, sZip2, sZip3, sZip4, sEnum, gV, gN, gC, gT, tupOf_tup, tupOf_pair, aAdd_int, aAdd_tup, aAdd_lst, aSub_int, aMul_int, aDiv_int, aMod_int, aPow_int, aCmp_int, aIx_tup, aIx_lst, aIx_scr, aIx_pair, aMax_int, aMin_int, aInt_bl, aInt_int, aLen_tup, aLen_lst, aLen_scr, aLen_pair, aTuple_lst, aTuple_tup, aEq_int, aNe_int, startD, List.map_cons, List.map_nil, List.length_cons, List.length_nil, List.cons_append, List.nil_append, List.replicate_zero, List.replicate_succ, List.append_nil, List.getElem?_cons_zero, List.getElem?_cons_succ, List.set_cons_zero, List.set_cons_succ, Option.some.injEq, exists_eq_left', exists_eq_left, exists_eq', D.int.injEq, D.bl.injEq, D.tup.injEq, D.lst.injEq, D.pair.injEq, D.ref.injEq, List.cons.injEq, Nat.sub_self, Nat.zero_add, Nat.add_sub_cancel, seqI_tup, seqI_lst, seqOf_tup, seqOf_lst, tyN_tup, tyN_lst, tyN_int, tyN_bl, tyN_str, tyN_non, isi_tt, at_0, at_1, at_2, at_3, Option.map_some, true_and, and_true, if_true, Bool.false_eq_true, if_false, Bool.not_true, Bool.not_false, ↓reduceIte, Nat.reduceAdd, Nat.reduceSub, exists_and_left, and_assoc]))
/-! how great the sums may be -/
end Mn

set_option linter.all false
set_option maxHeartbeats 4000000
set_option autoImplicit false
set_option maxRecDepth 100000
namespace Mn
open PySem L2
variable [Tbs]
local macro_rules | `(tactic| walk_at "d") => `(tactic| (try simp only [xNext, xSeq, xAsg, xRet, xRetF, xDrop, xIf, xPar, xPar3, xFrz, xPut, xAug, xFor, dVar, dC, dOp, dTest, dChain, dAndV, dOrV, dNotV, dAnd, dOr, dNot, dIf, dNil, dCons, dTup, dLst, dLstM, dCB, dIsi, dLc, dLcM, dYes, wipeD, dSlice, oSome, oNone, aSl_tup, aSl_lst, dNeg, dStar, dNewD, dTupVals, dCountL, dExtend, dAppend, dFrz, dLc2, dCountT, dIndexT, sqf_tup, sqf_lst, sqf_pair, sSeq, sSeq_tup, sSeq_lst, sRg1, sRg2, sZip2, sZip3, sEnum, gV, gN, gC, gT, tupOf_tup, tupOf_pair, aAdd_int, aAdd_tup, aAdd_lst, aSub_int, aMul_int, aDiv_int, aMod_int, aPow_int, aCmp_int, aIx_tup, aIx_lst, aIx_scr, aIx_pair, aMax_int, aMin_int, aInt_bl, aInt_int, aLen_tup, aLen_lst, aLen_scr, aLen_pair, aTuple_lst, aTuple_tup, aEq_int, aNe_int, startD, List.map_cons, List.map_nil, List.length_cons, List.length_nil, List.cons_append, List.nil_append, List.replicate_zero, List.replicate_succ, List.append_nil, List.getElem?_cons_zero, List.getElem?_cons_succ, List.set_cons_zero, List.set_cons_succ, Option.some.injEq, exists_eq_left', exists_eq_left, exists_eq', D.int.injEq, D.bl.injEq, D.tup.injEq, D.lst.injEq, D.pair.injEq, D.ref.injEq, List.cons.injEq, Nat.sub_self, Nat.zero_add, Nat.add_sub_cancel, seqI_tup, seqI_lst, seqOf_tup, seqOf_lst, tyN_tup, tyN_lst, tyN_int, tyN_bl, tyN_str, tyN_non, isi_tt, at_0, at_1, at_2, at_3, Option.map_some, true_and, and_true, if_true, Bool.false_eq_true, if_false, Bool.not_true, Bool.not_false, ↓reduceIte, Nat.reduceAdd, Nat.reduceSub, exists_and_left, and_assoc]))
/-! the stored, drawn -/
def s_law_stored : DSp := fun ds m Q => ∃ (p : Addr) (s : Sch) (k n : Nat), ds = [.ref p, encS s, nD k] ∧ SchV s ∧ k ≤ 8 ∧ Pen m p n ∧ n ≤ 800000000 ∧ ∀ st m', Stv s st → st.length ≤ k → PenU m p (n + 100) m' → Q (stD st) m'
theorem l_law_stored : ∀ ds m Q, s_law_stored ds m Q → ds.length = 3 := by rintro ds m Q ⟨p, s, k, n, rfl, _⟩; rfl
def t_law_stored : DS := (xSeq (xAsg (dLstM dNil) (gV 3))
  (xSeq (xFor (sRg1 (dCB s_law_draw (dCons (dVar 0) (dCons (dOp aAdd (dVar 2) (dC (.int 1))) dNil)))) (gV 4) (xSeq (xAsg (dAndV (dOp aNe (dVar 3) (dLst dNil)) (dOp aEq (dCB s_law_draw (dCons (dVar 0) (dCons (dC (.int 6)) dNil))) (dC (.int 0)))) (gV 5))
  (xDrop (dAppend (dVar 3) (dIf (dTest (dVar 5)) (dCB s_law_pick (dCons (dVar 0) (dCons (dVar 3) dNil))) (dCB s_law_rollup (dCons (dVar 0) (dCons (dVar 1) dNil))))))))
  (xRet (dCB aTuple (dCons (dVar 3) dNil)))))
def StoI (m0 : Mu) (p p2 : Addr) (s : Sch) (k n : Nat) : Nat → Ro → Mu → Prop := fun i rr m' =>
  (∃ x4 x5, rr = [some (.ref p), some (encS s), some (nD k), some (.ref p2), x4, x5]) ∧ Pen m' p (n + 5 * i) ∧
  (∃ st : List (List Nat), st.length = i ∧ (∀ r ∈ st, Roll s r) ∧ m' p2 = some (.lst (st.map tD))) ∧ ∀ b, b ≠ p → b ≠ p2 → m' b = m0 b
theorem sm_rolls {s : Sch} (hs : SchV s) {st : List (List Nat)} (h : ∀ r ∈ st, Roll s r) : ∀ d ∈ st.map tD, Sm d 1 69 := fun d hd => by
  obtain ⟨r, hr, rfl⟩ := List.mem_map.mp hd
  have hl := (h r hr).len; have h3 := hs.2.1
  refine (sm_tD (n := 3) (by omega) fun k hk => ?_).mono (by decide) (by decide)
  obtain ⟨i, hi⟩ := List.mem_iff_getElem?.mp hk
  obtain ⟨a, ha⟩ := get_ex (l := s) (i := i) (by have := (List.getElem?_eq_some_iff.mp hi).1; omega)
  have h1 := (h r hr).at ha hi
  have h2 := (hs.2.2.1 a (List.mem_of_getElem? ha)).2.2.1
  omega
/-- the rollup is put behind -/
theorem StoI.put {m0 : Mu} {p p2 : Addr} {s : Sch} {k n i : Nat} (n2 : p2 ≠ p) (hi : i ≤ 60) {m' : Mu} {P : Ro → Mu → Prop} (hP : ∀ r m, StoI m0 p p2 s k n (i + 1) r m → P r m) {st : List (List Nat)} (hx : st.length = i) (hb : ∀ r ∈ st, Roll s r)
    (e2 : m' p2 = some (.lst (st.map tD))) (hfr : ∀ b, b ≠ p → b ≠ p2 → m' b = m0 b) {j : Nat} (hp : Pen m' p j) (hk : j ≤ n + 5 * (i + 1)) {r : List Nat} (hr : Roll s r) {x4 x5 : Option D} :
    ∃ ds, m' p2 = some (.lst ds) ∧ ds.length < sizeLine ∧ P [some (.ref p), some (encS s), some (nD k), some (.ref p2), x4, x5] (up m' p2 (.lst (ds ++ [tD r]))) := by
  refine ⟨_, e2, small' (k := 1000) (by rw [List.length_map]; omega), hP _ _ ⟨⟨_, _, rfl⟩, ?_, ⟨st ++ [r], by rw [List.length_append, List.length_singleton, hx], ?_, ?_⟩, ?_⟩⟩
  · obtain ⟨a, b, c, e, hh⟩ := hp
    exact ⟨a, b, c, by rw [up_ne n2.symm]; exact e, by omega⟩
  · intro y hy
    rcases List.mem_append.mp hy with hy | hy
    · exact hb y hy
    · rw [List.mem_singleton] at hy; subst hy; exact hr
  · rw [up_same, List.map_append]; rfl
  · intro b hb1 hb2
    rw [up_ne hb2]; exact hfr b hb1 hb2
theorem v_law_stored : Body 6 t_law_stored s_law_stored := by
  rintro ds m Q ⟨p, s, k, n, rfl, hs, hk8, hp, hn, q⟩
  unfold t_law_stored
  unfold nD
  walk_at "d"
  refine ⟨by decide, fun p2 hp2 => ?_⟩
  have hpe : ∃ o, m p = some o := by obtain ⟨a, b, c, e, _⟩ := hp; exact ⟨_, e⟩
  have n2 : p2 ≠ p := by rintro rfl; obtain ⟨o, e⟩ := hpe; rw [hp2] at e; cases e
  have hpu : Pen (up m p2 (.lst [])) p n := by
    obtain ⟨a, b, c, e, hh⟩ := hp
    exact ⟨a, b, c, by rw [up_ne n2.symm]; exact e, hh⟩
  refine ⟨p, k + 1, n, rfl, hpu, by omega, by omega, by omega, fun t m1 ht hu1 => ?_⟩
  unfold nD
  walk_at "d"
  refine ⟨by omega, by omega, ?_⟩
  refine forGo_inv (StoI m p p2 s k (n + 1)) _ _ _ 0 ⟨⟨_, _, rfl⟩, hu1.pen, ⟨[], rfl, fun x hx => (by cases hx), by rw [hu1.other n2, up_same]; rfl⟩, fun b h1 h2 => by rw [hu1.other h1, up_ne h2]⟩ ?_ ?_
  · rintro j d rr m' P hd ⟨⟨x4, x5, rfl⟩, hpen, ⟨st, hx, hb, e2⟩, hfr⟩ hP
    have hj : j < t := by
      have := (List.getElem?_eq_some_iff.mp hd).1
      unfold rgD at this
      rw [List.length_map, List.length_range] at this
      omega
    rw [Nat.zero_add] at hpen hP hx
    have hsl := sm_rolls hs hb
    have hok : okD (.ref p2) m' := by
      have z := (sm_lst hsl).ok (by decide) m'
      unfold okD at z ⊢
      simp only [purM, pyM, e2]
      exact z
    have hpy : pyM (.ref p2) m' = .list (pyL (st.map tD)) := by simp only [pyM, e2]
    have fr : ∀ {k : Nat} {m2 : Mu}, PenU m' p k m2 → m2 p2 = some (.lst (st.map tD)) ∧ ∀ b, b ≠ p → b ≠ p2 → m2 b = m b := fun hu => ⟨by rw [hu.other n2]; exact e2, fun b h1 h2 => by rw [hu.other h1]; exact hfr b h1 h2⟩
    walk_at "d"
    refine ⟨by decide, ?_⟩
    show okD _ _ ∧ okD _ _ ∧ _
    refine ⟨hok, ok_nil _, ?_⟩
    rw [hpy, eqv_nil]
    refine ⟨_, rfl, ?_⟩
    by_cases h0 : st.map tD = []
    · simp only [h0, decide_true, Bool.not_true, Bool.false_eq_true, ↓reduceIte]
      refine ⟨_, e2, ?_⟩
      refine ⟨p, s, _, rfl, hs, hpen, by omega, fun r m2 hr hu => ?_⟩
      obtain ⟨f2, g2⟩ := fr hu
      exact StoI.put n2 (by omega) hP hx hb f2 g2 hu.pen (by omega) hr
    · simp only [h0, decide_false, Bool.not_false, ↓reduceIte]
      refine ⟨p, 6, _, rfl, hpen, by omega, by decide, by decide, fun z m2 hz hu => ?_⟩
      obtain ⟨f2, g2⟩ := fr hu
      unfold nD
      walk_at "d"
      refine ⟨_, f2, ?_⟩
      by_cases hz0 : (z : Int) = 0
      · simp only [hz0, decide_true, ↓reduceIte]
        refine ⟨p, _, st.map tD, _, rfl, Or.inr (Or.inr ⟨p2, n2, rfl, f2⟩), hu.pen, by omega, ?_, ?_, fun d m3 hd3 hu3 => ?_⟩
        · exact List.length_pos_iff.mpr h0
        · rw [List.length_map]; omega
        · obtain ⟨r, hr, rfl⟩ := List.mem_map.mp hd3
          obtain ⟨f3, g3⟩ := fr (hu.trans hu3)
          exact StoI.put n2 (by omega) hP hx hb f3 g3 hu3.pen (by omega) (hb r hr)
      · simp only [hz0, decide_false, Bool.false_eq_true, ↓reduceIte]
        refine ⟨p, s, _, rfl, hs, hu.pen, by omega, fun r m3 hr hu3 => ?_⟩
        obtain ⟨f3, g3⟩ := fr (hu.trans hu3)
        exact StoI.put n2 (by omega) hP hx hb f3 g3 hu3.pen (by omega) hr
  · rintro rr m' ⟨⟨x4, x5, rfl⟩, ⟨a, b, c, ep, hh⟩, ⟨st, hx, hb, e2⟩, hfr⟩
    walk_at "d"
    simp only [aTuple_ref e2]
    have hlen : st.length ≤ k := by
      rw [hx]; unfold rgD; rw [List.length_map, List.length_range]; omega
    refine end_rtL (m2 := up m p (.lst [.int a, .int b, .int c])) (fun x o e => ?_) (q st _ ⟨by omega, hb⟩ hlen ⟨a, b, c, rfl, by omega⟩)
    by_cases hxp : x = p
    · subst hxp
      rw [up_same] at e
      rw [ep]; exact e
    · rw [up_ne hxp] at e
      have x2 : x ≠ p2 := by rintro rfl; rw [hp2] at e; cases e
      rw [hfr x hxp x2]; exact e
/-! taken, by the law -/
/-! the parts, by the law -/
def TkP (t : List Nat) : Prop := (∃ x, t = [x]) ∨ ∃ i j, i ≠ j ∧ t = [i, j]
theorem TkV.p {n : Nat} {t : List Nat} (h : TkV n t) : TkP t := by
  rcases h with h | ⟨i, j, hij, _, h⟩
  · exact Or.inl ⟨_, h⟩
  · exact Or.inr ⟨i, j, by omega, h⟩
/-! the answer, by the law -/
end Mn

set_option linter.all false
set_option maxHeartbeats 4000000
set_option autoImplicit false
set_option maxRecDepth 100000
namespace Mn
open PySem L2
variable [Tbs]
local macro_rules | `(tactic| walk_at "d") => `(tactic| (try simp only [xNext, xSeq, xAsg, xRet, xRetF, xDrop, xIf, xPar, xPar3, xFrz, xPut, xAug, xFor, dVar, dC, dOp, dTest, dChain, dAndV, dOrV, dNotV, dAnd, dOr, dNot, dIf, dNil, dCons, dTup, dLst, dLstM, dCB, dIsi, dLc, dLcM, dYes, wipeD, dSlice, oSome, oNone, aSl_tup, aSl_lst, dNeg, dStar, dNewD, dTupVals, dCountL, dExtend, dAppend, dFrz, dLc2, dCountT, dIndexT, sqf_tup, sqf_lst, sqf_pair, sSeq, sSeq_tup, sSeq_lst, sRg1, sRg2, sZip2, sZip3, sEnum, gV, gN, gC, gT, tupOf_tup, tupOf_pair, aAdd_int, aAdd_tup, aAdd_lst, aSub_int, aMul_int, aDiv_int, aMod_int, aPow_int, aCmp_int, aIx_tup, aIx_lst, aIx_scr, aIx_pair, aMax_int, aMin_int, aInt_bl, aInt_int, aLen_tup, aLen_lst, aLen_scr, aLen_pair, aTuple_lst, aTuple_tup, aEq_int, aNe_int, startD, List.map_cons, List.map_nil, List.length_cons, List.length_nil, List.cons_append, List.nil_append, List.replicate_zero, List.replicate_succ, List.append_nil, List.getElem?_cons_zero, List.getElem?_cons_succ, List.set_cons_zero, List.set_cons_succ, Option.some.injEq, exists_eq_left', exists_eq_left, exists_eq', D.int.injEq, D.bl.injEq, D.tup.injEq, D.lst.injEq, D.pair.injEq, D.ref.injEq, List.cons.injEq, Nat.sub_self, Nat.zero_add, Nat.add_sub_cancel, seqI_tup, seqI_lst, seqOf_tup, seqOf_lst, tyN_tup, tyN_lst, tyN_int, tyN_bl, tyN_str, tyN_non, isi_tt, at_0, at_1, at_2, at_3, Option.map_some, true_and, and_true, if_true, Bool.false_eq_true, if_false, Bool.not_true, Bool.not_false, ↓reduceIte, Nat.reduceAdd, Nat.reduceSub, exists_and_left, and_assoc]))
end Mn

set_option linter.all false
set_option maxHeartbeats 4000000
set_option autoImplicit false
set_option maxRecDepth 100000
namespace Mn
open PySem L2
variable [Tbs]
local macro_rules | `(tactic| walk_at "d") => `(tactic| (try simp only [xNext, xSeq, xAsg, xRet, xRetF, xDrop, xIf, xPar, xPar3, xMatch, mGo, xFrz, xPut, xAug, xFor, dVar, dC, dOp, dTest, dChain, dAndV, dOrV, dNotV, dAnd, dOr, dNot, dIf, dNil, dCons, dTup, dLst, dLstM, dCB, dIsi, dLc, dLcM, dYes, wipeD, dSlice, oSome, oNone, aSl_tup, aSl_lst, dNeg, dStar, dNewD, dTupVals, dSortSet, dStep, dIndexTD, dCountL, dExtend, dAppend, dFrz, dLc2, dCountT, dIndexT, sqf_tup, sqf_lst, sqf_pair, sSeq, sSeq_tup, sSeq_lst, sRg1, sRg2, sZip2, sZip3, sZip4, sEnum, gV, gN, gC, gT, tupOf_tup, tupOf_pair, aAdd_int, aAdd_tup, aAdd_lst, aSub_int, aMul_int, aDiv_int, aMod_int, aPow_int, aCmp_int, aIx_tup, aIx_lst, aIx_scr, aIx_pair, aMax_int, aMin_int, aInt_bl, aInt_int, aLen_tup, aLen_lst, aLen_scr, aLen_pair, aTuple_lst, aTuple_tup, aIsB_bl, aNotB_bl, aEq_int, aNe_int, startD, List.map_cons, List.map_nil, List.length_cons, List.length_nil, List.cons_append, List.nil_append, List.replicate_zero, List.replicate_succ, List.append_nil, List.getElem?_cons_zero, List.getElem?_cons_succ, List.set_cons_zero, List.set_cons_succ, Option.some.injEq, exists_eq_left', exists_eq_left, exists_eq', D.int.injEq, D.bl.injEq, D.tup.injEq, D.lst.injEq, D.pair.injEq, D.ref.injEq, List.cons.injEq, Nat.sub_self, Nat.zero_add, Nat.add_sub_cancel, seqI_tup, seqI_lst, seqOf_tup, seqOf_lst, tyN_tup, tyN_lst, tyN_int, tyN_bl, tyN_str, tyN_non, isi_tt, at_0, at_1, at_2, at_3, Option.map_some, true_and, and_true, if_true, Bool.false_eq_true, if_false, Bool.not_true, Bool.not_false, ↓reduceIte, Nat.reduceAdd, Nat.reduceSub, exists_and_left, and_assoc]))
/-! data compared with itself -/
theorem eqv_self {d : D} {k : Nat} (h : Cm d k) (m : Mu) : PyData.eqv (pyM d m) (pyM d m) = true := by
  rw [(pyM_of h.1 m).1]
  exact PySem.SeqAt.eqv_refl _ h.2.1
theorem aNe_self {d : D} {k : Nat} {m : Mu} {Q : DK} (h : Cm d k) (hk : k ≤ 64) (hn : ∀ x, d ≠ .str x) (q : Q (.bl false) m) : aNe d d m Q := by
  have e := eqv_self h m
  have o := h.ok hk m
  cases d with
  | str x => exact absurd rfl (hn x)
  | _ =>
    refine ⟨o, o, ?_⟩
    rw [e]; exact q
theorem cm_pair {a b : D} {k : Nat} (ha : Cm a k) (hb : Cm b k) : Cm (.tup [a, b]) (k + 1) := cm_tup fun d hd => by
  simp only [List.mem_cons, List.not_mem_nil, or_false] at hd
  rcases hd with rfl | rfl <;> assumption
theorem cm_wF : Cm (.str wF) 0 := ⟨rfl, by decide +kernel, Nat.zero_le _⟩
theorem cm_wT : Cm (.str wT) 0 := ⟨rfl, by decide +kernel, Nat.zero_le _⟩
theorem cm_ansC (s : Sch) (st : List (List Nat)) (w c : List Nat) : Cm (ansC s st w c) 2 := by
  unfold ansC
  split
  · exact (cm_pair cm_wF (cm_int _)).mono (by decide)
  · exact cm_tup fun d hd => by
      simp only [List.mem_cons, List.not_mem_nil, or_false] at hd
      rcases hd with rfl | rfl | rfl
      · exact cm_wT.mono (by decide)
      · exact cm_tD _
      · exact cm_tD _
theorem kn_ansC (m : Mu) (s : Sch) (st : List (List Nat)) (w c : List Nat) : Kn m (ansC s st w c) := by
  unfold ansC
  split
  · exact kn_tup fun d hd => by
      simp only [List.mem_cons, List.not_mem_nil, or_false] at hd
      rcases hd with rfl | rfl
      · exact kn_str m _
      · exact kn_int m _
  · exact kn_tup fun d hd => by
      simp only [List.mem_cons, List.not_mem_nil, or_false] at hd
      rcases hd with rfl | rfl | rfl
      · exact kn_str m _
      · exact kn_tD m _
      · exact kn_tD m _
/-- cells.index(cell), the cells as a tuple -/
theorem index_stD {cs : List (List Nat)} {c : List Nat} {m : Mu} {P : Nat → Prop} (hc : c ∈ cs) (q : ∀ j : Nat, cs[j]? = some c → P j) : ixK (stD cs) (tD c) m P := by
  have hlt : cs.findIdx (fun x => decide (x = c)) < cs.length := List.findIdx_lt_length_of_exists ⟨c, hc, decide_eq_true rfl⟩
  have hget : cs[cs.findIdx (fun x => decide (x = c))]? = some c := by
    rw [List.getElem?_eq_getElem hlt]
    have := List.findIdx_getElem (p := fun x => decide (x = c)) (xs := cs) (w := hlt)
    rw [of_decide_eq_true this]
  have e : ∀ x : List Nat, PyData.eqv (py (tD x)) (pyM (tD c) m) = decide (x = c) := fun x => eqv_tD x c m
  refine ⟨_, cs.findIdx (fun x => decide (x = c)), tD c, rfl, (cm_stD cs).ok (by decide) m, (cm_tD c).ok (by decide) m, by rw [List.getElem?_map, hget]; rfl, by rw [e]; exact decide_eq_true rfl, fun i z' hi hz => ?_, q _ hget⟩
  rw [List.getElem?_map] at hz
  obtain ⟨x, hx, rfl⟩ := Option.map_eq_some_iff.mp hz
  rw [e]
  have := List.not_of_lt_findIdx hi
  rw [List.getElem?_eq_getElem (by omega)] at hx
  cases hx
  simpa using this
def s_law_cell_right : DSp := fun ds m Q => ∃ (s : Sch) (st : List (List Nat)) (w c : List Nat) (xs : List Int), ds = [encS s, stD st, tD w, tD c, iD xs] ∧ SchV s ∧ Stv s st ∧ Roll s w ∧ Cell s w c ∧ Tab s xs ∧ Q (.bl true) m
theorem l_law_cell_right : ∀ ds m Q, s_law_cell_right ds m Q → ds.length = 5 := by rintro ds m Q ⟨s, st, w, c, xs, rfl, _⟩; rfl
def t_law_cell_right : DS := (xSeq (xAsg (dCB s_own_cell (dCons (dVar 0) (dCons (dVar 2) (dCons (dVar 3) dNil)))) (gT 2 (gC (gV 7) (gC (gV 8) gN))))
  (xSeq (xIf (dOr (dNot (dTest (dCB s_is_fine (dCons (dVar 0) (dCons (dVar 2) (dCons (dVar 7) dNil)))))) (dTest (dOp aNe (dCB s_own_cell (dCons (dVar 0) (dCons (dVar 7) (dCons (dVar 8) dNil)))) (dTup (dCons (dVar 7) (dCons (dVar 8) dNil)))))) (xRet (dC (.bl false))) xNext)
  (xSeq (xAsg (dOp aIx (dCB s_sums (dCons (dVar 0) (dCons (dVar 4) (dCons (dVar 2) dNil)))) (dIndexTD (dCB s_cells (dCons (dVar 0) (dCons (dVar 2) dNil))) (dVar 3))) (gV 5))
  (xSeq (xIf (dTest (dOp aNe (dVar 5) (dOp aIx (dCB s_sums (dCons (dVar 0) (dCons (dVar 4) (dCons (dVar 7) dNil)))) (dIndexTD (dCB s_cells (dCons (dVar 0) (dCons (dVar 7) dNil))) (dVar 8))))) (xRet (dC (.bl false))) xNext)
  (xSeq (xAsg (dCB s_answer_cell (dCons (dVar 0) (dCons (dVar 1) (dCons (dVar 2) (dCons (dVar 3) dNil))))) (gV 6))
  (xSeq (xIf (dTest (dOp aNe (dVar 6) (dCB s_answer_cell (dCons (dVar 0) (dCons (dVar 1) (dCons (dVar 7) (dCons (dVar 8) dNil))))))) (xRet (dC (.bl false))) xNext)
  (xSeq (xIf (dTest (dOp aNotB (dCB s_shows_answer_cell (dCons (dVar 0) (dCons (dVar 1) (dCons (dVar 2) (dCons (dVar 3) (dCons (dVar 6) dNil)))))) (dC (.bl true)))) (xRet (dC (.bl false))) xNext)
  (xRet (dOrV (dOp aEq (dOp aIx (dVar 6) (dC (.int 0))) (dC (.str (Str.ofString "from")))) (dOp aIsB (dCB s_shows_answer (dCons (dVar 0) (dCons (dVar 1) (dCons (dVar 2) (dCons (dVar 6) dNil))))) (dC (.bl true))))))))))))
def tr19b : DS := (xSeq (xAsg (dCB s_answer_cell (dCons (dVar 0) (dCons (dVar 1) (dCons (dVar 2) (dCons (dVar 3) dNil))))) (gV 6))
  (xSeq (xIf (dTest (dOp aNe (dVar 6) (dCB s_answer_cell (dCons (dVar 0) (dCons (dVar 1) (dCons (dVar 7) (dCons (dVar 8) dNil))))))) (xRet (dC (.bl false))) xNext)
  (xSeq (xIf (dTest (dOp aNotB (dCB s_shows_answer_cell (dCons (dVar 0) (dCons (dVar 1) (dCons (dVar 2) (dCons (dVar 3) (dCons (dVar 6) dNil)))))) (dC (.bl true)))) (xRet (dC (.bl false))) xNext)
  (xRet (dOrV (dOp aEq (dOp aIx (dVar 6) (dC (.int 0))) (dC (.str (Str.ofString "from")))) (dOp aIsB (dCB s_shows_answer (dCons (dVar 0) (dCons (dVar 1) (dCons (dVar 2) (dCons (dVar 6) dNil))))) (dC (.bl true))))))))
def tr19a : DS := (xSeq (xAsg (dOp aIx (dCB s_sums (dCons (dVar 0) (dCons (dVar 4) (dCons (dVar 2) dNil)))) (dIndexTD (dCB s_cells (dCons (dVar 0) (dCons (dVar 2) dNil))) (dVar 3))) (gV 5))
  (xSeq (xIf (dTest (dOp aNe (dVar 5) (dOp aIx (dCB s_sums (dCons (dVar 0) (dCons (dVar 4) (dCons (dVar 7) dNil)))) (dIndexTD (dCB s_cells (dCons (dVar 0) (dCons (dVar 7) dNil))) (dVar 8))))) (xRet (dC (.bl false))) xNext)
  tr19b))
def t_law_cell_right' : DS := (xSeq (xAsg (dCB s_own_cell (dCons (dVar 0) (dCons (dVar 2) (dCons (dVar 3) dNil)))) (gT 2 (gC (gV 7) (gC (gV 8) gN))))
  (xSeq (xIf (dOr (dNot (dTest (dCB s_is_fine (dCons (dVar 0) (dCons (dVar 2) (dCons (dVar 7) dNil)))))) (dTest (dOp aNe (dCB s_own_cell (dCons (dVar 0) (dCons (dVar 7) (dCons (dVar 8) dNil)))) (dTup (dCons (dVar 7) (dCons (dVar 8) dNil)))))) (xRet (dC (.bl false))) xNext)
  tr19a))
theorem t_law_cell_right_eq : t_law_cell_right = t_law_cell_right' := rfl
/-- sums(..)[cells(..).index(cell)] -/
theorem sum_ix {s : Sch} {xs : List Int} {w c : List Nat} {m : Mu} {Q : DK} (hc : Cell s w c) (q : Q (.int (smA s xs w c)) m) : ixK (stD (cellsOf s w)) (tD c) m fun j => aIx (iD (rolN s (finN s) xs w)) (.int (j : Nat)) m Q :=
  index_stD (cell_iff.mpr hc) fun j hj => by
    unfold iD rolN
    walk_at "d"
    refine ⟨_, ?_, q⟩
    rw [at_nat, List.getElem?_map, List.getElem?_map, hj]
    rfl
theorem w_19b {De : DE} {s : Sch} {st : List (List Nat)} {w c : List Nat} {d4 d5 x6 : Option D} {m : Mu} (hs : SchV s) (hst : Stv s st) (hw : Roll s w) (hc : Cell s w c) (q : De.rt (.bl true) m) :
    tr19b De [some (encS s), some (stD st), some (tD w), some (tD c), d4, d5, x6, some (tD (ownL s w c)), some (tD (ownC s w c))] m := by
  unfold tr19b
  walk_at "d"
  refine ⟨s, st, w, c, rfl, hs, hst, hw, hc, ?_⟩
  refine ⟨s, st, ownL s w c, ownC s w c, rfl, hs, hst, own_roll hs hw hc, own_cellc hs hw hc, ?_⟩
  rw [ansC_own hs hw hc]
  refine aNe_self (cm_ansC s st w c) (by decide) (by intro x; unfold ansC; split <;> exact fun h => nomatch h) ⟨_, rfl, ?_⟩
  rw [if_neg (by decide)]
  refine ⟨s, st, w, c, _, rfl, hs, hst, hw, hc, kn_ansC m _ _ _ _, ?_⟩
  have hsh := shC_ans hs hst hw hc
  rw [hsh]
  walk_at "d"
  simp only [decide_true, Bool.not_true, Bool.false_eq_true, ↓reduceIte]
  have key : ∀ A : D, A = ansC s st w c → (∃ i, A = .tup [.str wF, nD i]) ∨ (A = .tup [.str wT, tD (prt s (tins s w c) 0), tD (prt s (tins s w c) 1)] ∧ shA s st w A = true) := by
    intro A hA
    unfold ansC at hA
    cases e : plN st (ownL s w c) with
    | some i => rw [e] at hA; exact .inl ⟨i, hA⟩
    | none =>
      rw [e] at hA
      right
      refine ⟨hA, ?_⟩
      have hsh' : shC s st w c A = true := by
        have : A = ansC s st w c := by rw [hA]; unfold ansC; rw [e]
        rw [this]; exact hsh
      rw [hA] at hsh' ⊢
      have h1 : (decide (Str.ofString "tables" = wT) && (alike s st (tD (prt s (tins s w c) 0)) (tD (prt s (tins s w c) 1)) && !decide (smA s (amI (tD (prt s (tins s w c) 0))) w c = smA s (amI (tD (prt s (tins s w c) 1))) w c))) = true := hsh'
      rw [Bool.and_eq_true, Bool.and_eq_true, Bool.not_eq_true', decide_eq_false_iff_not] at h1
      show (decide (Str.ofString "tables" = wT) && (alike s st (tD (prt s (tins s w c) 0)) (tD (prt s (tins s w c) 1)) && !decide (rolN s (finN s) (amI (tD (prt s (tins s w c) 0))) w = rolN s (finN s) (amI (tD (prt s (tins s w c) 1))) w))) = true
      rw [h1.1, h1.2.1, Bool.true_and, Bool.true_and, Bool.not_eq_true', decide_eq_false_iff_not]
      intro z
      rw [rolN_sm, rolN_sm, List.map_inj_left] at z
      exact h1.2.2 (z _ (cell_iff.mpr hc))
  rcases key _ rfl with ⟨i, e⟩ | ⟨e, h⟩
  · have h1 : aIx (ansC s st w c) (.int 0) m fun x m1 => aEq x (.str (Str.ofString "from")) m1 fun x m1 => ∃ k, x = .bl k ∧ if k = true then De.rt (.bl true) m1 else s_shows_answer [encS s, stD st, tD w, ansC s st w c] m1 fun x m2 => aIsB x (.bl true) m2 De.rt := by
      rw [e]
      walk_at "d"
      show ∃ k, D.bl (decide (wF = wF)) = .bl k ∧ _
      exact ⟨_, rfl, by rw [if_pos (by decide)]; exact q⟩
    exact h1
  · have h1 : aIx (ansC s st w c) (.int 0) m fun x m1 => aEq x (.str (Str.ofString "from")) m1 fun x m1 => ∃ k, x = .bl k ∧ if k = true then De.rt (.bl true) m1 else s_shows_answer [encS s, stD st, tD w, ansC s st w c] m1 fun x m2 => aIsB x (.bl true) m2 De.rt := by
      rw [e]
      walk_at "d"
      show ∃ k, D.bl (decide (wT = wF)) = .bl k ∧ _
      refine ⟨_, rfl, ?_⟩
      rw [if_neg (by decide), ← e]
      refine ⟨s, st, w, _, rfl, hs, hst, hw, kn_ansC m _ _ _ _, ?_⟩
      rw [h]
      walk_at "d"
      simpa using q
    exact h1
theorem w_19a {De : DE} {s : Sch} {st : List (List Nat)} {w c : List Nat} {xs : List Int} {x5 x6 : Option D} {m : Mu} (hs : SchV s) (hst : Stv s st) (hw : Roll s w) (hc : Cell s w c) (hx : Tab s xs) (q : De.rt (.bl true) m) :
    tr19a De [some (encS s), some (stD st), some (tD w), some (tD c), some (iD xs), x5, x6, some (tD (ownL s w c)), some (tD (ownC s w c))] m := by
  have hR := own_roll hs hw hc; have hC := own_cellc hs hw hc
  unfold tr19a
  walk_at "d"
  refine ⟨s, xs, w, rfl, hs, hx, hw, s, w, rfl, hs, hw, ⟨_, rfl⟩, sum_ix hc ?_⟩
  refine ⟨s, xs, _, rfl, hs, hx, hR, s, _, rfl, hs, hR, ⟨_, rfl⟩, sum_ix hC ?_⟩
  rw [← sm_own hs hw hc]
  walk_at "d"
  simp only [decide_true, Bool.not_true, Bool.false_eq_true, ↓reduceIte]
  exact w_19b hs hst hw hc q
theorem v_law_cell_right : Body 9 t_law_cell_right s_law_cell_right := by
  rw [t_law_cell_right_eq]
  rintro ds m Q ⟨s, st, w, c, xs, rfl, hs, hst, hw, hc, hx, q⟩
  have hq := end_rt (m0 := m) q
  unfold t_law_cell_right'
  walk_at "d"
  refine ⟨s, w, c, rfl, hs, hw, hc, ?_⟩
  walk_at "d"
  refine ⟨s, w, _, rfl, hs, hw, own_roll hs hw hc, _, rfl, ?_⟩
  rw [own_fine hs hw hc]
  rw [if_neg (by decide)]
  refine ⟨s, _, _, rfl, hs, own_roll hs hw hc, own_cellc hs hw hc, by decide, ?_⟩
  rw [(own_fix hs hw hc).1, (own_fix hs hw hc).2]
  refine aNe_self (cm_pair (cm_tD _) (cm_tD _)) (by decide) (fun x h => nomatch h) ⟨_, rfl, ?_⟩
  rw [if_neg (by decide)]
  exact w_19a hs hst hw hc hx hq
def t_law : DS := (xSeq (xFor (sRg1 (dCB aMax (dCons (dC (.int 1)) (dCons (dCB aMin (dCons (dCB aLen (dCons (dVar 0) dNil)) (dCons (dC (.int 3)) dNil))) dNil)))) (gV 1) (xSeq (xAsg (dCB s_law_pen (dCons (dCB s_law_cell_at (dCons (dVar 0) (dCons (dVar 1) dNil))) dNil)) (gV 2))
  (xFor (sRg1 (dC (.int 3))) (gV 3) (xSeq (xAsg (dCB s_law_scheme (dCons (dVar 2) dNil)) (gV 4))
  (xSeq (xPar 6 7 (dCons (dCB s_law_stored (dCons (dVar 2) (dCons (dVar 4) (dCons (dC (.int 3)) dNil)))) (dCons (dCB s_law_table (dCons (dVar 2) (dCons (dVar 4) dNil))) dNil)))
  (xFor (sRg1 (dC (.int 3))) (gV 5) (xSeq (xAsg (dCB s_law_rollup (dCons (dVar 2) (dCons (dVar 4) dNil))) (gV 8))
  (xSeq (xAsg (dLstM dNil) (gV 9))
  (xSeq (xFor (sSeq (dCB s_cells (dCons (dVar 4) (dCons (dVar 8) dNil)))) (gV 10) (xDrop (dAppend (dVar 9) (dOp aIx (dCB s_answer_cell (dCons (dVar 4) (dCons (dVar 6) (dCons (dVar 8) (dCons (dVar 10) dNil))))) (dC (.int 0))))))
  (xSeq (xFor (sSeq (dSlice (dCB s_cells (dCons (dVar 4) (dCons (dVar 8) dNil))) oNone (oSome (dC (.int 12))))) (gV 10) (xIf (dNot (dTest (dCB s_law_cell_right (dCons (dVar 4) (dCons (dVar 6) (dCons (dVar 8) (dCons (dVar 10) (dCons (dVar 7) dNil)))))))) (xRet (dC (.bl false))) xNext))
  (xIf (dTest (dOp aNe (dOp aEq (dOp aIx (dCB s_answer (dCons (dVar 4) (dCons (dVar 6) (dCons (dVar 8) dNil)))) (dC (.int 0))) (dC (.str (Str.ofString "from")))) (dOp aNotIn (dC (.str (Str.ofString "tables"))) (dVar 9)))) (xRet (dC (.bl false))) xNext)))))))))))
  (xRet (dC (.bl true))))
def tl19c : DS := (xIf (dTest (dOp aNe (dOp aEq (dOp aIx (dCB s_answer (dCons (dVar 4) (dCons (dVar 6) (dCons (dVar 8) dNil)))) (dC (.int 0))) (dC (.str (Str.ofString "from")))) (dOp aNotIn (dC (.str (Str.ofString "tables"))) (dVar 9)))) (xRet (dC (.bl false))) xNext)
def tl19b : DS := (xSeq (xFor (sSeq (dSlice (dCB s_cells (dCons (dVar 4) (dCons (dVar 8) dNil))) oNone (oSome (dC (.int 12))))) (gV 10) (xIf (dNot (dTest (dCB s_law_cell_right (dCons (dVar 4) (dCons (dVar 6) (dCons (dVar 8) (dCons (dVar 10) (dCons (dVar 7) dNil)))))))) (xRet (dC (.bl false))) xNext))
  tl19c)
def tl19a : DS := (xSeq (xAsg (dCB s_law_rollup (dCons (dVar 2) (dCons (dVar 4) dNil))) (gV 8))
  (xSeq (xAsg (dLstM dNil) (gV 9))
  (xSeq (xFor (sSeq (dCB s_cells (dCons (dVar 4) (dCons (dVar 8) dNil)))) (gV 10) (xDrop (dAppend (dVar 9) (dOp aIx (dCB s_answer_cell (dCons (dVar 4) (dCons (dVar 6) (dCons (dVar 8) (dCons (dVar 10) dNil))))) (dC (.int 0))))))
  tl19b)))
def t_law' : DS := (xSeq (xFor (sRg1 (dCB aMax (dCons (dC (.int 1)) (dCons (dCB aMin (dCons (dCB aLen (dCons (dVar 0) dNil)) (dCons (dC (.int 3)) dNil))) dNil)))) (gV 1) (xSeq (xAsg (dCB s_law_pen (dCons (dCB s_law_cell_at (dCons (dVar 0) (dCons (dVar 1) dNil))) dNil)) (gV 2))
  (xFor (sRg1 (dC (.int 3))) (gV 3) (xSeq (xAsg (dCB s_law_scheme (dCons (dVar 2) dNil)) (gV 4))
  (xSeq (xPar 6 7 (dCons (dCB s_law_stored (dCons (dVar 2) (dCons (dVar 4) (dCons (dC (.int 3)) dNil)))) (dCons (dCB s_law_table (dCons (dVar 2) (dCons (dVar 4) dNil))) dNil)))
  (xFor (sRg1 (dC (.int 3))) (gV 5) tl19a))))))
  (xRet (dC (.bl true))))
theorem t_law_eq : t_law = t_law' := rfl
theorem cutD_le' (ds : List D) (hi : Nat) : cutD ds none (some (hi : Int)) = ds.take hi := by
  unfold cutD
  rw [HT.sIx_nat, show HT.sIx ds.length 0 none = 0 from rfl, List.drop_zero, Nat.sub_zero]
  by_cases h : hi ≤ ds.length
  · rw [Nat.min_eq_left h]
  · rw [Nat.min_eq_right (by omega), List.take_length, List.take_of_length_le (by omega)]
def hdN (st : List (List Nat)) (w : List Nat) : Str := match plN st w with
  | some _ => wF
  | none => wT
theorem ix_ansN {s : Sch} {st : List (List Nat)} {w : List Nat} {m : Mu} {Q : DK} (q : Q (.str (hdN st w)) m) : aIx (ansN s st w) (.int 0) m Q := by
  unfold ansN
  unfold hdN at q
  cases e : plN st w with
  | some i => rw [e] at q; walk_at "d"; exact q
  | none => rw [e] at q; walk_at "d"; exact q
theorem ix_ansC {s : Sch} {st : List (List Nat)} {w c : List Nat} {m : Mu} {Q : DK} (q : Q (.str (hdN st (ownL s w c))) m) : aIx (ansC s st w c) (.int 0) m Q := by
  unfold ansC
  unfold hdN at q
  cases e : plN st (ownL s w c) with
  | some i => rw [e] at q; walk_at "d"; exact q
  | none => rw [e] at q; walk_at "d"; exact q
theorem hdN_or (st : List (List Nat)) (w : List Nat) : hdN st w = wF ∨ hdN st w = wT := by
  unfold hdN
  split
  · exact .inl rfl
  · exact .inr rfl
theorem hdN_T {st : List (List Nat)} {w : List Nat} : hdN st w = wT ↔ plN st w = none := by
  unfold hdN
  split
  · next e => rw [e]; exact ⟨fun h => absurd h wF_wT, fun h => nomatch h⟩
  · next e => rw [e]; exact ⟨fun _ => rfl, fun _ => rfl⟩
theorem hdN_F {st : List (List Nat)} {w : List Nat} : hdN st w = wF ↔ plN st w ≠ none := by
  show hdN st w = wF ↔ ¬ plN st w = none
  rw [← hdN_T]
  rcases hdN_or st w with h | h
  · rw [h]; exact ⟨fun _ e => wF_wT e, fun _ => rfl⟩
  · rw [h]; exact ⟨fun e => absurd e.symm wF_wT, fun e => absurd rfl e⟩
/-- the sums at a rollup are determined exactly if those at each of its cells are -/
theorem all_cells {s : Sch} {st : List (List Nat)} {w : List Nat} (hs : SchV s) (hst : Stv s st) (hw : Roll s w) : plN st w ≠ none ↔ ∀ c ∈ cellsOf s w, plN st (ownL s w c) ≠ none := by
  constructor
  · intro h c hc e
    have hC := cell_iff.mp hc
    refine h (pl_iff.mpr fun r hr => ?_)
    cases ef : fineB r w with
    | false => rfl
    | true =>
      have hR := hst.2 r hr
      have := fine_trans (by rw [hR.len, hw.len]) (by rw [hw.len, (own_len hw hC).1]) ef (own_fine hs hw hC)
      rw [pl_none e r hr] at this; cases this
  · intro h e
    obtain ⟨hC, ho⟩ := own_exact hs hw
    refine h _ (cell_iff.mpr hC) ?_
    rw [ho]; exact e
theorem aEq_str {x y : Str} {m : Mu} {Q : DK} (q : Q (.bl (decide (x = y))) m) : aEq (.str x) (.str y) m Q := q
theorem any_str (l : List Str) (x : Str) (m : Mu) : ((l.map D.str).any fun z => PyData.eqv (py z) (pyM (.str x) m)) = l.contains x := by
  induction l with
  | nil => rfl
  | cons y l ih =>
    rw [List.map_cons, List.any_cons, ih, List.contains_cons]
    congr 1
    show PyData.eqv (.str y) (.str x) = _
    rw [PyData.eqv, Bool.eq_iff_iff]
    simp only [beq_iff_eq, decide_eq_true_eq]
    exact ⟨fun h => h.symm, fun h => h.symm⟩
theorem aNe_bl {a b : Bool} {m : Mu} {Q : DK} (q : Q (.bl (!decide (a = b))) m) : aNe (.bl a) (.bl b) m Q := by
  refine ⟨ok_bl a m, ok_bl b m, ?_⟩
  have e : PyData.eqv (pyM (.bl a) m) (pyM (.bl b) m) = decide (a = b) := by cases a <;> cases b <;> rfl
  rw [e]; exact q
theorem w_19l {De : DE} {ns : List Int} {p p9 : Addr} {s : Sch} {st : List (List Nat)} {xs : List Int} {w : List Nat} {x1 x3 x5 x10 : Option D} {m : Mu} (hs : SchV s) (hst : Stv s st) (hx : Tab s xs) (hw : Roll s w)
    (h9 : m p9 = some (.lst ((cellsOf s w).map fun c => .str (hdN st (ownL s w c)))))
    (hP : ∀ x10, De.nx [some (.scr (ns.map D.int)), x1, some (.ref p), x3, some (encS s), x5, some (stD st), some (iD xs), some (tD w), some (.ref p9), x10] m) :
    tl19b De [some (.scr (ns.map D.int)), x1, some (.ref p), x3, some (encS s), x5, some (stD st), some (iD xs), some (tD w), some (.ref p9), x10] m := by
  unfold tl19b
  walk_at "d"
  refine ⟨s, w, rfl, hs, hw, ?_⟩
  unfold stD
  walk_at "d"
  have e12 : cutD ((cellsOf s w).map tD) none (some 12) = ((cellsOf s w).take 12).map tD := by rw [List.map_take]; exact cutD_le' _ 12
  rw [e12]
  refine ⟨_, .inr rfl, ?_⟩
  refine forGo_take (enc := tD) (fun pre rr m' => m' = m ∧ ∃ x10, rr = [some (.scr (ns.map D.int)), x1, some (.ref p), x3, some (encS s), x5, some (stD st), some (iD xs), some (tD w), some (.ref p9), x10]) ((cellsOf s w).take 12) [] _ _ _ rfl ⟨rfl, _, rfl⟩ ?_ ?_
  · rintro pre c post rr m' P e ⟨rfl, x10, rfl⟩ hP2
    have hc : c ∈ cellsOf s w := List.mem_of_mem_take (show c ∈ (cellsOf s w).take 12 by rw [e]; simp)
    walk_at "d"
    refine ⟨s, st, w, c, xs, rfl, hs, hst, hw, cell_iff.mp hc, hx, true, rfl, ?_⟩
    rw [if_neg (by decide)]
    exact hP2 _ _ ⟨rfl, _, rfl⟩
  · rintro rr m' ⟨rfl, x10, rfl⟩
    show tl19c _ _ _
    unfold tl19c
    walk_at "d"
    refine ⟨s, st, w, rfl, hs, hst, hw, ix_ansN ?_⟩
    refine aEq_str ?_
    refine .inl ⟨_, h9, cm_wT.ok (by decide) m', ?_, ?_⟩
    · have z := (cm_lst (k := 0) (ds := (cellsOf s w).map fun c => .str (hdN st (ownL s w c))) fun d hd => by
        obtain ⟨c, _, rfl⟩ := List.mem_map.mp hd
        rcases hdN_or st (ownL s w c) with h | h
        · rw [h]; exact cm_wF
        · rw [h]; exact cm_wT).ok (by decide) m'
      unfold okD at z ⊢
      simp only [purM, pyM, h9]
      exact z
    · have ea : (((cellsOf s w).map fun c => D.str (hdN st (ownL s w c))).any fun z => PyData.eqv (py z) (pyM (.str (Str.ofString "tables")) m')) = ((cellsOf s w).map fun c => hdN st (ownL s w c)).contains wT := by
        show (((cellsOf s w).map fun c => D.str (hdN st (ownL s w c))).any fun z => PyData.eqv (py z) (pyM (.str wT) m')) = _
        rw [← any_str _ wT m', List.map_map]; rfl
      rw [ea]
      have eb : decide (hdN st w = wF) = !((cellsOf s w).map fun c => hdN st (ownL s w c)).contains wT := by
        rw [Bool.eq_iff_iff, decide_eq_true_eq, Bool.not_eq_true', hdN_F, all_cells hs hst hw, ← Bool.not_eq_true, List.contains_iff_mem, List.mem_map]
        constructor
        · rintro h ⟨c, hc, e⟩
          exact h c hc (hdN_T.mp e)
        · intro h c hc e
          exact h ⟨c, hc, hdN_T.mpr e⟩
      show aNe (.bl (decide (hdN st w = wF))) _ _ _
      rw [eb]
      refine aNe_bl ⟨_, rfl, ?_⟩
      rw [decide_eq_true rfl, if_neg (by decide)]
      exact hP _
theorem v_law : Body 11 t_law s_law := by
  rw [t_law_eq]
  rintro ds m Q ⟨ns, rfl, hl, q⟩
  refine scaf_ks (n := 8) hl rfl (fun m1 => end_rtL (m2 := m1) (fun _ _ e => e) (q m1)) fun De x1 xs m1 p hn hp hP => ?_
  obtain ⟨x3, xs, rfl, hn5⟩ := len_cons hn
  refine scaf_laps (L := 3) (c := 1000) (n := 7) (by decide) hn5 hp hP fun De j x1 xs m2 hj hn hp hP => ?_
  obtain ⟨x4, x5, x6, x7, x8, x9, x10, rfl⟩ := len7 hn
  walk_at "d"
  refine ⟨p, _, rfl, hp, by omega, fun s m3 hs hu => ?_⟩
  walk_at "d"
  refine ⟨p, s, 3, _, rfl, hs, by decide, hu.pen, by omega, fun st m4 hst hstl hu2 => ?_⟩
  refine ⟨p, s, _, rfl, hs, hu2.pen, by omega, fun xs m5 hx hxb hu3 => ?_⟩
  have hp5 := ((hu.trans hu2).trans hu3).pen
  walk_at "d"
  refine ⟨by decide, by decide, ?_⟩
  refine forGo_inv (fun i rr m => (∃ x5 x8 x9 x10, rr = [some (D.scr (ns.map D.int)), x1, some (.ref p), some (.int (j : Nat)), some (encS s), x5, some (stD st), some (iD xs), x8, x9, x10]) ∧ Pen m p (1000 * j + 800 + 3 * i)) _ _ _ 0 ⟨⟨_, _, _, _, rfl⟩, by simpa using hp5⟩ ?_ ?_
  · rintro i d rr m6 P hd ⟨⟨x5, x8, x9, x10, rfl⟩, hp6⟩ hP2
    have hi : i < 3 := (List.getElem?_eq_some_iff.mp hd).1
    rw [Nat.zero_add] at hp6 hP2
    show tl19a _ _ _
    unfold tl19a
    walk_at "d"
    refine ⟨p, s, _, rfl, hs, hp6, by omega, fun w m7 hw hu7 => ?_⟩
    walk_at "d"
    refine ⟨by decide, fun p9 hp9 => ?_⟩
    have np : p ≠ p9 := by rintro rfl; obtain ⟨a, b, c, e, _⟩ := hu7.pen; rw [hp9] at e; cases e
    refine ⟨s, w, rfl, hs, hw, ?_⟩
    unfold stD
    refine ⟨_, .inr rfl, ?_⟩
    have h60 := cells_small hs hw
    refine forGo_take (enc := tD) (fun pre rr m' => m' = up m7 p9 (.lst (pre.map fun c => .str (hdN st (ownL s w c)))) ∧ ∃ x10, rr = [some (.scr (ns.map D.int)), x1, some (.ref p), some (.int (j : Nat)), some (encS s), some d, some (stD st), some (iD xs), some (tD w), some (.ref p9), x10]) (cellsOf s w) [] _ _ _ rfl ⟨rfl, _, rfl⟩ ?_ ?_
    · rintro pre c post rr m' P3 e ⟨rfl, x10, rfl⟩ hP3
      have hc : c ∈ cellsOf s w := by rw [e]; simp
      have hpl : pre.length ≤ 60 := by have := congrArg List.length e; rw [List.length_append] at this; omega
      walk_at "d"
      refine ⟨_, up_same, s, st, w, c, rfl, hs, hst, hw, cell_iff.mp hc, ix_ansC ?_⟩
      refine ⟨_, up_same, small' (k := 1000) (by rw [List.length_map]; omega), ?_⟩
      rw [up_up]
      refine hP3 _ _ ⟨?_, _, rfl⟩
      rw [List.map_append]; rfl
    · rintro rr m' ⟨rfl, x10, rfl⟩
      refine w_19l hs hst hx hw up_same fun x10 => hP2 _ _ ⟨⟨_, _, _, _, rfl⟩, ?_⟩
      obtain ⟨a, b, c, e, hh⟩ := hu7.pen
      exact ⟨a, b, c, by rw [up_ne np]; exact e, hh⟩
  · rintro rr m6 ⟨⟨x5, x8, x9, x10, rfl⟩, hp6⟩
    exact hP _ _ _ _ rfl (hp6.u.mono (by show 1000 * j + 800 + 3 * (0 + 3) ≤ _; omega)).pen
end Mn

set_option Elab.async false
set_option linter.all false
set_option maxRecDepth 100000
set_option maxHeartbeats 4000000
set_option autoImplicit false
namespace Mn
open PySem PySem.Spec PyProof.Rows L2
/-! what the top leaves: how it is looked at -/
/-- one def of the top, by its name -/
def ddOf (x : Str) (st : Stmt) : He.DefD := ⟨(x, none), x, x, defArgs st, defBody st, defScope st, [], []⟩
def btNames : List String := ["len", "isinstance", "int", "bool", "str", "tuple", "list", "dict", "set", "all", "any", "sum", "max", "min", "zip", "range", "enumerate", "repr", "sorted"]
end Mn

set_option Elab.async false
set_option linter.all false
set_option maxRecDepth 100000
set_option maxHeartbeats 4000000
set_option autoImplicit false
namespace Mn
open PySem PySem.Spec PyProof.Rows L2
variable [Tbs]
/-- a law's end over a head by facts -/
theorem walkDE {l : PySem.W.OpenLaw} {n k : Nat} {q : Program} {loose : List Str} {XP : (Str → Option Value) → Heap → Prop} {YP : World → Heap → Prop} {dr : DefRec} {d : DSp} {x : Str}
    (hT : (Tbs.T : List (Addr × Str)) = []) (hn : l.most = some n) (hn2 : n ≤ sizeLine) (hdf : dr.params.defaults = []) (room : Room k callerA)
    (F : ∀ (w : World) (mg : Str → Option Value) (fa : Addr) (h : Heap), YP w h → h.Ns mainGlobals mg → mg dr.name = some (.ref fa) →
      ∃ (K : PySem.W.Frag) (fd : FuncData), K.In h ∧ (∀ (s : Shared) (u : Value), BindsTo s fd ⟨[u], []⟩ [(x, u)]) ∧ ∀ base : Heap, K.In base → base.Ns mainGlobals mg → FnD l.prog w K mg base k fa fd [x] d)
    (hd : ∀ (ns : List Int) (Q : DK), ns.length ≤ n → (∀ m, Q (.bl true) m) → d [.scr (ns.map D.int)] (fun _ => none) Q) :
    PySem.W.WalkO q loose XP YP l.row.toRowW dr [] (fun f vs => PySem.call f vs) := by
  refine Att.attach_call hn hdf fun w s₀ s₁ mg mb fa o pm cd doc a vs ns G Y ho hod hcd hmg hobj hints hlen hg => ?_
  obtain ⟨K, fd, inK, hb, hF⟩ := F w mg fa _ Y G.T.g hmg
  exact lawD inK G.T.g G.T.b G.T.builtins G.T.nolimit hg hobj hints (Nat.le_trans hlen hn2) room hF hb (fun Q hQ => hd ns Q hlen hQ) hT
theorem fun_of_FunD {K : PySem.W.Frag} {x qual : Str} {st : Stmt} {f : Addr} {fd : FuncData} {kws : List (Str × V)} (F : FunD K x qual (defArgs st) (defBody st) (defScope st) [] kws f fd) : Fun K x qual st f fd := by
  obtain ⟨oc, od, dV, kV, doc, pm, an, cdv, ct, osl, e, lk, hcd, hD, hK⟩ := F.ex
  rcases hD with ⟨_, rfl⟩ | ⟨z, _⟩
  · exact ⟨⟨oc, od, kV, doc, pm, an, cdv, ct, osl, e, lk, hcd⟩, F.kp⟩
  · exact absurd rfl z
theorem df_of {fa : List He.Fa} {fn : List He.DefD} {K : PySem.W.Frag} {h : Heap} {mg : Str → Option Value} (X : K.In h) (G : h.Ns mainGlobals mg) (c : He.SaysD fa fn K) {x : Str} {st : Stmt} {ps : List Str} (i j : Nat)
    (hb : ∀ (kV doc pm : Value) (an : Option Addr) (cdv ct : Value) (us : List Value), us.length = ps.length → bindArgs (PySem.W.fnOf x x (defArgs st) (defBody st) (defScope st) .none kV doc pm an cdv ct) ⟨us, []⟩ = pure (ps.zip us))
    (hi : fn[i]? = some (ddOf x st) := by rfl) (hj : fa[j]? = some (.glo x) := by rfl) :
    ∃ f fd, Df K mg x st ps f fd ∧ ∀ (s : Shared) (us : List Value), us.length = ps.length → BindsTo s fd ⟨us, []⟩ (ps.zip us) := by
  obtain ⟨fd, F⟩ := c.def_ i hi
  exact ⟨_, fd, ⟨fun_of_FunD F, He.glo_ok X G (c.fact j hj), FunD.bindsN F hb⟩, fun s us hl => FunD.bindsA F hb s us hl⟩
theorem df_ex {K : PySem.W.Frag} {mg : Str → Option Value} {x : Str} {st : Stmt} {ps : List Str} (h : ∃ f fd, Df K mg x st ps f fd ∧ ∀ (s : Shared) (us : List Value), us.length = ps.length → BindsTo s fd ⟨us, []⟩ (ps.zip us)) : ∃ f fd, Df K mg x st ps f fd :=
  let ⟨f, fd, a, _⟩ := h; ⟨f, fd, a⟩
theorem fnC1 {P : Program} {w : World} {K : PySem.W.Frag} {mg : Str → Option Value} {base : Heap} {x : Str} {st : Stmt} {N ps : List Str} {k : Nat} {t : DS} {d : DSp} {f : Addr} {fd : FuncData} (Dd : Df K mg x st ps f fd) (S : FnScope N ps (defScope st)) (hl : ∀ ds m Q, d ds m Q → ds.length = ps.length) (hb : Body N.length t d)
    (der : ∀ (f : Addr) (cdv : Value) (A : Around) (outer : List Env) (s : Shared) (H : Hp) (E : XK), A.guards = some [] → Room k (A.deeper (envOfC x (defScope st) s.heap.objs.size f cdv)) → PDSs (cxOf CX0 P w K mg base N x (defScope st) f cdv A outer s H E).nox (defBody st) t) :
    FnD P w K mg base (k + 1) f fd ps d := by
  obtain ⟨oc, od, kV, doc, pm, an, cdv, ct, osl, rfl, lk, hcd⟩ := Dd.F.ex
  refine gn_of lk hcd S (fun vs H Q E ⟨G, ds, m, Qd, rp, rl, q, w⟩ => by rw [← rp.len]; exact hl _ _ _ q) fun A outer s H vs Q E room gd h => ?_
  exact ⟨_, PSs.nox (der f cdv A outer s H E gd room), lfS_start hb h⟩
theorem bts_of {fa : List He.Fa} {fn : List He.DefD} {K : PySem.W.Frag} {h : Heap} {mg : Str → Option Value} (X : K.In h) (G : h.Ns mainGlobals mg) (c : He.SaysD fa fn K) (hf : ∀ x ∈ btNames, He.Fa.free (Str.ofString x) ∈ fa) : Bts mg := by
  have c1 := (He.ba (show ((fa.all fun f => f.ok K) && fn.all fun d => d.ok K) = true from congrArg (fun z : He.AlD => z.1) c)).1
  have q : ∀ x ∈ btNames, mg (Str.ofString x) = none := fun x hx => He.free_ok X G (List.all_eq_true.mp c1 _ (hf x hx))
  refine ⟨?_, ?_, ?_, ?_, ?_, ?_, ?_, ?_, ?_, ?_, ?_, ?_, ?_, ?_, ?_, ?_, ?_, ?_, ?_⟩ <;> exact q _ (by decide)
end Mn

set_option Elab.async false
set_option linter.all false
set_option maxRecDepth 100000
set_option maxHeartbeats 4000000
set_option autoImplicit false
namespace Mn
open PySem PySem.Spec PyProof.Rows L2
variable [Tbs]
/-! {k: v for x in xs}, the keys tuples -/
section
variable {X : Cx}
theorem set_raw {pn : List (Addr × Obj)} {τ : L2.St} {H : Hp} {s : Shared} {F : Value → Shared → Prop} {D b : Addr} {xs : Row3} {k : NestedKey} {v : V} {r : Value} {Q : Unit → Shared → Prop} (hu : X.A.units + 65 < cLine) (I : Inv X pn τ H s) (d : DN X.w H D xs) (hat : H D = some (.ext (dictAt X.w D xs)))
    (hk : KyH H k (.ref b)) (h8 : k.depth ≤ 8) (rv : RelV v r) (q : ∀ s', Inv X pn τ (upd H D (.ext (dictAt X.w D (putV xs k b v)))) s' → Q () s') : wpAny (model X.prog X.w) X.A (dictSet D (.ref b) r) Q F s := by
  obtain ⟨vs, rp, dd⟩ := d.dict I
  have rm : (nestedKind X.prog X.w).room X.A := by show X.A.units + 8 < cLine; omega
  refine wpAny_dictSet_heap (hsz := by rw [← pairX_len rp]; exact d.sz) rm ⟨hk.is I rfl, h8⟩ dd fun h' dd' hs => q _ ?_
  obtain ⟨o, es, ep, ho, h2, h3, h4, _, _⟩ := dd'
  have da : dictAt X.w D (putV xs k b v) h' := ⟨_, pairX_put rv rp, o, es, ep, ho, h2, h3, h4⟩
  exact d_write (ob := .ext (dictAt X.w D (putV xs k b v))) I (by rw [hat]; exact True.intro) hs ⟨o, ho⟩ ⟨da, ⟨o, ho⟩, fun _ _ x k => dictAt_st x k⟩
def tDcN (wd : World) (src : TI) (g : TG) (tt : TT) (tk tv : TE) (vs : List Nat) : TE := fun τ H Q => src τ H fun J H1 => ∀ D, H1 D = none → (D == sysModules) = false → ∃ W : Nat → Nat → Hp → Prop, (∃ n, W 0 n (upd H1 D (.ext (dictAt wd D [])))) ∧ ∀ i n H, W i n H →
  (J.stop i H ∧ Q (.ref D) H) ∨ (J.go i H ∧ ∃ Nx : Hp → Prop, (∀ H', Nx H' → ∃ n', n' < n ∧ W (i + 1) n' H') ∧ ∀ x H', J.yld i H x H' → g x (wipe τ vs) H' fun τ2 H2 => wipe τ2 vs = wipe τ vs ∧ tt τ2 H2 fun b H3 =>
    if b = true then tk τ2 H3 fun y H4 => tv τ2 H4 fun z H5 => ∃ xs k a, y = .ref a ∧ DN wd H5 D xs ∧ H5 D = some (.ext (dictAt wd D xs)) ∧ KyH H5 k (.ref a) ∧ k.depth ≤ 8 ∧ Nx (upd H5 D (.ext (dictAt wd D (putV xs k a z)))) else Nx H3)
set_option maxHeartbeats 8000000 in
theorem pe_dcN {kx vx tg iter : Expr} {ifs : List Expr} {scope : Scope} {own : List (Str × Nat)} {pos : Pos} {src : TI} {g : TG} {tt : TT} {tk tv : TE} (hu : X.A.units + 65 < cLine) (hc : X.calm = true) (hN : X.N.Nodup) (hi : PI X tg iter src) (ok : BlkOk X.N X.env.scope scope own)
    (hg : ∀ (s : Shared) (H : Hp) (C : Addr) (cl : List (Str × Addr)) (fp : List Addr), PG (X.blk s H scope (compEnvC scope cl C X.env) fp) tg g) (ht : ∀ (s : Shared) (H : Hp) (C : Addr) (cl : List (Str × Addr)) (fp : List Addr), PTs (X.blk s H scope (compEnvC scope cl C X.env) fp) ifs tt)
    (hk : ∀ (s : Shared) (H : Hp) (C : Addr) (cl : List (Str × Addr)) (fp : List Addr), PE (X.blk s H scope (compEnvC scope cl C X.env) fp) kx tk) (hv : ∀ (s : Shared) (H : Hp) (C : Addr) (cl : List (Str × Addr)) (fp : List Addr), PE (X.blk s H scope (compEnvC scope cl C X.env) fp) vx tv)
    (hs : ∀ x, foldedSetIterable iter X.env x = pure x := by intro _; rfl) : PE X (.DictComp kx vx [⟨tg, iter, ifs, 0⟩] scope pos) (tDcN X.w src g tt tk tv (own.map (·.2))) := by
  refine ⟨fun pn s τ H Q I h => ?_⟩
  rw [arm_eval_DictComp]
  have fr : ∀ y ∈ scope.names, y.2 = .free → ∃ c, X.env.cells.lookup y.1 = some c := fun y hy e => (ok.free y hy e).elim (fun k => I.ok.has _ (.inl k)) fun k => I.ok.has _ (.inr k)
  refine wpAny_comprehension_free rfl hs (closure_ok fr) ok.kind (fun y hy e => by rw [ok.uniq y hy, e]) (thn (hi.run pn s τ H _ I h) fun xv s1 hx => thn hx fun itv s2 h2 => ?_)
  obtain ⟨it, fp, tn, J, Ha, e, Ia, T, sta, fa, q⟩ := h2
  subst e
  refine wpAny_newObj_type (newEnv_comp ?_)
  have big : (s2.heap.objs.size == sysModules) = false := beq_eq_false_iff_ne.mpr (Ne.symm (Nat.ne_of_lt Ia.big))
  generalize hD : s2.heap.objs.size = D at big
  have nD : Ha D = none := Ia.hok.fresh (Nat.le_of_eq hD)
  obtain ⟨W, ⟨n0, w0⟩, turn⟩ := q D nD big
  generalize hsb : ({ s2 with heap := s2.heap.push { cls := .type "dict", data := .dict #[] } } : Shared) = sb
  generalize hHb : upd Ha D (.ext (dictAt X.w D [])) = Hb at w0
  have hb : sb.heap = s2.heap.push { cls := .type "dict", data := .dict #[] } := by rw [← hsb]
  have Ib : Inv X pn τ Hb sb := by
    rw [← hsb, ← hHb]
    refine Ia.laid (t' := s2.toks) (fun _ _ e => Heap.get?_push_of_some _ e) (Nat.le_of_eq hD) ?_
    rw [← hD]
    exact ⟨⟨[], .nil, _, #[], 0, Heap.get?_push_size _ rfl, ⟨rfl, rfl, rfl⟩, rfl, rfl⟩, ⟨_, Heap.get?_push_size _ rfl⟩, fun _ _ x k => dictAt_st x k⟩
  have fb : ∀ b ∈ fp, FpOk X pn Hb b ∧ b < sb.heap.objs.size := fun b hb' => by
    obtain ⟨o, e, _⟩ := T.obj _ _ sta b hb'
    have lt := Heap.lt_size e
    refine ⟨⟨?_, (fa b hb').2⟩, by rw [hb, Heap.size_push]; exact Nat.lt_succ_of_lt lt⟩
    rw [← hHb, upd_ne (by rw [← hD]; exact Nat.ne_of_lt lt)]
    exact (fa b hb').1
  have stb : tn 0 sb.heap := T.keep _ _ _ sta fun b _ o e => by rw [hb]; exact Heap.get?_push_of_some _ e
  have Ic := block_start Ib ok hN fb
  have pg := hg sb Hb sb.heap.objs.size (cellsFrom (sb.heap.objs.size + 1) scope.names (cloFrom X.env.cells scope.names [])) fp
  have pt := ht sb Hb sb.heap.objs.size (cellsFrom (sb.heap.objs.size + 1) scope.names (cloFrom X.env.cells scope.names [])) fp
  have pk := hk sb Hb sb.heap.objs.size (cellsFrom (sb.heap.objs.size + 1) scope.names (cloFrom X.env.cells scope.names [])) fp
  have pv := hv sb Hb sb.heap.objs.size (cellsFrom (sb.heap.objs.size + 1) scope.names (cloFrom X.env.cells scope.names [])) fp
  have nfp : ∀ b ∈ fp, Hb b = none := fun b hb' => (fb b hb').1.1
  show codeAny _ _ (.compStart (.DictComp kx vx [⟨tg, iter, ifs, 0⟩] scope pos) 0 (.ref it) (.ref D) (compEnvC scope (cellsFrom (sb.heap.objs.size + 1) scope.names (cloFrom X.env.cells scope.names [])) sb.heap.objs.size X.env)) (compPost (model X.prog X.w) X.A X.xe none (EP X pn τ Q) (.ref D) sb.heap.objs.size) { sb with heap := pushCells (sb.heap.push { cls := .type "dict", data := .dict #[] }) scope.names }
  generalize hen : compEnvC scope (cellsFrom (sb.heap.objs.size + 1) scope.names (cloFrom X.env.cells scope.names [])) sb.heap.objs.size X.env = en at Ic pg pt pk pv ⊢
  have enL : en.locals = sb.heap.objs.size := by subst hen; rfl
  generalize hsc : ({ sb with heap := pushCells (sb.heap.push { cls := .type "dict", data := .dict #[] }) scope.names } : Shared) = sc at Ic ⊢
  have stc : tn 0 sc.heap := T.keep _ _ _ stb fun b _ o e => by rw [← hsc]; exact pushCells_keeps _ _ _ _ (Heap.get?_push_of_some _ e)
  have still : ∀ {τ' : L2.St} {H' : Hp} {s' : Shared}, Inv (X.blk sb Hb scope en fp) [] τ' H' s' → (∀ b ∈ fp, H' b = none) → ∀ b ∈ fp, FpOk (X.blk sb Hb scope en fp) [] H' b := fun {τ' H' s'} I' hn b hb' =>
    ⟨hn b hb', (I'.ok.exf b hb').1, I'.ok.exfs b hb', .inl hb', fun x c e => (I'.ok.exf b hb').2 x c e, fun p hp => absurd (show p ∈ ([] : List (Addr × Obj)) ++ [] from hp) (by simp)⟩
  have go : codeAny (model X.prog X.w) X.A (.compLoop (.DictComp kx vx [⟨tg, iter, ifs, 0⟩] scope pos) 0 (.ref it) (.ref D) en) (compPost (model X.prog X.w) X.A X.xe none (EP X pn τ Q) (.ref D) sb.heap.objs.size) sc := by
    refine compLoop_anyD (fun n s' => ∃ i H', Inv (X.blk sb Hb scope en fp) [] (wipe τ (own.map (·.2))) H' s' ∧ tn i s'.heap ∧ (∀ b ∈ fp, H' b = none) ∧ W i n H') ?_ n0 ⟨0, Hb, Ic, stc, nfp, w0⟩
    rintro n sd ⟨i, Hd, Id, std, nd, wd⟩
    rcases turn i n Hd wd with ⟨stop, qq⟩ | ⟨more, Nx, hNx, step⟩
    · refine thnF (T.done (X.blk sb Hb scope en fp) rfl rfl rfl hc i [] sd _ Hd (fun _ _ => False) Id (still Id nd) std stop) fun r se ⟨hr, Ie⟩ => ?_
      subst hr
      have If : Inv X pn τ Hd se := Ib.call' (ch := fp) Ie.os Ie.base Ie.hok Ie.bare fun b hb' => ⟨(fb b hb').1.2.2.2.1, (fb b hb').1.2.1, (fb b hb').1.2.2.2.2.1, (fb b hb').1.2.2.2.2.2⟩
      have nC : Hd sb.heap.objs.size = none := by have z : Hd en.locals = none := Ie.free; rw [enL] at z; exact z
      obtain ⟨mm, hn, _⟩ := Ie.loc
      have hn : se.heap.Ns en.locals mm := hn
      rw [enL] at hn
      obtain ⟨f0, f1, f2, f3, f4, f5⟩ := Ib.fpOk (Nat.le_refl _) nC
      exact ⟨mm, hn, fun h'' sm => ⟨.ref D, Hd, If.turned (t' := se.toks) (fun b o hb' e => (sm.2 b hb').trans e) f0 f1 f3 f4 f5, rfl, qq⟩⟩
    · refine thnF (T.item (X.blk sb Hb scope en fp) rfl rfl rfl hc i [] sd _ Hd (fun _ _ => False) Id (still Id nd) std more) fun r se ⟨u, hr, he⟩ => ?_
      subst hr
      refine thnF he fun _ sf ⟨x, Hf, If, rf, yf, stf, nf⟩ => ?_
      refine thnF (pg.run _ sf _ Hf x u _ (If.pinned (still If nf) (T.obj _ _ stf)) rf (step x Hf yf)) fun _ sg ⟨τg, Hg, Ig, hwg, qg⟩ => ?_
      refine thnF (pt.run _ sg τg Hg _ Ig qg) fun b sh ⟨Hh, Ih, qh⟩ => ?_
      have back : ∀ {s' : Shared} {H' : Hp}, Inv (X.blk sb Hb scope en fp) ([] ++ pinsAt fp sf.heap) τg H' s' → Nx H' → ∃ m, m < n ∧ ∃ i H', Inv (X.blk sb Hb scope en fp) [] (wipe τ (own.map (·.2))) H' s' ∧ tn i s'.heap ∧ (∀ b ∈ fp, H' b = none) ∧ W i m H' := fun {s' H'} I' nx => by
        obtain ⟨m', hm, w'⟩ := hNx H' nx
        have held : ∀ b ∈ fp, ∀ o, sf.heap.get? b = some o → s'.heap.get? b = some o ∧ H' b = none := fun b hb' o e => let z := I'.pin (b, o) (List.mem_append_right _ (List.mem_append_right _ (mem_pinsAt hb' e))); ⟨z.1, z.2.1⟩
        refine ⟨m', hm, i + 1, H', (I'.unpinned (pins := [])).weak (by rw [← hwg, wipe_length]) (fun j v e => ?_), T.keep _ _ _ stf fun b hb' o e => (held b hb' o e).1, fun b hb' => ?_, w'⟩
        · rw [← hwg] at e; exact (wipe_some e).1
        · obtain ⟨o, e, _⟩ := T.obj _ _ stf b hb'; exact (held b hb' o e).2
      cases b with
      | false => simp only [Bool.false_eq_true, if_false] at qh ⊢; exact back Ih qh
      | true =>
        simp only [if_true] at qh ⊢
        refine thnF (pk.run _ sh τg Hh _ Ih qh) fun z si ⟨yk, Hi, Ii, ri, qi⟩ => ?_
        refine thnF (pv.run _ si τg Hi _ Ii qi) fun z2 sj ⟨yv, Hj, Ij, rj, xs, k, a, ek, dn, hat, ky, k8, nx⟩ => ?_
        subst ek
        cases ri
        exact set_raw (X := X.blk sb Hb scope en fp) hu Ij dn hat ky k8 rj fun s' I' => back I' nx
  exact codeAny_compStart_dict go (T.self X.A 0 _ _ _ stc go)
end
end Mn

set_option Elab.async false
set_option linter.all false
set_option maxRecDepth 100000
set_option maxHeartbeats 4000000
set_option autoImplicit false
namespace Mn
open PySem PySem.Spec PyProof.Rows L2
variable [Tbs]
/-! t < u, tuples of whole numbers -/
end Mn

set_option Elab.async false
set_option linter.all false
set_option maxRecDepth 100000
set_option maxHeartbeats 4000000
set_option autoImplicit false
namespace Mn
open PySem PySem.Spec PyProof.Rows L2
variable [Tbs]
/-! xs * k, the new list to change -/
end Mn

set_option Elab.async false
set_option linter.all false
set_option maxRecDepth 100000
set_option maxHeartbeats 4000000
set_option autoImplicit false
namespace Mn
open PySem PySem.Spec PyProof.Rows L2 GenW
variable [Tbs]
/-! a for within a generator -/
section
variable {M : Model} {A : Around} {R : GenEnd} {Y : Protocol} {n : Nat} {s₀ : Shared} {c : Code} {fs : List Frame} {s : Shared} {env : Env} {K : Flow → Sem PySem.Fin} {H : Value → Sem PySem.Fin} {gd : Bool → Bool} {lv : List Value → List Value}
end
section
variable {prog : Program} {w : World} {A : Around} {R : GenEnd} {Y : Protocol} {n : Nat} {s₀ : Shared} {fs : List Frame} {s : Shared} {env : Env}
end
section
variable {X : Cx}
end
end Mn

set_option Elab.async false
set_option linter.all false
set_option maxRecDepth 100000
set_option maxHeartbeats 4000000
set_option autoImplicit false
namespace Mn
open PySem PySem.Spec PyProof.Rows L2 GenW
variable [Tbs]
/-! a def's promise, whatever is under way around the call -/
structure FnF (P : Program) (w : World) (K : PySem.W.Frag) (mg : Str → Option Value) (base : Heap) (CX : CXT) (k : Nat) (f : Addr) (fd : FuncData) (ps : List Str) (sp : Sp) : Prop where
  len : ∀ vs H Q E, sp vs H Q E → vs.length = ps.length
  run : ∀ (A : Around) (outer : List Env) (s : Shared) (H : Hp) (args : Args) (us : List Value) (vs : List V) (Q : VK) (E : XK), Room k A → Env0 P w K mg base A outer s H →
    BindsTo s fd args (ps.zip us) → Vals vs us → sp vs H Q E → codeAny (model P w) A (.call (.ref f) args) (CR CX outer P w H s Q E) s
section
variable {P : Program} {w : World} {K : PySem.W.Frag} {mg : Str → Option Value} {base : Heap} {CX : CXT}
theorem FnF.toG {k : Nat} {f : Addr} {fd : FuncData} {ps : List Str} {sp : Sp} (F : FnF P w K mg base CX k f fd ps sp) : FnG P w K mg base CX k f fd ps sp :=
  ⟨F.len, fun A outer s H args us vs Q E room _ => F.run A outer s H args us vs Q E room⟩
end
abbrev FnDF (P : Program) (w : World) (K : PySem.W.Frag) (mg : Str → Option Value) (base : Heap) (k : Nat) (f : Addr) (fd : FuncData) (ps : List Str) (d : DSp) : Prop := FnF P w K mg base CX0 k f fd ps (lfSp ⟨K, w, Tbs.T⟩ d)
def ClF (P : Program) (w : World) (K : PySem.W.Frag) (mg : Str → Option Value) (base : Heap) (x : Str) (k : Nat) (ps : List Str) (d : DSp) : Prop :=
  ∃ f fd, mg x = some (.ref f) ∧ PySem.W.keepIn K (.ref f) = true ∧ Binds K fd ps [] ∧ FnDF P w K mg base k f fd ps d
theorem ClF.cl {P : Program} {w : World} {K : PySem.W.Frag} {mg : Str → Option Value} {base : Heap} {x : Str} {k : Nat} {ps : List Str} {d : DSp} (h : ClF P w K mg base x k ps d) : Cl P w K mg base x k ps d := by
  obtain ⟨f, fd, h1, h2, h3, F⟩ := h
  exact ⟨f, fd, h1, h2, h3, F.toG⟩
section
variable {X : Cx} {k : Nat} {f : Addr} {fd : FuncData} {ps : List Str} {d : DSp} {x : Str} {p pos : Pos} {e : Expr} {es : List Expr} {tr : DA}
end
/-! a generator def that runs a statement and hands out the items of a sequence -/
section
variable {X : Cx} {k : Nat} {ps : List Str} {d : DSp} {x nm : Str} {p p' pos pos' : Pos} {e : Expr} {es : List Expr} {tr : DA}
end
end Mn

set_option Elab.async false
set_option linter.all false
set_option maxRecDepth 100000
set_option maxHeartbeats 4000000
set_option autoImplicit false
namespace Mn
open PySem PySem.Spec PyProof.Rows L2
variable [Tbs]
/-! sum(t), t a tuple -/
end Mn

set_option Elab.async false
set_option linter.all false
set_option maxRecDepth 100000
set_option maxHeartbeats 4000000
set_option autoImplicit false
namespace Mn
open PySem PySem.Spec PyProof.Rows L2
variable [Tbs]
section
variable {X : Cx}
/-! len(set(t)), t a tuple of tuples of ints -/
end
end Mn

set_option Elab.async false
set_option linter.all false
set_option maxRecDepth 100000
set_option maxHeartbeats 4000000
set_option autoImplicit false
namespace Mn
open PySem PySem.Spec PyProof.Rows L2
variable [Tbs]
section
variable {X : Cx}
/-! sorted(set(t)), t a tuple of ints -/
end
end Mn

set_option Elab.async false
set_option linter.all false
set_option maxRecDepth 100000
set_option maxHeartbeats 4000000
set_option autoImplicit false
namespace Mn
open PySem PySem.Spec PyProof.Rows L2
variable [Tbs]
/-! xs.count(t) of a list of texts -/
section
variable {X : Cx}
end
end Mn

set_option Elab.async false
set_option linter.all false
set_option maxHeartbeats 4000000
set_option autoImplicit false
set_option maxRecDepth 100000
namespace Mn
open PySem PySem.Spec PyProof.Rows L2
variable [Tbs]
def topS (i : Nat) : Stmt := PySem.Challenge.pw_rolluplevels_k19_whole_answers_of_cells.main.body.getD i (.Pass ⟨0, 0, 0, 0⟩)
abbrev st_is_integer : Stmt := topS 12
theorem sc_is_integer : FnScope ["thing"] ["thing"] (defScope st_is_integer) := ⟨rfl, rfl, rfl, by decide +kernel, rfl, by decide +kernel, by decide +kernel⟩
theorem ok_is_integer {P : Program} {w : World} {K : PySem.W.Frag} {mg : Str → Option Value} {base : Heap} (B : Bts mg) (h : ∃ f fd, Df K mg "is_integer" st_is_integer ["thing"] f fd) : Cl P w K mg base "is_integer" 1 ["thing"] s_is_integer :=
  fnC h sc_is_integer l_is_integer v_is_integer fun f cdv A outer s H E gd room =>
    (pdss_one (pds_ret (pd_and (pd_isi (T := "int") (pd_var (pv 0)) (by rfl) B.isi (by rfl) B.int (by decide +kernel) (by decide)) (pd_one (pd_not (pd_isi (T := "bool") (pd_var (pv 0)) (by rfl) B.isi (by rfl) B.bool (by decide +kernel) (by decide)))))))

abbrev st_is_between : Stmt := topS 13
theorem sc_is_between : FnScope ["thing", "low", "high"] ["thing", "low", "high"] (defScope st_is_between) := ⟨rfl, rfl, rfl, by decide +kernel, rfl, by decide +kernel, by decide +kernel⟩
theorem ok_is_between {P : Program} {w : World} {K : PySem.W.Frag} {mg : Str → Option Value} {base : Heap} (B : Bts mg) (h : ∃ f fd, Df K mg "is_between" st_is_between ["thing", "low", "high"] f fd) (C_is_integer : Cl P w K mg base "is_integer" 1 ["thing"] s_is_integer) : Cl P w K mg base "is_between" 2 ["thing", "low", "high"] s_is_between :=
  fnC h sc_is_between l_is_between v_is_between fun f cdv A outer s H E gd room =>
    (pdss_one (pds_ret (pd_and (pd_callC C_is_integer (room.mono (by decide)) gd (by rfl) (pda_cons (pd_var (pv 0)) pda_nil)) (pd_one (pd_chain op_le op_le (c2_cmp _) (c2_cmp _) (pd_var (pv 1)) (pd_var (pv 0)) (pd_var (pv 2)) (by with_unfolding_all rfl))))))

abbrev st_groups_behind : Stmt := topS 14
theorem sc_groups_behind : FnScope ["step", "groups", "found", "one"] ["step", "groups"] (defScope st_groups_behind) := ⟨rfl, rfl, rfl, by decide +kernel, rfl, by decide +kernel, by decide +kernel⟩
theorem ok_groups_behind {P : Program} {w : World} {K : PySem.W.Frag} {mg : Str → Option Value} {base : Heap} (B : Bts mg) (h : ∃ f fd, Df K mg "groups_behind" st_groups_behind ["step", "groups"] f fd) (C_is_between : Cl P w K mg base "is_between" 2 ["thing", "low", "high"] s_is_between) : Cl P w K mg base "groups_behind" 3 ["step", "groups"] s_groups_behind :=
  fnC h sc_groups_behind l_groups_behind v_groups_behind fun f cdv A outer s H E gd room =>
    (pdss_cons (pds_if (pdt_w (pdw_or (pdt_not (pdt_val (pd_isi (T := "tuple") (pd_var (pv 0)) (by rfl) B.isi (by rfl) B.tuple (by decide +kernel) (by decide)))) (pdw_or1 (pdt_cmp (op_neA room.units) c2_ne (pd_callB callR_len cl_len (by rfl) B.len (by decide +kernel) (pda_cons (pd_var (pv 0)) pda_nil)) (pd_var (pv 1)) (nomark _))))) (pdss_one (pds_ret pd_int)) pdss_nil)
    (pdss_cons (pds_if (pdt_not (pdt_val (pd_callB (cr_all rfl) cl_all (by rfl) B.all (by decide +kernel) (pda_cons (pd_lc (own := [("one", 3)]) (dg := (gV 3)) (tt := dYes) (te := (dCB s_is_between (dCons (dVar 3) (dCons (dC (.int 0)) (dCons (dOp aSub (dVar 1) (dC (.int 2))) dNil))))) rfl sc_groups_behind.nd  (pdi_seq (pd_var (pv 0))) (blkOk_by (own := [("one", 3)]) (by rfl)) (gc_name (vs := [3]) (i := 3) (by decide)) (fun _ _ _ _ _ => (pg_name (i := 3) sc_groups_behind.nd rfl (by first | exact Or.inl rfl | exact Or.inr rfl))) (fun _ _ _ _ _ => pdts_nil) (fun _ _ _ _ _ => (pd_callC C_is_between (room.mono (by decide)) gd (by rfl) (pda_cons (pd_var (pv 3)) (pda_cons pd_int (pda_cons (pd_op op_sub c2_sub (pd_var (pv 1)) pd_int) pda_nil)))))) pda_nil)))) (pdss_one (pds_ret pd_int)) pdss_nil)
    (pdss_cons (pds_set (i := 2) sc_groups_behind.nd rfl (by first | exact Or.inl rfl | exact Or.inr rfl) (pd_lenSet (by rfl) B.len (by rfl) B.set (pd_var (pv 0))))
    (pdss_one (pds_ret (pd_if (pdt_cmp (op_eqA room.units) c2_eq (pd_callB (callR_max rfl room.units) cl_max (by rfl) B.max (by decide +kernel) (pda_cons (pd_var (pv 0)) pda_nil)) (pd_op op_sub c2_sub (pd_var (pv 2)) pd_int) (nomark _)) (pd_var (pv 2)) pd_int))))))

abbrev st_is_attribute : Stmt := topS 15
theorem sc_is_attribute : FnScope ["thing", "step", "groups", "steps"] ["thing"] (defScope st_is_attribute) := ⟨rfl, rfl, rfl, by decide +kernel, rfl, by decide +kernel, by decide +kernel⟩
theorem ok_is_attribute {P : Program} {w : World} {K : PySem.W.Frag} {mg : Str → Option Value} {base : Heap} (B : Bts mg) (h : ∃ f fd, Df K mg "is_attribute" st_is_attribute ["thing"] f fd) (c_MOST_VALUES : Ci mg "MOST_VALUES" 6) (c_MOST_STEPS : Ci mg "MOST_STEPS" 3) (C_groups_behind : Cl P w K mg base "groups_behind" 3 ["step", "groups"] s_groups_behind) (C_is_between : Cl P w K mg base "is_between" 2 ["thing", "low", "high"] s_is_between) : Cl P w K mg base "is_attribute" 4 ["thing"] s_is_attribute :=
  fnC h sc_is_attribute l_is_attribute v_is_attribute fun f cdv A outer s H E gd room =>
    (pdss_cons (pds_if (pdt_w (pdw_or (pdt_not (pdt_val (pd_isi (T := "tuple") (pd_var (pv 0)) (by rfl) B.isi (by rfl) B.tuple (by decide +kernel) (by decide)))) (pdw_or (pdt_cmp (op_neA room.units) c2_ne (pd_callB callR_len cl_len (by rfl) B.len (by decide +kernel) (pda_cons (pd_var (pv 0)) pda_nil)) pd_int (nomark _)) (pdw_or1 (pdt_not (pdt_val (pd_callC C_is_between (room.mono (by decide)) gd (by rfl) (pda_cons (pd_ix room.u65 (pd_var (pv 0)) pd_int) (pda_cons pd_int (pda_cons (pd_globI c_MOST_VALUES (by rfl)) pda_nil)))))))))) (pdss_one (pds_ret pd_bl)) pdss_nil)
    (pdss_cons (pds_asg (pd_var (pv 0)) (pg_tup rfl (pgs_cons (pg_name (i := 2) sc_is_attribute.nd rfl (by first | exact Or.inl rfl | exact Or.inr rfl)) (pgs_cons (pg_name (i := 3) sc_is_attribute.nd rfl (by first | exact Or.inl rfl | exact Or.inr rfl)) pgs_nil))) (gc_tup (gcs_cons (gc_name (vs := [2, 3]) (i := 2) (by decide)) (gcs_cons (gc_name (vs := [2, 3]) (i := 3) (by decide)) (gcs_nil (vs := [2, 3]))))))
    (pdss_cons (pds_if (pdt_w (pdw_or (pdt_not (pdt_val (pd_isi (T := "tuple") (pd_var (pv 3)) (by rfl) B.isi (by rfl) B.tuple (by decide +kernel) (by decide)))) (pdw_or1 (pdt_cmp op_gt (c2_cmp _) (pd_callB callR_len cl_len (by rfl) B.len (by decide +kernel) (pda_cons (pd_var (pv 3)) pda_nil)) (pd_globI c_MOST_STEPS (by rfl)) (nomark _))))) (pdss_one (pds_ret pd_bl)) pdss_nil)
    (pdss_cons (pds_for PassesOwn.never rfl (pdi_seq (pd_var (pv 3))) (pg_name (i := 1) sc_is_attribute.nd rfl (by first | exact Or.inl rfl | exact Or.inr rfl)) (gc_name (vs := [1]) (i := 1) (by decide)) (pdss_cons (pds_set (i := 2) sc_is_attribute.nd rfl (by first | exact Or.inl rfl | exact Or.inr rfl) (pd_callC C_groups_behind (room.mono (by decide)) gd (by rfl) (pda_cons (pd_var (pv 1)) (pda_cons (pd_var (pv 2)) pda_nil))))
    (pdss_one (pds_if (pdt_cmp (op_eqA room.units) c2_eq (pd_var (pv 2)) pd_int (nomark _)) (pdss_one (pds_ret pd_bl)) pdss_nil))))
    (pdss_one (pds_ret pd_bl))))))

abbrev st_product_of : Stmt := topS 16
theorem sc_product_of : FnScope ["numbers", "found", "number"] ["numbers"] (defScope st_product_of) := ⟨rfl, rfl, rfl, by decide +kernel, rfl, by decide +kernel, by decide +kernel⟩
theorem ok_product_of {P : Program} {w : World} {K : PySem.W.Frag} {mg : Str → Option Value} {base : Heap} (B : Bts mg) (h : ∃ f fd, Df K mg "product_of" st_product_of ["numbers"] f fd) : Cl P w K mg base "product_of" 1 ["numbers"] s_product_of :=
  fnC h sc_product_of l_product_of v_product_of fun f cdv A outer s H E gd room =>
    (pdss_cons (pds_set (i := 1) sc_product_of.nd rfl (by first | exact Or.inl rfl | exact Or.inr rfl) pd_int)
    (pdss_cons (pds_for PassesOwn.never rfl (pdi_seq (pd_var (pv 0))) (pg_name (i := 2) sc_product_of.nd rfl (by first | exact Or.inl rfl | exact Or.inr rfl)) (gc_name (vs := [2]) (i := 2) (by decide)) (pdss_one (pds_set (i := 1) sc_product_of.nd rfl (by first | exact Or.inl rfl | exact Or.inr rfl) (pd_op op_mulA c2_mulA (pd_var (pv 1)) (pd_var (pv 2))))))
    (pdss_one (pds_ret (pd_var (pv 1))))))

abbrev st_is_scheme : Stmt := topS 17
theorem sc_is_scheme : FnScope ["thing", "attribute"] ["thing"] (defScope st_is_scheme) := ⟨rfl, rfl, rfl, by decide +kernel, rfl, by decide +kernel, by decide +kernel⟩
theorem ok_is_scheme {P : Program} {w : World} {K : PySem.W.Frag} {mg : Str → Option Value} {base : Heap} (B : Bts mg) (h : ∃ f fd, Df K mg "is_scheme" st_is_scheme ["thing"] f fd) (c_MOST_ATTRIBUTES : Ci mg "MOST_ATTRIBUTES" 3) (c_MOST_CELLS : Ci mg "MOST_CELLS" 60) (C_product_of : Cl P w K mg base "product_of" 1 ["numbers"] s_product_of) (C_is_attribute : Cl P w K mg base "is_attribute" 4 ["thing"] s_is_attribute) : Cl P w K mg base "is_scheme" 5 ["thing"] s_is_scheme :=
  fnC h sc_is_scheme l_is_scheme v_is_scheme fun f cdv A outer s H E gd room =>
    (pdss_cons (pds_if (pdt_w (pdw_or (pdt_not (pdt_val (pd_isi (T := "tuple") (pd_var (pv 0)) (by rfl) B.isi (by rfl) B.tuple (by decide +kernel) (by decide)))) (pdw_or1 (pdt_not (pdt_chain op_le op_le (c2_cmp _) (c2_cmp _) pd_int (pd_callB callR_len cl_len (by rfl) B.len (by decide +kernel) (pda_cons (pd_var (pv 0)) pda_nil)) (pd_globI c_MOST_ATTRIBUTES (by rfl)) (by with_unfolding_all rfl)))))) (pdss_one (pds_ret pd_bl)) pdss_nil)
    (pdss_cons (pds_if (pdt_not (pdt_val (pd_callB (cr_all rfl) cl_all (by rfl) B.all (by decide +kernel) (pda_cons (pd_lc (own := [("attribute", 1)]) (dg := (gV 1)) (tt := dYes) (te := (dCB s_is_attribute (dCons (dVar 1) dNil))) rfl sc_is_scheme.nd  (pdi_seq (pd_var (pv 0))) (blkOk_by (own := [("attribute", 1)]) (by rfl)) (gc_name (vs := [1]) (i := 1) (by decide)) (fun _ _ _ _ _ => (pg_name (i := 1) sc_is_scheme.nd rfl (by first | exact Or.inl rfl | exact Or.inr rfl))) (fun _ _ _ _ _ => pdts_nil) (fun _ _ _ _ _ => (pd_callC C_is_attribute (room.mono (by decide)) gd (by rfl) (pda_cons (pd_var (pv 1)) pda_nil)))) pda_nil)))) (pdss_one (pds_ret pd_bl)) pdss_nil)
    (pdss_one (pds_ret (pd_cmp op_le (c2_cmp _) (pd_callC C_product_of (room.mono (by decide)) gd (by rfl) (pda_cons (pd_lc (own := [("attribute", 1)]) (dg := (gV 1)) (tt := dYes) (te := (dOp aIx (dVar 1) (dC (.int 0)))) rfl sc_is_scheme.nd  (pdi_seq (pd_var (pv 0))) (blkOk_by (own := [("attribute", 1)]) (by rfl)) (gc_name (vs := [1]) (i := 1) (by decide)) (fun _ _ _ _ _ => (pg_name (i := 1) sc_is_scheme.nd rfl (by first | exact Or.inl rfl | exact Or.inr rfl))) (fun _ _ _ _ _ => pdts_nil) (fun _ _ _ _ _ => (pd_ix room.u65 (pd_var (pv 1)) pd_int))) pda_nil)) (pd_globI c_MOST_CELLS (by rfl)) (nomark _))))))

abbrev st_is_rollup : Stmt := topS 18
theorem sc_is_rollup : FnScope ["scheme", "thing", "attribute", "level"] ["scheme", "thing"] (defScope st_is_rollup) := ⟨rfl, rfl, rfl, by decide +kernel, rfl, by decide +kernel, by decide +kernel⟩
theorem ok_is_rollup {P : Program} {w : World} {K : PySem.W.Frag} {mg : Str → Option Value} {base : Heap} (B : Bts mg) (h : ∃ f fd, Df K mg "is_rollup" st_is_rollup ["scheme", "thing"] f fd) (C_is_between : Cl P w K mg base "is_between" 2 ["thing", "low", "high"] s_is_between) : Cl P w K mg base "is_rollup" 3 ["scheme", "thing"] s_is_rollup :=
  fnC h sc_is_rollup l_is_rollup v_is_rollup fun f cdv A outer s H E gd room =>
    (pdss_cons (pds_if (pdt_w (pdw_or (pdt_not (pdt_val (pd_isi (T := "tuple") (pd_var (pv 1)) (by rfl) B.isi (by rfl) B.tuple (by decide +kernel) (by decide)))) (pdw_or1 (pdt_cmp (op_neA room.units) c2_ne (pd_callB callR_len cl_len (by rfl) B.len (by decide +kernel) (pda_cons (pd_var (pv 1)) pda_nil)) (pd_callB callR_len cl_len (by rfl) B.len (by decide +kernel) (pda_cons (pd_var (pv 0)) pda_nil)) (nomark _))))) (pdss_one (pds_ret pd_bl)) pdss_nil)
    (pdss_one (pds_ret (pd_callB (cr_all rfl) cl_all (by rfl) B.all (by decide +kernel) (pda_cons (pd_lc (own := [("attribute", 2), ("level", 3)]) (dg := (gT 2 (gC (gV 2) (gC (gV 3) gN)))) (tt := dYes) (te := (dCB s_is_between (dCons (dVar 3) (dCons (dC (.int 0)) (dCons (dCB aLen (dCons (dOp aIx (dVar 2) (dC (.int 1))) dNil)) dNil))))) rfl sc_is_rollup.nd  (pdi_zip2 (pd_var (pv 0)) (pd_var (pv 1)) (by rfl) B.zip) (blkOk_by (own := [("attribute", 2), ("level", 3)]) (by rfl)) (gc_tup (gcs_cons (gc_name (vs := [2, 3]) (i := 2) (by decide)) (gcs_cons (gc_name (vs := [2, 3]) (i := 3) (by decide)) (gcs_nil (vs := [2, 3]))))) (fun _ _ _ _ _ => (pg_tup rfl (pgs_cons (pg_name (i := 2) sc_is_rollup.nd rfl (by first | exact Or.inl rfl | exact Or.inr rfl)) (pgs_cons (pg_name (i := 3) sc_is_rollup.nd rfl (by first | exact Or.inl rfl | exact Or.inr rfl)) pgs_nil)))) (fun _ _ _ _ _ => pdts_nil) (fun _ _ _ _ _ => (pd_callC C_is_between (room.mono (by decide)) gd (by rfl) (pda_cons (pd_var (pv 3)) (pda_cons pd_int (pda_cons (pd_callB callR_len cl_len (by rfl) B.len (by decide +kernel) (pda_cons (pd_ix room.u65 (pd_var (pv 2)) pd_int) pda_nil)) pda_nil)))))) pda_nil)))))

abbrev st_groups_at : Stmt := topS 19
theorem sc_groups_at : FnScope ["attribute", "level"] ["attribute", "level"] (defScope st_groups_at) := ⟨rfl, rfl, rfl, by decide +kernel, rfl, by decide +kernel, by decide +kernel⟩
theorem ok_groups_at {P : Program} {w : World} {K : PySem.W.Frag} {mg : Str → Option Value} {base : Heap} (B : Bts mg) (h : ∃ f fd, Df K mg "groups_at" st_groups_at ["attribute", "level"] f fd) : Cl P w K mg base "groups_at" 1 ["attribute", "level"] s_groups_at :=
  fnC h sc_groups_at l_groups_at v_groups_at fun f cdv A outer s H E gd room =>
    (pdss_one (pds_ret (pd_if (pdt_cmp (op_eqA room.units) c2_eq (pd_var (pv 1)) pd_int (nomark _)) (pd_ix room.u65 (pd_var (pv 0)) pd_int) (pd_op op_addA c2_add (pd_callB (callR_max rfl room.units) cl_max (by rfl) B.max (by decide +kernel) (pda_cons (pd_ix room.u65 (pd_ix room.u65 (pd_var (pv 0)) pd_int) (pd_op op_sub c2_sub (pd_var (pv 1)) pd_int)) pda_nil)) pd_int))))

abbrev st_group_above : Stmt := topS 20
theorem sc_group_above : FnScope ["attribute", "group", "low", "high", "step"] ["attribute", "group", "low", "high"] (defScope st_group_above) := ⟨rfl, rfl, rfl, by decide +kernel, rfl, by decide +kernel, by decide +kernel⟩
theorem ok_group_above {P : Program} {w : World} {K : PySem.W.Frag} {mg : Str → Option Value} {base : Heap} (B : Bts mg) (h : ∃ f fd, Df K mg "group_above" st_group_above ["attribute", "group", "low", "high"] f fd) : Cl P w K mg base "group_above" 1 ["attribute", "group", "low", "high"] s_group_above :=
  fnC h sc_group_above l_group_above v_group_above fun f cdv A outer s H E gd room =>
    (pdss_cons (pds_for PassesOwn.never rfl (pdi_seq (pd_slice (pd_ix room.u65 (pd_var (pv 0)) pd_int) (pdo_some (pd_var (pv 2))) (pdo_some (pd_var (pv 3))))) (pg_name (i := 4) sc_group_above.nd rfl (by first | exact Or.inl rfl | exact Or.inr rfl)) (gc_name (vs := [4]) (i := 4) (by decide)) (pdss_one (pds_set (i := 1) sc_group_above.nd rfl (by first | exact Or.inl rfl | exact Or.inr rfl) (pd_ix room.u65 (pd_var (pv 4)) (pd_var (pv 1))))))
    (pdss_one (pds_ret (pd_var (pv 1)))))

abbrev st_tuples_below : Stmt := topS 21
theorem sc_tuples_below : FnScope ["numbers", "found", "many", "row", "one"] ["numbers"] (defScope st_tuples_below) := ⟨rfl, rfl, rfl, by decide +kernel, rfl, by decide +kernel, by decide +kernel⟩
theorem ok_tuples_below {P : Program} {w : World} {K : PySem.W.Frag} {mg : Str → Option Value} {base : Heap} (B : Bts mg) (h : ∃ f fd, Df K mg "tuples_below" st_tuples_below ["numbers"] f fd) : Cl P w K mg base "tuples_below" 1 ["numbers"] s_tuples_below :=
  fnC h sc_tuples_below l_tuples_below v_tuples_below fun f cdv A outer s H E gd room =>
    (pdss_cons (pds_set (i := 1) sc_tuples_below.nd rfl (by first | exact Or.inl rfl | exact Or.inr rfl) (pd_lst (pda_cons (pd_tup pda_nil) pda_nil)))
    (pdss_cons (pds_for PassesOwn.never rfl (pdi_seq (pd_var (pv 0))) (pg_name (i := 2) sc_tuples_below.nd rfl (by first | exact Or.inl rfl | exact Or.inr rfl)) (gc_name (vs := [2]) (i := 2) (by decide)) (pdss_one (pds_setLc2 (i := 1) (own := [("row", 3), ("one", 4)]) (vs1 := [4]) (dg := (gV 3)) (tt := dYes) (src1 := (sRg1 (dVar 2))) (dg1 := (gV 4)) (tt1 := dYes) (te := (dTup (dStar (dVar 3) (dCons (dVar 4) dNil)))) rfl sc_tuples_below.nd rfl rfl (sw_true rfl rfl rfl (by decide +kernel)) (pdi_seq (pd_var (pv 1))) (blkOk_by (own := [("row", 3), ("one", 4)]) (by rfl)) (by decide) (gc_name (vs := [3, 4]) (i := 3) (by decide)) (gc_name (vs := [4]) (i := 4) (by decide)) (fun _ _ _ _ _ => (pg_name (i := 3) sc_tuples_below.nd rfl (by first | exact Or.inl rfl | exact Or.inr rfl))) (fun _ _ _ _ _ => pdts_nil) (fun _ _ _ _ _ => (pdi_rg1 (pd_var (pv 2)) (by rfl) B.range)) (fun _ _ _ _ _ => (pg_name (i := 4) sc_tuples_below.nd rfl (by first | exact Or.inl rfl | exact Or.inr rfl))) (fun _ _ _ _ _ => pdts_nil) (fun _ _ _ _ _ => (pd_tup (pda_star (pd_var (pv 3)) (pda_cons (pd_var (pv 4)) pda_nil)))))))
    (pdss_one (pds_ret (pd_var (pv 1))))))

abbrev st_sizes_at : Stmt := topS 22
theorem sc_sizes_at : FnScope ["scheme", "rollup", "attribute", "level"] ["scheme", "rollup"] (defScope st_sizes_at) := ⟨rfl, rfl, rfl, by decide +kernel, rfl, by decide +kernel, by decide +kernel⟩
theorem ok_sizes_at {P : Program} {w : World} {K : PySem.W.Frag} {mg : Str → Option Value} {base : Heap} (B : Bts mg) (h : ∃ f fd, Df K mg "sizes_at" st_sizes_at ["scheme", "rollup"] f fd) (C_groups_at : Cl P w K mg base "groups_at" 1 ["attribute", "level"] s_groups_at) : Cl P w K mg base "sizes_at" 2 ["scheme", "rollup"] s_sizes_at :=
  fnC h sc_sizes_at l_sizes_at v_sizes_at fun f cdv A outer s H E gd room =>
    (pdss_one (pds_ret (pd_lc (own := [("attribute", 2), ("level", 3)]) (dg := (gT 2 (gC (gV 2) (gC (gV 3) gN)))) (tt := dYes) (te := (dCB s_groups_at (dCons (dVar 2) (dCons (dVar 3) dNil)))) rfl sc_sizes_at.nd  (pdi_zip2 (pd_var (pv 0)) (pd_var (pv 1)) (by rfl) B.zip) (blkOk_by (own := [("attribute", 2), ("level", 3)]) (by rfl)) (gc_tup (gcs_cons (gc_name (vs := [2, 3]) (i := 2) (by decide)) (gcs_cons (gc_name (vs := [2, 3]) (i := 3) (by decide)) (gcs_nil (vs := [2, 3]))))) (fun _ _ _ _ _ => (pg_tup rfl (pgs_cons (pg_name (i := 2) sc_sizes_at.nd rfl (by first | exact Or.inl rfl | exact Or.inr rfl)) (pgs_cons (pg_name (i := 3) sc_sizes_at.nd rfl (by first | exact Or.inl rfl | exact Or.inr rfl)) pgs_nil)))) (fun _ _ _ _ _ => pdts_nil) (fun _ _ _ _ _ => (pd_callC C_groups_at (room.mono (by decide)) gd (by rfl) (pda_cons (pd_var (pv 2)) (pda_cons (pd_var (pv 3)) pda_nil)))))))

abbrev st_cells_of : Stmt := topS 23
theorem sc_cells_of : FnScope ["scheme", "rollup"] ["scheme", "rollup"] (defScope st_cells_of) := ⟨rfl, rfl, rfl, by decide +kernel, rfl, by decide +kernel, by decide +kernel⟩
theorem ok_cells_of {P : Program} {w : World} {K : PySem.W.Frag} {mg : Str → Option Value} {base : Heap} (B : Bts mg) (h : ∃ f fd, Df K mg "cells_of" st_cells_of ["scheme", "rollup"] f fd) (C_tuples_below : Cl P w K mg base "tuples_below" 1 ["numbers"] s_tuples_below) (C_sizes_at : Cl P w K mg base "sizes_at" 2 ["scheme", "rollup"] s_sizes_at) : Cl P w K mg base "cells_of" 3 ["scheme", "rollup"] s_cells_of :=
  fnC h sc_cells_of l_cells_of v_cells_of fun f cdv A outer s H E gd room =>
    (pdss_one (pds_ret (pd_callC C_tuples_below (room.mono (by decide)) gd (by rfl) (pda_cons (pd_callC C_sizes_at (room.mono (by decide)) gd (by rfl) (pda_cons (pd_var (pv 0)) (pda_cons (pd_var (pv 1)) pda_nil))) pda_nil))))

abbrev st_size_of : Stmt := topS 24
theorem sc_size_of : FnScope ["scheme", "rollup"] ["scheme", "rollup"] (defScope st_size_of) := ⟨rfl, rfl, rfl, by decide +kernel, rfl, by decide +kernel, by decide +kernel⟩
theorem ok_size_of {P : Program} {w : World} {K : PySem.W.Frag} {mg : Str → Option Value} {base : Heap} (B : Bts mg) (h : ∃ f fd, Df K mg "size_of" st_size_of ["scheme", "rollup"] f fd) (C_product_of : Cl P w K mg base "product_of" 1 ["numbers"] s_product_of) (C_sizes_at : Cl P w K mg base "sizes_at" 2 ["scheme", "rollup"] s_sizes_at) : Cl P w K mg base "size_of" 3 ["scheme", "rollup"] s_size_of :=
  fnC h sc_size_of l_size_of v_size_of fun f cdv A outer s H E gd room =>
    (pdss_one (pds_ret (pd_callC C_product_of (room.mono (by decide)) gd (by rfl) (pda_cons (pd_callC C_sizes_at (room.mono (by decide)) gd (by rfl) (pda_cons (pd_var (pv 0)) (pda_cons (pd_var (pv 1)) pda_nil))) pda_nil))))

abbrev st_finest : Stmt := topS 25
theorem sc_finest : FnScope ["scheme"] ["scheme"] (defScope st_finest) := ⟨rfl, rfl, rfl, by decide +kernel, rfl, by decide +kernel, by decide +kernel⟩
theorem ok_finest {P : Program} {w : World} {K : PySem.W.Frag} {mg : Str → Option Value} {base : Heap} (B : Bts mg) (h : ∃ f fd, Df K mg "finest" st_finest ["scheme"] f fd) : Cl P w K mg base "finest" 1 ["scheme"] s_finest :=
  fnC h sc_finest l_finest v_finest fun f cdv A outer s H E gd room =>
    (pdss_one (pds_ret (pd_op op_mulA c2_mulA (pd_tup (pda_cons pd_int pda_nil)) (pd_callB callR_len cl_len (by rfl) B.len (by decide +kernel) (pda_cons (pd_var (pv 0)) pda_nil)))))

abbrev st_are_fine : Stmt := topS 26
theorem sc_are_fine : FnScope ["one", "other", "level", "its"] ["one", "other"] (defScope st_are_fine) := ⟨rfl, rfl, rfl, by decide +kernel, rfl, by decide +kernel, by decide +kernel⟩
theorem ok_are_fine {P : Program} {w : World} {K : PySem.W.Frag} {mg : Str → Option Value} {base : Heap} (B : Bts mg) (h : ∃ f fd, Df K mg "are_fine" st_are_fine ["one", "other"] f fd) : Cl P w K mg base "are_fine" 1 ["one", "other"] s_are_fine :=
  fnC h sc_are_fine l_are_fine v_are_fine fun f cdv A outer s H E gd room =>
    (pdss_one (pds_ret (pd_callB (cr_all rfl) cl_all (by rfl) B.all (by decide +kernel) (pda_cons (pd_lc (own := [("level", 2), ("its", 3)]) (dg := (gT 2 (gC (gV 2) (gC (gV 3) gN)))) (tt := dYes) (te := (dOp aLe (dVar 2) (dVar 3))) rfl sc_are_fine.nd  (pdi_zip2 (pd_var (pv 0)) (pd_var (pv 1)) (by rfl) B.zip) (blkOk_by (own := [("level", 2), ("its", 3)]) (by rfl)) (gc_tup (gcs_cons (gc_name (vs := [2, 3]) (i := 2) (by decide)) (gcs_cons (gc_name (vs := [2, 3]) (i := 3) (by decide)) (gcs_nil (vs := [2, 3]))))) (fun _ _ _ _ _ => (pg_tup rfl (pgs_cons (pg_name (i := 2) sc_are_fine.nd rfl (by first | exact Or.inl rfl | exact Or.inr rfl)) (pgs_cons (pg_name (i := 3) sc_are_fine.nd rfl (by first | exact Or.inl rfl | exact Or.inr rfl)) pgs_nil)))) (fun _ _ _ _ _ => pdts_nil) (fun _ _ _ _ _ => (pd_cmp op_le (c2_cmp _) (pd_var (pv 2)) (pd_var (pv 3)) (nomark _)))) pda_nil))))

abbrev st_is_cell : Stmt := topS 27
theorem sc_is_cell : FnScope ["scheme", "rollup", "thing", "group", "many"] ["scheme", "rollup", "thing"] (defScope st_is_cell) := ⟨rfl, rfl, rfl, by decide +kernel, rfl, by decide +kernel, by decide +kernel⟩
theorem ok_is_cell {P : Program} {w : World} {K : PySem.W.Frag} {mg : Str → Option Value} {base : Heap} (B : Bts mg) (h : ∃ f fd, Df K mg "is_cell" st_is_cell ["scheme", "rollup", "thing"] f fd) (C_is_between : Cl P w K mg base "is_between" 2 ["thing", "low", "high"] s_is_between) (C_sizes_at : Cl P w K mg base "sizes_at" 2 ["scheme", "rollup"] s_sizes_at) : Cl P w K mg base "is_cell" 3 ["scheme", "rollup", "thing"] s_is_cell :=
  fnC h sc_is_cell l_is_cell v_is_cell fun f cdv A outer s H E gd room =>
    (pdss_cons (pds_if (pdt_w (pdw_or (pdt_not (pdt_val (pd_isi (T := "tuple") (pd_var (pv 2)) (by rfl) B.isi (by rfl) B.tuple (by decide +kernel) (by decide)))) (pdw_or1 (pdt_cmp (op_neA room.units) c2_ne (pd_callB callR_len cl_len (by rfl) B.len (by decide +kernel) (pda_cons (pd_var (pv 2)) pda_nil)) (pd_callB callR_len cl_len (by rfl) B.len (by decide +kernel) (pda_cons (pd_var (pv 0)) pda_nil)) (nomark _))))) (pdss_one (pds_ret pd_bl)) pdss_nil)
    (pdss_one (pds_ret (pd_callB (cr_all rfl) cl_all (by rfl) B.all (by decide +kernel) (pda_cons (pd_lc (own := [("group", 3), ("many", 4)]) (dg := (gT 2 (gC (gV 3) (gC (gV 4) gN)))) (tt := dYes) (te := (dCB s_is_between (dCons (dVar 3) (dCons (dC (.int 0)) (dCons (dOp aSub (dVar 4) (dC (.int 1))) dNil))))) rfl sc_is_cell.nd  (pdi_zip2 (pd_var (pv 2)) (pd_callC C_sizes_at (room.mono (by decide)) gd (by rfl) (pda_cons (pd_var (pv 0)) (pda_cons (pd_var (pv 1)) pda_nil))) (by rfl) B.zip) (blkOk_by (own := [("group", 3), ("many", 4)]) (by rfl)) (gc_tup (gcs_cons (gc_name (vs := [3, 4]) (i := 3) (by decide)) (gcs_cons (gc_name (vs := [3, 4]) (i := 4) (by decide)) (gcs_nil (vs := [3, 4]))))) (fun _ _ _ _ _ => (pg_tup rfl (pgs_cons (pg_name (i := 3) sc_is_cell.nd rfl (by first | exact Or.inl rfl | exact Or.inr rfl)) (pgs_cons (pg_name (i := 4) sc_is_cell.nd rfl (by first | exact Or.inl rfl | exact Or.inr rfl)) pgs_nil)))) (fun _ _ _ _ _ => pdts_nil) (fun _ _ _ _ _ => (pd_callC C_is_between (room.mono (by decide)) gd (by rfl) (pda_cons (pd_var (pv 3)) (pda_cons pd_int (pda_cons (pd_op op_sub c2_sub (pd_var (pv 4)) pd_int) pda_nil)))))) pda_nil)))))

abbrev st_cell_above : Stmt := topS 28
theorem sc_cell_above : FnScope ["scheme", "rollup", "cell", "other", "found", "at", "attribute"] ["scheme", "rollup", "cell", "other"] (defScope st_cell_above) := ⟨rfl, rfl, rfl, by decide +kernel, rfl, by decide +kernel, by decide +kernel⟩
theorem ok_cell_above {P : Program} {w : World} {K : PySem.W.Frag} {mg : Str → Option Value} {base : Heap} (B : Bts mg) (h : ∃ f fd, Df K mg "cell_above" st_cell_above ["scheme", "rollup", "cell", "other"] f fd) (C_group_above : Cl P w K mg base "group_above" 1 ["attribute", "group", "low", "high"] s_group_above) : Cl P w K mg base "cell_above" 2 ["scheme", "rollup", "cell", "other"] s_cell_above :=
  fnC h sc_cell_above l_cell_above v_cell_above fun f cdv A outer s H E gd room =>
    (pdss_cons (pds_set (i := 4) sc_cell_above.nd rfl (by first | exact Or.inl rfl | exact Or.inr rfl) (pd_lstM pda_nil))
    (pdss_cons (pds_for PassesOwn.never rfl (pdi_enum (pd_var (pv 0)) (by rfl) B.enum) (pg_tup rfl (pgs_cons (pg_name (i := 5) sc_cell_above.nd rfl (by first | exact Or.inl rfl | exact Or.inr rfl)) (pgs_cons (pg_name (i := 6) sc_cell_above.nd rfl (by first | exact Or.inl rfl | exact Or.inr rfl)) pgs_nil))) (gc_tup (gcs_cons (gc_name (vs := [5, 6]) (i := 5) (by decide)) (gcs_cons (gc_name (vs := [5, 6]) (i := 6) (by decide)) (gcs_nil (vs := [5, 6]))))) (pdss_one (pds_drop (pd_append (pd_var (pv 4)) (pd_callC C_group_above (room.mono (by decide)) gd (by rfl) (pda_cons (pd_var (pv 6)) (pda_cons (pd_ix room.u65 (pd_var (pv 2)) (pd_var (pv 5))) (pda_cons (pd_ix room.u65 (pd_var (pv 1)) (pd_var (pv 5))) (pda_cons (pd_ix room.u65 (pd_var (pv 3)) (pd_var (pv 5))) pda_nil)))))))))
    (pdss_one (pds_ret (pd_callTy call_tuple_ofF cl_tuple (by rfl) B.tuple (by decide +kernel) (pda_cons (pd_var (pv 4)) pda_nil))))))

abbrev st_need_scheme : Stmt := topS 29
theorem sc_need_scheme : FnScope ["thing"] ["thing"] (defScope st_need_scheme) := ⟨rfl, rfl, rfl, by decide +kernel, rfl, by decide +kernel, by decide +kernel⟩
theorem ok_need_scheme {P : Program} {w : World} {K : PySem.W.Frag} {mg : Str → Option Value} {base : Heap} (B : Bts mg) (h : ∃ f fd, Df K mg "need_scheme" st_need_scheme ["thing"] f fd) (C_is_scheme : Cl P w K mg base "is_scheme" 5 ["thing"] s_is_scheme) : Cl P w K mg base "need_scheme" 6 ["thing"] s_need_scheme :=
  fnC h sc_need_scheme l_need_scheme v_need_scheme fun f cdv A outer s H E gd room =>
    (pdss_one (pds_if (pdt_not (pdt_val (pd_callC C_is_scheme (room.mono (by decide)) gd (by rfl) (pda_cons (pd_var (pv 0)) pda_nil)))) (pdss_one pds_never) pdss_nil))

abbrev st_need_rollup : Stmt := topS 30
theorem sc_need_rollup : FnScope ["scheme", "thing"] ["scheme", "thing"] (defScope st_need_rollup) := ⟨rfl, rfl, rfl, by decide +kernel, rfl, by decide +kernel, by decide +kernel⟩
theorem ok_need_rollup {P : Program} {w : World} {K : PySem.W.Frag} {mg : Str → Option Value} {base : Heap} (B : Bts mg) (h : ∃ f fd, Df K mg "need_rollup" st_need_rollup ["scheme", "thing"] f fd) (C_is_rollup : Cl P w K mg base "is_rollup" 3 ["scheme", "thing"] s_is_rollup) : Cl P w K mg base "need_rollup" 4 ["scheme", "thing"] s_need_rollup :=
  fnC h sc_need_rollup l_need_rollup v_need_rollup fun f cdv A outer s H E gd room =>
    (pdss_one (pds_if (pdt_not (pdt_val (pd_callC C_is_rollup (room.mono (by decide)) gd (by rfl) (pda_cons (pd_var (pv 0)) (pda_cons (pd_var (pv 1)) pda_nil))))) (pdss_one pds_never) pdss_nil))

abbrev st_need_cell : Stmt := topS 31
theorem sc_need_cell : FnScope ["scheme", "rollup", "thing"] ["scheme", "rollup", "thing"] (defScope st_need_cell) := ⟨rfl, rfl, rfl, by decide +kernel, rfl, by decide +kernel, by decide +kernel⟩
theorem ok_need_cell {P : Program} {w : World} {K : PySem.W.Frag} {mg : Str → Option Value} {base : Heap} (B : Bts mg) (h : ∃ f fd, Df K mg "need_cell" st_need_cell ["scheme", "rollup", "thing"] f fd) (C_is_cell : Cl P w K mg base "is_cell" 3 ["scheme", "rollup", "thing"] s_is_cell) : Cl P w K mg base "need_cell" 4 ["scheme", "rollup", "thing"] s_need_cell :=
  fnC h sc_need_cell l_need_cell v_need_cell fun f cdv A outer s H E gd room =>
    (pdss_one (pds_if (pdt_not (pdt_val (pd_callC C_is_cell (room.mono (by decide)) gd (by rfl) (pda_cons (pd_var (pv 0)) (pda_cons (pd_var (pv 1)) (pda_cons (pd_var (pv 2)) pda_nil)))))) (pdss_one pds_never) pdss_nil))

abbrev st_need_two : Stmt := topS 32
theorem sc_need_two : FnScope ["scheme", "one", "other"] ["scheme", "one", "other"] (defScope st_need_two) := ⟨rfl, rfl, rfl, by decide +kernel, rfl, by decide +kernel, by decide +kernel⟩
theorem ok_need_two {P : Program} {w : World} {K : PySem.W.Frag} {mg : Str → Option Value} {base : Heap} (B : Bts mg) (h : ∃ f fd, Df K mg "need_two" st_need_two ["scheme", "one", "other"] f fd) (C_need_scheme : Cl P w K mg base "need_scheme" 6 ["thing"] s_need_scheme) (C_need_rollup : Cl P w K mg base "need_rollup" 4 ["scheme", "thing"] s_need_rollup) : Cl P w K mg base "need_two" 7 ["scheme", "one", "other"] s_need_two :=
  fnC h sc_need_two l_need_two v_need_two fun f cdv A outer s H E gd room =>
    (pdss_cons (pds_drop (pd_callC C_need_scheme (room.mono (by decide)) gd (by rfl) (pda_cons (pd_var (pv 0)) pda_nil)))
    (pdss_cons (pds_drop (pd_callC C_need_rollup (room.mono (by decide)) gd (by rfl) (pda_cons (pd_var (pv 0)) (pda_cons (pd_var (pv 1)) pda_nil))))
    (pdss_one (pds_drop (pd_callC C_need_rollup (room.mono (by decide)) gd (by rfl) (pda_cons (pd_var (pv 0)) (pda_cons (pd_var (pv 2)) pda_nil)))))))

abbrev st_cells : Stmt := topS 33
theorem sc_cells : FnScope ["scheme", "rollup"] ["scheme", "rollup"] (defScope st_cells) := ⟨rfl, rfl, rfl, by decide +kernel, rfl, by decide +kernel, by decide +kernel⟩
theorem ok_cells {P : Program} {w : World} {K : PySem.W.Frag} {mg : Str → Option Value} {base : Heap} (B : Bts mg) (h : ∃ f fd, Df K mg "cells" st_cells ["scheme", "rollup"] f fd) (C_need_scheme : Cl P w K mg base "need_scheme" 6 ["thing"] s_need_scheme) (C_need_rollup : Cl P w K mg base "need_rollup" 4 ["scheme", "thing"] s_need_rollup) (C_cells_of : Cl P w K mg base "cells_of" 3 ["scheme", "rollup"] s_cells_of) : Cl P w K mg base "cells" 7 ["scheme", "rollup"] s_cells :=
  fnC h sc_cells l_cells v_cells fun f cdv A outer s H E gd room =>
    (pdss_cons (pds_drop (pd_callC C_need_scheme (room.mono (by decide)) gd (by rfl) (pda_cons (pd_var (pv 0)) pda_nil)))
    (pdss_cons (pds_drop (pd_callC C_need_rollup (room.mono (by decide)) gd (by rfl) (pda_cons (pd_var (pv 0)) (pda_cons (pd_var (pv 1)) pda_nil))))
    (pdss_one (pds_ret (pd_callTy call_tuple_ofF cl_tuple (by rfl) B.tuple (by decide +kernel) (pda_cons (pd_callC C_cells_of (room.mono (by decide)) gd (by rfl) (pda_cons (pd_var (pv 0)) (pda_cons (pd_var (pv 1)) pda_nil))) pda_nil))))))

abbrev st_is_fine : Stmt := topS 34
theorem sc_is_fine : FnScope ["scheme", "one", "other"] ["scheme", "one", "other"] (defScope st_is_fine) := ⟨rfl, rfl, rfl, by decide +kernel, rfl, by decide +kernel, by decide +kernel⟩
theorem ok_is_fine {P : Program} {w : World} {K : PySem.W.Frag} {mg : Str → Option Value} {base : Heap} (B : Bts mg) (h : ∃ f fd, Df K mg "is_fine" st_is_fine ["scheme", "one", "other"] f fd) (C_need_two : Cl P w K mg base "need_two" 7 ["scheme", "one", "other"] s_need_two) (C_are_fine : Cl P w K mg base "are_fine" 1 ["one", "other"] s_are_fine) : Cl P w K mg base "is_fine" 8 ["scheme", "one", "other"] s_is_fine :=
  fnC h sc_is_fine l_is_fine v_is_fine fun f cdv A outer s H E gd room =>
    (pdss_cons (pds_drop (pd_callC C_need_two (room.mono (by decide)) gd (by rfl) (pda_cons (pd_var (pv 0)) (pda_cons (pd_var (pv 1)) (pda_cons (pd_var (pv 2)) pda_nil)))))
    (pdss_one (pds_ret (pd_callC C_are_fine (room.mono (by decide)) gd (by rfl) (pda_cons (pd_var (pv 1)) (pda_cons (pd_var (pv 2)) pda_nil))))))

abbrev st_are_amounts : Stmt := topS 36
theorem sc_are_amounts : FnScope ["scheme", "rollup", "thing", "amount"] ["scheme", "rollup", "thing"] (defScope st_are_amounts) := ⟨rfl, rfl, rfl, by decide +kernel, rfl, by decide +kernel, by decide +kernel⟩
theorem ok_are_amounts {P : Program} {w : World} {K : PySem.W.Frag} {mg : Str → Option Value} {base : Heap} (B : Bts mg) (h : ∃ f fd, Df K mg "are_amounts" st_are_amounts ["scheme", "rollup", "thing"] f fd) (C_size_of : Cl P w K mg base "size_of" 3 ["scheme", "rollup"] s_size_of) (C_is_integer : Cl P w K mg base "is_integer" 1 ["thing"] s_is_integer) : Cl P w K mg base "are_amounts" 4 ["scheme", "rollup", "thing"] s_are_amounts :=
  fnC h sc_are_amounts l_are_amounts v_are_amounts fun f cdv A outer s H E gd room =>
    (pdss_cons (pds_if (pdt_w (pdw_or (pdt_not (pdt_val (pd_isi (T := "tuple") (pd_var (pv 2)) (by rfl) B.isi (by rfl) B.tuple (by decide +kernel) (by decide)))) (pdw_or1 (pdt_cmp (op_neA room.units) c2_ne (pd_callB callR_len cl_len (by rfl) B.len (by decide +kernel) (pda_cons (pd_var (pv 2)) pda_nil)) (pd_callC C_size_of (room.mono (by decide)) gd (by rfl) (pda_cons (pd_var (pv 0)) (pda_cons (pd_var (pv 1)) pda_nil))) (nomark _))))) (pdss_one (pds_ret pd_bl)) pdss_nil)
    (pdss_one (pds_ret (pd_callB (cr_all rfl) cl_all (by rfl) B.all (by decide +kernel) (pda_cons (pd_lc (own := [("amount", 3)]) (dg := (gV 3)) (tt := dYes) (te := (dCB s_is_integer (dCons (dVar 3) dNil))) rfl sc_are_amounts.nd  (pdi_seq (pd_var (pv 2))) (blkOk_by (own := [("amount", 3)]) (by rfl)) (gc_name (vs := [3]) (i := 3) (by decide)) (fun _ _ _ _ _ => (pg_name (i := 3) sc_are_amounts.nd rfl (by first | exact Or.inl rfl | exact Or.inr rfl))) (fun _ _ _ _ _ => pdts_nil) (fun _ _ _ _ _ => (pd_callC C_is_integer (room.mono (by decide)) gd (by rfl) (pda_cons (pd_var (pv 3)) pda_nil)))) pda_nil)))))

abbrev st_is_table_of : Stmt := topS 37
theorem sc_is_table_of : FnScope ["scheme", "thing"] ["scheme", "thing"] (defScope st_is_table_of) := ⟨rfl, rfl, rfl, by decide +kernel, rfl, by decide +kernel, by decide +kernel⟩
theorem ok_is_table_of {P : Program} {w : World} {K : PySem.W.Frag} {mg : Str → Option Value} {base : Heap} (B : Bts mg) (h : ∃ f fd, Df K mg "is_table_of" st_is_table_of ["scheme", "thing"] f fd) (C_are_amounts : Cl P w K mg base "are_amounts" 4 ["scheme", "rollup", "thing"] s_are_amounts) (C_finest : Cl P w K mg base "finest" 1 ["scheme"] s_finest) : Cl P w K mg base "is_table_of" 5 ["scheme", "thing"] s_is_table_of :=
  fnC h sc_is_table_of l_is_table_of v_is_table_of fun f cdv A outer s H E gd room =>
    (pdss_one (pds_ret (pd_callC C_are_amounts (room.mono (by decide)) gd (by rfl) (pda_cons (pd_var (pv 0)) (pda_cons (pd_callC C_finest (room.mono (by decide)) gd (by rfl) (pda_cons (pd_var (pv 0)) pda_nil)) (pda_cons (pd_var (pv 1)) pda_nil))))))

abbrev st_rolled_of : Stmt := topS 38
theorem sc_rolled_of : FnScope ["scheme", "rollup", "amounts", "other", "found", "cell", "amount", "place"] ["scheme", "rollup", "amounts", "other"] (defScope st_rolled_of) := ⟨rfl, rfl, rfl, by decide +kernel, rfl, by decide +kernel, by decide +kernel⟩
theorem ok_rolled_of {P : Program} {w : World} {K : PySem.W.Frag} {mg : Str → Option Value} {base : Heap} (B : Bts mg) (h : ∃ f fd, Df K mg "rolled_of" st_rolled_of ["scheme", "rollup", "amounts", "other"] f fd) (C_cells_of : Cl P w K mg base "cells_of" 3 ["scheme", "rollup"] s_cells_of) (C_cell_above : Cl P w K mg base "cell_above" 2 ["scheme", "rollup", "cell", "other"] s_cell_above) : Cl P w K mg base "rolled_of" 4 ["scheme", "rollup", "amounts", "other"] s_rolled_of :=
  fnC h sc_rolled_of l_rolled_of v_rolled_of fun f cdv A outer s H E gd room =>
    (pdss_cons (pds_set (i := 4) sc_rolled_of.nd rfl (by first | exact Or.inl rfl | exact Or.inr rfl) pd_newD)
    (pdss_cons (pds_for PassesOwn.never rfl (pdi_seq (pd_callC C_cells_of (room.mono (by decide)) gd (by rfl) (pda_cons (pd_var (pv 0)) (pda_cons (pd_var (pv 3)) pda_nil)))) (pg_name (i := 5) sc_rolled_of.nd rfl (by first | exact Or.inl rfl | exact Or.inr rfl)) (gc_name (vs := [5]) (i := 5) (by decide)) (pdss_one (pds_put room.u65 pd_int (pd_var (pv 4)) (pd_var (pv 5)))))
    (pdss_cons (pds_for PassesOwn.never rfl (pdi_zip2 (pd_callC C_cells_of (room.mono (by decide)) gd (by rfl) (pda_cons (pd_var (pv 0)) (pda_cons (pd_var (pv 1)) pda_nil))) (pd_var (pv 2)) (by rfl) B.zip) (pg_tup rfl (pgs_cons (pg_name (i := 5) sc_rolled_of.nd rfl (by first | exact Or.inl rfl | exact Or.inr rfl)) (pgs_cons (pg_name (i := 6) sc_rolled_of.nd rfl (by first | exact Or.inl rfl | exact Or.inr rfl)) pgs_nil))) (gc_tup (gcs_cons (gc_name (vs := [5, 6]) (i := 5) (by decide)) (gcs_cons (gc_name (vs := [5, 6]) (i := 6) (by decide)) (gcs_nil (vs := [5, 6]))))) (pdss_cons (pds_set (i := 7) sc_rolled_of.nd rfl (by first | exact Or.inl rfl | exact Or.inr rfl) (pd_callC C_cell_above (room.mono (by decide)) gd (by rfl) (pda_cons (pd_var (pv 0)) (pda_cons (pd_var (pv 1)) (pda_cons (pd_var (pv 5)) (pda_cons (pd_var (pv 3)) pda_nil))))))
    (pdss_one (pds_put room.u65 (pd_op op_addA c2_add (pd_ix room.u65 (pd_var (pv 4)) (pd_var (pv 7))) (pd_var (pv 6))) (pd_var (pv 4)) (pd_var (pv 7))))))
    (pdss_one (pds_ret (pd_tupVals rfl (by rfl) B.tuple (pd_var (pv 4))))))))

abbrev st_sums_of : Stmt := topS 39
theorem sc_sums_of : FnScope ["scheme", "table", "rollup"] ["scheme", "table", "rollup"] (defScope st_sums_of) := ⟨rfl, rfl, rfl, by decide +kernel, rfl, by decide +kernel, by decide +kernel⟩
theorem ok_sums_of {P : Program} {w : World} {K : PySem.W.Frag} {mg : Str → Option Value} {base : Heap} (B : Bts mg) (h : ∃ f fd, Df K mg "sums_of" st_sums_of ["scheme", "table", "rollup"] f fd) (C_rolled_of : Cl P w K mg base "rolled_of" 4 ["scheme", "rollup", "amounts", "other"] s_rolled_of) (C_finest : Cl P w K mg base "finest" 1 ["scheme"] s_finest) : Cl P w K mg base "sums_of" 5 ["scheme", "table", "rollup"] s_sums_of :=
  fnC h sc_sums_of l_sums_of v_sums_of fun f cdv A outer s H E gd room =>
    (pdss_one (pds_ret (pd_callC C_rolled_of (room.mono (by decide)) gd (by rfl) (pda_cons (pd_var (pv 0)) (pda_cons (pd_callC C_finest (room.mono (by decide)) gd (by rfl) (pda_cons (pd_var (pv 0)) pda_nil)) (pda_cons (pd_var (pv 1)) (pda_cons (pd_var (pv 2)) pda_nil)))))))

abbrev st_need_table : Stmt := topS 40
theorem sc_need_table : FnScope ["scheme", "thing"] ["scheme", "thing"] (defScope st_need_table) := ⟨rfl, rfl, rfl, by decide +kernel, rfl, by decide +kernel, by decide +kernel⟩
theorem ok_need_table {P : Program} {w : World} {K : PySem.W.Frag} {mg : Str → Option Value} {base : Heap} (B : Bts mg) (h : ∃ f fd, Df K mg "need_table" st_need_table ["scheme", "thing"] f fd) (C_is_table_of : Cl P w K mg base "is_table_of" 5 ["scheme", "thing"] s_is_table_of) : Cl P w K mg base "need_table" 6 ["scheme", "thing"] s_need_table :=
  fnC h sc_need_table l_need_table v_need_table fun f cdv A outer s H E gd room =>
    (pdss_one (pds_if (pdt_not (pdt_val (pd_callC C_is_table_of (room.mono (by decide)) gd (by rfl) (pda_cons (pd_var (pv 0)) (pda_cons (pd_var (pv 1)) pda_nil))))) (pdss_one pds_never) pdss_nil))

abbrev st_sums : Stmt := topS 41
theorem sc_sums : FnScope ["scheme", "table", "rollup"] ["scheme", "table", "rollup"] (defScope st_sums) := ⟨rfl, rfl, rfl, by decide +kernel, rfl, by decide +kernel, by decide +kernel⟩
theorem ok_sums {P : Program} {w : World} {K : PySem.W.Frag} {mg : Str → Option Value} {base : Heap} (B : Bts mg) (h : ∃ f fd, Df K mg "sums" st_sums ["scheme", "table", "rollup"] f fd) (C_need_scheme : Cl P w K mg base "need_scheme" 6 ["thing"] s_need_scheme) (C_need_table : Cl P w K mg base "need_table" 6 ["scheme", "thing"] s_need_table) (C_need_rollup : Cl P w K mg base "need_rollup" 4 ["scheme", "thing"] s_need_rollup) (C_sums_of : Cl P w K mg base "sums_of" 5 ["scheme", "table", "rollup"] s_sums_of) : Cl P w K mg base "sums" 7 ["scheme", "table", "rollup"] s_sums :=
  fnC h sc_sums l_sums v_sums fun f cdv A outer s H E gd room =>
    (pdss_cons (pds_drop (pd_callC C_need_scheme (room.mono (by decide)) gd (by rfl) (pda_cons (pd_var (pv 0)) pda_nil)))
    (pdss_cons (pds_drop (pd_callC C_need_table (room.mono (by decide)) gd (by rfl) (pda_cons (pd_var (pv 0)) (pda_cons (pd_var (pv 1)) pda_nil))))
    (pdss_cons (pds_drop (pd_callC C_need_rollup (room.mono (by decide)) gd (by rfl) (pda_cons (pd_var (pv 0)) (pda_cons (pd_var (pv 2)) pda_nil))))
    (pdss_one (pds_ret (pd_callC C_sums_of (room.mono (by decide)) gd (by rfl) (pda_cons (pd_var (pv 0)) (pda_cons (pd_var (pv 1)) (pda_cons (pd_var (pv 2)) pda_nil)))))))))

abbrev st_are_rollups : Stmt := topS 46
theorem sc_are_rollups : FnScope ["scheme", "thing", "one"] ["scheme", "thing"] (defScope st_are_rollups) := ⟨rfl, rfl, rfl, by decide +kernel, rfl, by decide +kernel, by decide +kernel⟩
theorem ok_are_rollups {P : Program} {w : World} {K : PySem.W.Frag} {mg : Str → Option Value} {base : Heap} (B : Bts mg) (h : ∃ f fd, Df K mg "are_rollups" st_are_rollups ["scheme", "thing"] f fd) (c_MOST_STORED : Ci mg "MOST_STORED" 8) (C_is_rollup : Cl P w K mg base "is_rollup" 3 ["scheme", "thing"] s_is_rollup) : Cl P w K mg base "are_rollups" 4 ["scheme", "thing"] s_are_rollups :=
  fnC h sc_are_rollups l_are_rollups v_are_rollups fun f cdv A outer s H E gd room =>
    (pdss_one (pds_ret (pd_and (pd_isi (T := "tuple") (pd_var (pv 1)) (by rfl) B.isi (by rfl) B.tuple (by decide +kernel) (by decide)) (pd_and (pd_cmp op_le (c2_cmp _) (pd_callB callR_len cl_len (by rfl) B.len (by decide +kernel) (pda_cons (pd_var (pv 1)) pda_nil)) (pd_globI c_MOST_STORED (by rfl)) (nomark _)) (pd_one (pd_callB (cr_all rfl) cl_all (by rfl) B.all (by decide +kernel) (pda_cons (pd_lc (own := [("one", 2)]) (dg := (gV 2)) (tt := dYes) (te := (dCB s_is_rollup (dCons (dVar 0) (dCons (dVar 2) dNil)))) rfl sc_are_rollups.nd  (pdi_seq (pd_var (pv 1))) (blkOk_by (own := [("one", 2)]) (by rfl)) (gc_name (vs := [2]) (i := 2) (by decide)) (fun _ _ _ _ _ => (pg_name (i := 2) sc_are_rollups.nd rfl (by first | exact Or.inl rfl | exact Or.inr rfl))) (fun _ _ _ _ _ => pdts_nil) (fun _ _ _ _ _ => (pd_callC C_is_rollup (room.mono (by decide)) gd (by rfl) (pda_cons (pd_var (pv 0)) (pda_cons (pd_var (pv 2)) pda_nil))))) pda_nil)))))))

abbrev st_need_stored : Stmt := topS 47
theorem sc_need_stored : FnScope ["scheme", "thing"] ["scheme", "thing"] (defScope st_need_stored) := ⟨rfl, rfl, rfl, by decide +kernel, rfl, by decide +kernel, by decide +kernel⟩
theorem ok_need_stored {P : Program} {w : World} {K : PySem.W.Frag} {mg : Str → Option Value} {base : Heap} (B : Bts mg) (h : ∃ f fd, Df K mg "need_stored" st_need_stored ["scheme", "thing"] f fd) (C_are_rollups : Cl P w K mg base "are_rollups" 4 ["scheme", "thing"] s_are_rollups) : Cl P w K mg base "need_stored" 5 ["scheme", "thing"] s_need_stored :=
  fnC h sc_need_stored l_need_stored v_need_stored fun f cdv A outer s H E gd room =>
    (pdss_one (pds_if (pdt_not (pdt_val (pd_callC C_are_rollups (room.mono (by decide)) gd (by rfl) (pda_cons (pd_var (pv 0)) (pda_cons (pd_var (pv 1)) pda_nil))))) (pdss_one pds_never) pdss_nil))

abbrev st_need_wanted : Stmt := topS 48
theorem sc_need_wanted : FnScope ["scheme", "stored", "wanted"] ["scheme", "stored", "wanted"] (defScope st_need_wanted) := ⟨rfl, rfl, rfl, by decide +kernel, rfl, by decide +kernel, by decide +kernel⟩
theorem ok_need_wanted {P : Program} {w : World} {K : PySem.W.Frag} {mg : Str → Option Value} {base : Heap} (B : Bts mg) (h : ∃ f fd, Df K mg "need_wanted" st_need_wanted ["scheme", "stored", "wanted"] f fd) (C_need_scheme : Cl P w K mg base "need_scheme" 6 ["thing"] s_need_scheme) (C_need_stored : Cl P w K mg base "need_stored" 5 ["scheme", "thing"] s_need_stored) (C_need_rollup : Cl P w K mg base "need_rollup" 4 ["scheme", "thing"] s_need_rollup) : Cl P w K mg base "need_wanted" 7 ["scheme", "stored", "wanted"] s_need_wanted :=
  fnC h sc_need_wanted l_need_wanted v_need_wanted fun f cdv A outer s H E gd room =>
    (pdss_cons (pds_drop (pd_callC C_need_scheme (room.mono (by decide)) gd (by rfl) (pda_cons (pd_var (pv 0)) pda_nil)))
    (pdss_cons (pds_drop (pd_callC C_need_stored (room.mono (by decide)) gd (by rfl) (pda_cons (pd_var (pv 0)) (pda_cons (pd_var (pv 1)) pda_nil))))
    (pdss_one (pds_drop (pd_callC C_need_rollup (room.mono (by decide)) gd (by rfl) (pda_cons (pd_var (pv 0)) (pda_cons (pd_var (pv 2)) pda_nil)))))))

abbrev st_place_of : Stmt := topS 49
theorem sc_place_of : FnScope ["stored", "wanted", "place", "one"] ["stored", "wanted"] (defScope st_place_of) := ⟨rfl, rfl, rfl, by decide +kernel, rfl, by decide +kernel, by decide +kernel⟩
theorem ok_place_of {P : Program} {w : World} {K : PySem.W.Frag} {mg : Str → Option Value} {base : Heap} (B : Bts mg) (h : ∃ f fd, Df K mg "place_of" st_place_of ["stored", "wanted"] f fd) (C_are_fine : Cl P w K mg base "are_fine" 1 ["one", "other"] s_are_fine) : Cl P w K mg base "place_of" 2 ["stored", "wanted"] s_place_of :=
  fnC h sc_place_of l_place_of v_place_of fun f cdv A outer s H E gd room =>
    (pdss_cons (pds_for PassesOwn.never rfl (pdi_enum (pd_var (pv 0)) (by rfl) B.enum) (pg_tup rfl (pgs_cons (pg_name (i := 2) sc_place_of.nd rfl (by first | exact Or.inl rfl | exact Or.inr rfl)) (pgs_cons (pg_name (i := 3) sc_place_of.nd rfl (by first | exact Or.inl rfl | exact Or.inr rfl)) pgs_nil))) (gc_tup (gcs_cons (gc_name (vs := [2, 3]) (i := 2) (by decide)) (gcs_cons (gc_name (vs := [2, 3]) (i := 3) (by decide)) (gcs_nil (vs := [2, 3]))))) (pdss_one (pds_if (pdt_val (pd_callC C_are_fine (room.mono (by decide)) gd (by rfl) (pda_cons (pd_var (pv 3)) (pda_cons (pd_var (pv 1)) pda_nil)))) (pdss_one (pds_ret (pd_var (pv 2)))) pdss_nil)))
    (pdss_one (pds_ret (pd_neg pd_int))))

abbrev st_two_tables : Stmt := topS 50
theorem sc_two_tables : FnScope ["scheme", "taken", "one", "other", "cell", "is_taken", "seconds", "value", "some"] ["scheme", "taken"] (defScope st_two_tables) := ⟨rfl, rfl, rfl, by decide +kernel, rfl, by decide +kernel, by decide +kernel⟩
theorem ok_two_tables {P : Program} {w : World} {K : PySem.W.Frag} {mg : Str → Option Value} {base : Heap} (B : Bts mg) (h : ∃ f fd, Df K mg "two_tables" st_two_tables ["scheme", "taken"] f fd) (C_cells_of : Cl P w K mg base "cells_of" 3 ["scheme", "rollup"] s_cells_of) (C_finest : Cl P w K mg base "finest" 1 ["scheme"] s_finest) : Cl P w K mg base "two_tables" 4 ["scheme", "taken"] s_two_tables :=
  fnC h sc_two_tables l_two_tables v_two_tables fun f cdv A outer s H E gd room =>
    (pdss_cons (pds_set (i := 2) sc_two_tables.nd rfl (by first | exact Or.inl rfl | exact Or.inr rfl) (pd_lstM pda_nil))
    (pdss_cons (pds_set (i := 3) sc_two_tables.nd rfl (by first | exact Or.inl rfl | exact Or.inr rfl) (pd_lstM pda_nil))
    (pdss_cons (pds_for PassesOwn.never rfl (pdi_seq (pd_callC C_cells_of (room.mono (by decide)) gd (by rfl) (pda_cons (pd_var (pv 0)) (pda_cons (pd_callC C_finest (room.mono (by decide)) gd (by rfl) (pda_cons (pd_var (pv 0)) pda_nil)) pda_nil)))) (pg_name (i := 4) sc_two_tables.nd rfl (by first | exact Or.inl rfl | exact Or.inr rfl)) (gc_name (vs := [4]) (i := 4) (by decide)) (pdss_cons (pds_set (i := 5) sc_two_tables.nd rfl (by first | exact Or.inl rfl | exact Or.inr rfl) (pd_callB (cr_all rfl) cl_all (by rfl) B.all (by decide +kernel) (pda_cons (pd_lc (own := [("value", 7), ("some", 8)]) (dg := (gT 2 (gC (gV 7) (gC (gV 8) gN)))) (tt := dYes) (te := (dOp aIn (dVar 7) (dVar 8))) rfl sc_two_tables.nd  (pdi_zip2 (pd_var (pv 4)) (pd_var (pv 1)) (by rfl) B.zip) (blkOk_by (own := [("value", 7), ("some", 8)]) (by rfl)) (gc_tup (gcs_cons (gc_name (vs := [7, 8]) (i := 7) (by decide)) (gcs_cons (gc_name (vs := [7, 8]) (i := 8) (by decide)) (gcs_nil (vs := [7, 8]))))) (fun _ _ _ _ _ => (pg_tup rfl (pgs_cons (pg_name (i := 7) sc_two_tables.nd rfl (by first | exact Or.inl rfl | exact Or.inr rfl)) (pgs_cons (pg_name (i := 8) sc_two_tables.nd rfl (by first | exact Or.inl rfl | exact Or.inr rfl)) pgs_nil)))) (fun _ _ _ _ _ => pdts_nil) (fun _ _ _ _ _ => (pd_cmp (op_inA room.u65) c2_in (pd_var (pv 7)) (pd_var (pv 8)) (by rfl)))) pda_nil)))
    (pdss_cons (pds_set (i := 6) sc_two_tables.nd rfl (by first | exact Or.inl rfl | exact Or.inr rfl) (pd_callB callR_len cl_len (by rfl) B.len (by decide +kernel) (pda_cons (pd_lc (own := [("value", 7), ("some", 8)]) (dg := (gT 2 (gC (gV 7) (gC (gV 8) gN)))) (tt := (dTest (dOp aNe (dVar 7) (dOp aIx (dVar 8) (dC (.int 0)))))) (te := (dC (.int 1))) rfl sc_two_tables.nd  (pdi_zip2 (pd_var (pv 4)) (pd_var (pv 1)) (by rfl) B.zip) (blkOk_by (own := [("value", 7), ("some", 8)]) (by rfl)) (gc_tup (gcs_cons (gc_name (vs := [7, 8]) (i := 7) (by decide)) (gcs_cons (gc_name (vs := [7, 8]) (i := 8) (by decide)) (gcs_nil (vs := [7, 8]))))) (fun _ _ _ _ _ => (pg_tup rfl (pgs_cons (pg_name (i := 7) sc_two_tables.nd rfl (by first | exact Or.inl rfl | exact Or.inr rfl)) (pgs_cons (pg_name (i := 8) sc_two_tables.nd rfl (by first | exact Or.inl rfl | exact Or.inr rfl)) pgs_nil)))) (fun _ _ _ _ _ => (pdts_one (pdt_cmp (op_neA room.units) c2_ne (pd_var (pv 7)) (pd_ix room.u65 (pd_var (pv 8)) pd_int) (nomark _)))) (fun _ _ _ _ _ => pd_int)) pda_nil)))
    (pdss_cons (pds_drop (pd_append (pd_var (pv 2)) (pd_callTy call_int1 cl_int (by rfl) B.int (by decide +kernel) (pda_cons (pd_and (pd_var (pv 5)) (pd_one (pd_cmp (op_eqA room.units) c2_eq (pd_op op_mod c2_mod (pd_var (pv 6)) pd_int) pd_int (nomark _)))) pda_nil))))
    (pdss_one (pds_drop (pd_append (pd_var (pv 3)) (pd_callTy call_int1 cl_int (by rfl) B.int (by decide +kernel) (pda_cons (pd_and (pd_var (pv 5)) (pd_one (pd_cmp (op_eqA room.units) c2_eq (pd_op op_mod c2_mod (pd_var (pv 6)) pd_int) pd_int (nomark _)))) pda_nil)))))))))
    (pdss_one (pds_ret (pd_tup (pda_cons (pd_callTy call_tuple_ofF cl_tuple (by rfl) B.tuple (by decide +kernel) (pda_cons (pd_var (pv 2)) pda_nil)) (pda_cons (pd_callTy call_tuple_ofF cl_tuple (by rfl) B.tuple (by decide +kernel) (pda_cons (pd_var (pv 3)) pda_nil)) pda_nil))))))))

abbrev st_taken_at : Stmt := topS 51
theorem sc_taken_at : FnScope ["attribute", "level", "many", "steps", "one", "other", "mine", "its"] ["attribute", "level"] (defScope st_taken_at) := ⟨rfl, rfl, rfl, by decide +kernel, rfl, by decide +kernel, by decide +kernel⟩
theorem ok_taken_at {P : Program} {w : World} {K : PySem.W.Frag} {mg : Str → Option Value} {base : Heap} (B : Bts mg) (h : ∃ f fd, Df K mg "taken_at" st_taken_at ["attribute", "level"] f fd) (C_group_above : Cl P w K mg base "group_above" 1 ["attribute", "group", "low", "high"] s_group_above) : Cl P w K mg base "taken_at" 2 ["attribute", "level"] s_taken_at :=
  fnC h sc_taken_at l_taken_at v_taken_at fun f cdv A outer s H E gd room =>
    (pdss_cons (pds_asg (pd_var (pv 0)) (pg_tup rfl (pgs_cons (pg_name (i := 2) sc_taken_at.nd rfl (by first | exact Or.inl rfl | exact Or.inr rfl)) (pgs_cons (pg_name (i := 3) sc_taken_at.nd rfl (by first | exact Or.inl rfl | exact Or.inr rfl)) pgs_nil))) (gc_tup (gcs_cons (gc_name (vs := [2, 3]) (i := 2) (by decide)) (gcs_cons (gc_name (vs := [2, 3]) (i := 3) (by decide)) (gcs_nil (vs := [2, 3]))))))
    (pdss_cons (pds_if (pdt_cmp op_lt (c2_cmp _) (pd_var (pv 1)) (pd_callB callR_len cl_len (by rfl) B.len (by decide +kernel) (pda_cons (pd_var (pv 3)) pda_nil)) (nomark _)) (pdss_one (pds_for PassesOwn.never rfl (pdi_rg1 (pd_var (pv 2)) (by rfl) B.range) (pg_name (i := 4) sc_taken_at.nd rfl (by first | exact Or.inl rfl | exact Or.inr rfl)) (gc_name (vs := [4]) (i := 4) (by decide)) (pdss_one (pds_for PassesOwn.never rfl (pdi_rg2 (pd_op op_addA c2_add (pd_var (pv 4)) pd_int) (pd_var (pv 2)) (by rfl) B.range) (pg_name (i := 5) sc_taken_at.nd rfl (by first | exact Or.inl rfl | exact Or.inr rfl)) (gc_name (vs := [5]) (i := 5) (by decide)) (pdss_cons (pds_par (i := 6) (j := 7) rfl sc_taken_at.nd rfl rfl (by decide) rfl rfl (pda_cons (pd_callC C_group_above (room.mono (by decide)) gd (by rfl) (pda_cons (pd_var (pv 0)) (pda_cons (pd_var (pv 4)) (pda_cons pd_int (pda_cons (pd_var (pv 1)) pda_nil))))) (pda_cons (pd_callC C_group_above (room.mono (by decide)) gd (by rfl) (pda_cons (pd_var (pv 0)) (pda_cons (pd_var (pv 5)) (pda_cons pd_int (pda_cons (pd_var (pv 1)) pda_nil))))) pda_nil)) (by rfl))
    (pdss_one (pds_if (pdt_w (pdw_and (pdt_cmp (op_neA room.units) c2_ne (pd_var (pv 6)) (pd_var (pv 7)) (nomark _)) (pdw_and1 (pdt_cmp (op_eqA room.units) c2_eq (pd_ix room.u65 (pd_ix room.u65 (pd_var (pv 3)) (pd_var (pv 1))) (pd_var (pv 6))) (pd_ix room.u65 (pd_ix room.u65 (pd_var (pv 3)) (pd_var (pv 1))) (pd_var (pv 7))) (nomark _))))) (pdss_one (pds_ret (pd_tup (pda_cons (pd_var (pv 4)) (pda_cons (pd_var (pv 5)) pda_nil))))) pdss_nil))))))) pdss_nil)
    (pdss_one (pds_ret (pd_tup (pda_cons pd_int pda_nil))))))

abbrev st_answer_of : Stmt := topS 52
theorem sc_answer_of : FnScope ["scheme", "stored", "wanted", "place", "taken", "one", "other", "attribute", "level"] ["scheme", "stored", "wanted"] (defScope st_answer_of) := ⟨rfl, rfl, rfl, by decide +kernel, rfl, by decide +kernel, by decide +kernel⟩
theorem ok_answer_of {P : Program} {w : World} {K : PySem.W.Frag} {mg : Str → Option Value} {base : Heap} (B : Bts mg) (h : ∃ f fd, Df K mg "answer_of" st_answer_of ["scheme", "stored", "wanted"] f fd) (c_FROM : Cs mg "FROM" (Str.ofString "from")) (c_TABLES : Cs mg "TABLES" (Str.ofString "tables")) (C_place_of : Cl P w K mg base "place_of" 2 ["stored", "wanted"] s_place_of) (C_two_tables : Cl P w K mg base "two_tables" 4 ["scheme", "taken"] s_two_tables) (C_taken_at : Cl P w K mg base "taken_at" 2 ["attribute", "level"] s_taken_at) : Cl P w K mg base "answer_of" 5 ["scheme", "stored", "wanted"] s_answer_of :=
  fnC h sc_answer_of l_answer_of v_answer_of fun f cdv A outer s H E gd room =>
    (pdss_cons (pds_set (i := 3) sc_answer_of.nd rfl (by first | exact Or.inl rfl | exact Or.inr rfl) (pd_callC C_place_of (room.mono (by decide)) gd (by rfl) (pda_cons (pd_var (pv 1)) (pda_cons (pd_var (pv 2)) pda_nil))))
    (pdss_cons (pds_if (pdt_cmp op_ge (c2_cmp _) (pd_var (pv 3)) pd_int (nomark _)) (pdss_one (pds_ret (pd_tup (pda_cons (pd_globS c_FROM (by rfl)) (pda_cons (pd_var (pv 3)) pda_nil))))) pdss_nil)
    (pdss_cons (pds_setLc (i := 4) (own := [("attribute", 7), ("level", 8)]) (dg := (gT 2 (gC (gV 7) (gC (gV 8) gN)))) (tt := dYes) (te := (dCB s_taken_at (dCons (dVar 7) (dCons (dVar 8) dNil)))) rfl sc_answer_of.nd rfl rfl (sw_true rfl rfl rfl (by decide +kernel)) (pdi_zip2 (pd_var (pv 0)) (pd_var (pv 2)) (by rfl) B.zip) (blkOk_by (own := [("attribute", 7), ("level", 8)]) (by rfl)) (gc_tup (gcs_cons (gc_name (vs := [7, 8]) (i := 7) (by decide)) (gcs_cons (gc_name (vs := [7, 8]) (i := 8) (by decide)) (gcs_nil (vs := [7, 8]))))) (fun _ _ _ _ _ => (pg_tup rfl (pgs_cons (pg_name (i := 7) sc_answer_of.nd rfl (by first | exact Or.inl rfl | exact Or.inr rfl)) (pgs_cons (pg_name (i := 8) sc_answer_of.nd rfl (by first | exact Or.inl rfl | exact Or.inr rfl)) pgs_nil)))) (fun _ _ _ _ _ => pdts_nil) (fun _ _ _ _ _ => (pd_callC C_taken_at (room.mono (by decide)) gd (by rfl) (pda_cons (pd_var (pv 7)) (pda_cons (pd_var (pv 8)) pda_nil)))))
    (pdss_cons (pds_asg (pd_callC C_two_tables (room.mono (by decide)) gd (by rfl) (pda_cons (pd_var (pv 0)) (pda_cons (pd_var (pv 4)) pda_nil))) (pg_tup rfl (pgs_cons (pg_name (i := 5) sc_answer_of.nd rfl (by first | exact Or.inl rfl | exact Or.inr rfl)) (pgs_cons (pg_name (i := 6) sc_answer_of.nd rfl (by first | exact Or.inl rfl | exact Or.inr rfl)) pgs_nil))) (gc_tup (gcs_cons (gc_name (vs := [5, 6]) (i := 5) (by decide)) (gcs_cons (gc_name (vs := [5, 6]) (i := 6) (by decide)) (gcs_nil (vs := [5, 6]))))))
    (pdss_one (pds_ret (pd_tup (pda_cons (pd_globS c_TABLES (by rfl)) (pda_cons (pd_var (pv 5)) (pda_cons (pd_var (pv 6)) pda_nil))))))))))

abbrev st_answer : Stmt := topS 53
theorem sc_answer : FnScope ["scheme", "stored", "wanted"] ["scheme", "stored", "wanted"] (defScope st_answer) := ⟨rfl, rfl, rfl, by decide +kernel, rfl, by decide +kernel, by decide +kernel⟩
theorem ok_answer {P : Program} {w : World} {K : PySem.W.Frag} {mg : Str → Option Value} {base : Heap} (B : Bts mg) (h : ∃ f fd, Df K mg "answer" st_answer ["scheme", "stored", "wanted"] f fd) (C_need_wanted : Cl P w K mg base "need_wanted" 7 ["scheme", "stored", "wanted"] s_need_wanted) (C_answer_of : Cl P w K mg base "answer_of" 5 ["scheme", "stored", "wanted"] s_answer_of) : Cl P w K mg base "answer" 8 ["scheme", "stored", "wanted"] s_answer :=
  fnC h sc_answer l_answer v_answer fun f cdv A outer s H E gd room =>
    (pdss_cons (pds_drop (pd_callC C_need_wanted (room.mono (by decide)) gd (by rfl) (pda_cons (pd_var (pv 0)) (pda_cons (pd_var (pv 1)) (pda_cons (pd_var (pv 2)) pda_nil)))))
    (pdss_one (pds_ret (pd_callC C_answer_of (room.mono (by decide)) gd (by rfl) (pda_cons (pd_var (pv 0)) (pda_cons (pd_var (pv 1)) (pda_cons (pd_var (pv 2)) pda_nil)))))))

abbrev st_are_alike : Stmt := topS 54
theorem sc_are_alike : FnScope ["scheme", "stored", "one", "other", "rollup"] ["scheme", "stored", "one", "other"] (defScope st_are_alike) := ⟨rfl, rfl, rfl, by decide +kernel, rfl, by decide +kernel, by decide +kernel⟩
theorem ok_are_alike {P : Program} {w : World} {K : PySem.W.Frag} {mg : Str → Option Value} {base : Heap} (B : Bts mg) (h : ∃ f fd, Df K mg "are_alike" st_are_alike ["scheme", "stored", "one", "other"] f fd) (C_is_table_of : Cl P w K mg base "is_table_of" 5 ["scheme", "thing"] s_is_table_of) (C_sums_of : Cl P w K mg base "sums_of" 5 ["scheme", "table", "rollup"] s_sums_of) : Cl P w K mg base "are_alike" 6 ["scheme", "stored", "one", "other"] s_are_alike :=
  fnC h sc_are_alike l_are_alike v_are_alike fun f cdv A outer s H E gd room =>
    (pdss_cons (pds_if (pdt_w (pdw_or (pdt_not (pdt_val (pd_callC C_is_table_of (room.mono (by decide)) gd (by rfl) (pda_cons (pd_var (pv 0)) (pda_cons (pd_var (pv 2)) pda_nil))))) (pdw_or1 (pdt_not (pdt_val (pd_callC C_is_table_of (room.mono (by decide)) gd (by rfl) (pda_cons (pd_var (pv 0)) (pda_cons (pd_var (pv 3)) pda_nil)))))))) (pdss_one (pds_ret pd_bl)) pdss_nil)
    (pdss_one (pds_ret (pd_callB (cr_all rfl) cl_all (by rfl) B.all (by decide +kernel) (pda_cons (pd_lc (own := [("rollup", 4)]) (dg := (gV 4)) (tt := dYes) (te := (dOp aEq (dCB s_sums_of (dCons (dVar 0) (dCons (dVar 2) (dCons (dVar 4) dNil)))) (dCB s_sums_of (dCons (dVar 0) (dCons (dVar 3) (dCons (dVar 4) dNil)))))) rfl sc_are_alike.nd  (pdi_seq (pd_var (pv 1))) (blkOk_by (own := [("rollup", 4)]) (by rfl)) (gc_name (vs := [4]) (i := 4) (by decide)) (fun _ _ _ _ _ => (pg_name (i := 4) sc_are_alike.nd rfl (by first | exact Or.inl rfl | exact Or.inr rfl))) (fun _ _ _ _ _ => pdts_nil) (fun _ _ _ _ _ => (pd_cmp (op_eqA room.units) c2_eq (pd_callC C_sums_of (room.mono (by decide)) gd (by rfl) (pda_cons (pd_var (pv 0)) (pda_cons (pd_var (pv 2)) (pda_cons (pd_var (pv 4)) pda_nil)))) (pd_callC C_sums_of (room.mono (by decide)) gd (by rfl) (pda_cons (pd_var (pv 0)) (pda_cons (pd_var (pv 3)) (pda_cons (pd_var (pv 4)) pda_nil)))) (nomark _)))) pda_nil)))))

abbrev st_is_from : Stmt := topS 55
theorem sc_is_from : FnScope ["stored", "wanted", "place"] ["stored", "wanted", "place"] (defScope st_is_from) := ⟨rfl, rfl, rfl, by decide +kernel, rfl, by decide +kernel, by decide +kernel⟩
theorem ok_is_from {P : Program} {w : World} {K : PySem.W.Frag} {mg : Str → Option Value} {base : Heap} (B : Bts mg) (h : ∃ f fd, Df K mg "is_from" st_is_from ["stored", "wanted", "place"] f fd) (C_is_between : Cl P w K mg base "is_between" 2 ["thing", "low", "high"] s_is_between) (C_are_fine : Cl P w K mg base "are_fine" 1 ["one", "other"] s_are_fine) : Cl P w K mg base "is_from" 3 ["stored", "wanted", "place"] s_is_from :=
  fnC h sc_is_from l_is_from v_is_from fun f cdv A outer s H E gd room =>
    (pdss_one (pds_ret (pd_and (pd_callC C_is_between (room.mono (by decide)) gd (by rfl) (pda_cons (pd_var (pv 2)) (pda_cons pd_int (pda_cons (pd_op op_sub c2_sub (pd_callB callR_len cl_len (by rfl) B.len (by decide +kernel) (pda_cons (pd_var (pv 0)) pda_nil)) pd_int) pda_nil)))) (pd_one (pd_callC C_are_fine (room.mono (by decide)) gd (by rfl) (pda_cons (pd_ix room.u65 (pd_var (pv 0)) (pd_var (pv 2))) (pda_cons (pd_var (pv 1)) pda_nil)))))))

abbrev st_shows_answer : Stmt := topS 56
theorem sc_shows_answer : FnScope ["scheme", "stored", "wanted", "thing", "word", "one", "other"] ["scheme", "stored", "wanted", "thing"] (defScope st_shows_answer) := ⟨rfl, rfl, rfl, by decide +kernel, rfl, by decide +kernel, by decide +kernel⟩
theorem ok_shows_answer {P : Program} {w : World} {K : PySem.W.Frag} {mg : Str → Option Value} {base : Heap} (B : Bts mg) (h : ∃ f fd, Df K mg "shows_answer" st_shows_answer ["scheme", "stored", "wanted", "thing"] f fd) (C_need_wanted : Cl P w K mg base "need_wanted" 7 ["scheme", "stored", "wanted"] s_need_wanted) (C_is_from : Cl P w K mg base "is_from" 3 ["stored", "wanted", "place"] s_is_from) (C_are_alike : Cl P w K mg base "are_alike" 6 ["scheme", "stored", "one", "other"] s_are_alike) (C_sums_of : Cl P w K mg base "sums_of" 5 ["scheme", "table", "rollup"] s_sums_of) : Cl P w K mg base "shows_answer" 8 ["scheme", "stored", "wanted", "thing"] s_shows_answer :=
  fnC h sc_shows_answer l_shows_answer v_shows_answer fun f cdv A outer s H E gd room =>
    (pdss_cons (pds_drop (pd_callC C_need_wanted (room.mono (by decide)) gd (by rfl) (pda_cons (pd_var (pv 0)) (pda_cons (pd_var (pv 1)) (pda_cons (pd_var (pv 2)) pda_nil)))))
    (pdss_cons (pds_if (pdt_w (pdw_or (pdt_not (pdt_val (pd_isi (T := "tuple") (pd_var (pv 3)) (by rfl) B.isi (by rfl) B.tuple (by decide +kernel) (by decide)))) (pdw_or (pdt_cmp op_lt (c2_cmp _) (pd_callB callR_len cl_len (by rfl) B.len (by decide +kernel) (pda_cons (pd_var (pv 3)) pda_nil)) pd_int (nomark _)) (pdw_or1 (pdt_not (pdt_val (pd_isi (T := "str") (pd_ix room.u65 (pd_var (pv 3)) pd_int) (by rfl) B.isi (by rfl) B.str (by decide +kernel) (by decide)))))))) (pdss_one (pds_ret pd_bl)) pdss_nil)
    (pdss_cons (pds_match rfl (pda_cons (pd_ix room.u65 (pd_var (pv 3)) pd_int) (pda_cons (pd_callB callR_len cl_len (by rfl) B.len (by decide +kernel) (pda_cons (pd_var (pv 3)) pda_nil)) pda_nil)) (.cons (pdss_one (pds_ret (pd_callC C_is_from (room.mono (by decide)) gd (by rfl) (pda_cons (pd_var (pv 1)) (pda_cons (pd_var (pv 2)) (pda_cons (pd_ix room.u65 (pd_var (pv 3)) pd_int) pda_nil)))))) (.cons (pdss_cons (pds_asg (pd_var (pv 3)) (pg_tup rfl (pgs_cons (pg_name (i := 4) sc_shows_answer.nd rfl (by first | exact Or.inl rfl | exact Or.inr rfl)) (pgs_cons (pg_name (i := 5) sc_shows_answer.nd rfl (by first | exact Or.inl rfl | exact Or.inr rfl)) (pgs_cons (pg_name (i := 6) sc_shows_answer.nd rfl (by first | exact Or.inl rfl | exact Or.inr rfl)) pgs_nil)))) (gc_tup (gcs_cons (gc_name (vs := [4, 5, 6]) (i := 4) (by decide)) (gcs_cons (gc_name (vs := [4, 5, 6]) (i := 5) (by decide)) (gcs_cons (gc_name (vs := [4, 5, 6]) (i := 6) (by decide)) (gcs_nil (vs := [4, 5, 6])))))))
    (pdss_cons (pds_if (pdt_not (pdt_val (pd_callC C_are_alike (room.mono (by decide)) gd (by rfl) (pda_cons (pd_var (pv 0)) (pda_cons (pd_var (pv 1)) (pda_cons (pd_var (pv 5)) (pda_cons (pd_var (pv 6)) pda_nil))))))) (pdss_one (pds_ret pd_bl)) pdss_nil)
    (pdss_one (pds_ret (pd_cmp (op_neA room.units) c2_ne (pd_callC C_sums_of (room.mono (by decide)) gd (by rfl) (pda_cons (pd_var (pv 0)) (pda_cons (pd_var (pv 5)) (pda_cons (pd_var (pv 2)) pda_nil)))) (pd_callC C_sums_of (room.mono (by decide)) gd (by rfl) (pda_cons (pd_var (pv 0)) (pda_cons (pd_var (pv 6)) (pda_cons (pd_var (pv 2)) pda_nil)))) (nomark _)))))) .nil)))
    (pdss_one (pds_ret pd_bl)))))

abbrev st_own_group : Stmt := topS 57
theorem sc_own_group : FnScope ["attribute", "level", "group", "steps"] ["attribute", "level", "group"] (defScope st_own_group) := ⟨rfl, rfl, rfl, by decide +kernel, rfl, by decide +kernel, by decide +kernel⟩
theorem ok_own_group {P : Program} {w : World} {K : PySem.W.Frag} {mg : Str → Option Value} {base : Heap} (B : Bts mg) (h : ∃ f fd, Df K mg "own_group" st_own_group ["attribute", "level", "group"] f fd) : Cl P w K mg base "own_group" 1 ["attribute", "level", "group"] s_own_group :=
  fnC h sc_own_group l_own_group v_own_group fun f cdv A outer s H E gd room =>
    (pdss_cons (pds_set (i := 3) sc_own_group.nd rfl (by first | exact Or.inl rfl | exact Or.inr rfl) (pd_ix room.u65 (pd_var (pv 0)) pd_int))
    (pdss_cons (pds_while PassesOwn.never (pdt_w (pdw_and (pdt_cmp op_lt (c2_cmp _) (pd_var (pv 1)) (pd_callB callR_len cl_len (by rfl) B.len (by decide +kernel) (pda_cons (pd_var (pv 3)) pda_nil)) (nomark _)) (pdw_and1 (pdt_cmp (op_eqA room.units) c2_eq (pd_countT (pd_ix room.u65 (pd_var (pv 3)) (pd_var (pv 1))) (pd_ix room.u65 (pd_ix room.u65 (pd_var (pv 3)) (pd_var (pv 1))) (pd_var (pv 2)))) pd_int (nomark _))))) (pdss_cons (pds_set (i := 2) sc_own_group.nd rfl (by first | exact Or.inl rfl | exact Or.inr rfl) (pd_ix room.u65 (pd_ix room.u65 (pd_var (pv 3)) (pd_var (pv 1))) (pd_var (pv 2))))
    (pdss_one (pds_set (i := 1) sc_own_group.nd rfl (by first | exact Or.inl rfl | exact Or.inr rfl) (pd_op op_addA c2_add (pd_var (pv 1)) pd_int)))))
    (pdss_one (pds_ret (pd_tup (pda_cons (pd_var (pv 1)) (pda_cons (pd_var (pv 2)) pda_nil)))))))

abbrev st_own_of : Stmt := topS 58
theorem sc_own_of : FnScope ["scheme", "rollup", "cell", "found", "attribute", "level", "group"] ["scheme", "rollup", "cell"] (defScope st_own_of) := ⟨rfl, rfl, rfl, by decide +kernel, rfl, by decide +kernel, by decide +kernel⟩
theorem ok_own_of {P : Program} {w : World} {K : PySem.W.Frag} {mg : Str → Option Value} {base : Heap} (B : Bts mg) (h : ∃ f fd, Df K mg "own_of" st_own_of ["scheme", "rollup", "cell"] f fd) (C_own_group : Cl P w K mg base "own_group" 1 ["attribute", "level", "group"] s_own_group) : Cl P w K mg base "own_of" 2 ["scheme", "rollup", "cell"] s_own_of :=
  fnC h sc_own_of l_own_of v_own_of fun f cdv A outer s H E gd room =>
    (pdss_cons (pds_setLc (i := 3) (own := [("attribute", 4), ("level", 5), ("group", 6)]) (dg := (gT 3 (gC (gV 4) (gC (gV 5) (gC (gV 6) gN))))) (tt := dYes) (te := (dCB s_own_group (dCons (dVar 4) (dCons (dVar 5) (dCons (dVar 6) dNil))))) rfl sc_own_of.nd rfl rfl (sw_true rfl rfl rfl (by decide +kernel)) (pdi_zip3 (pd_var (pv 0)) (pd_var (pv 1)) (pd_var (pv 2)) (by rfl) B.zip) (blkOk_by (own := [("attribute", 4), ("level", 5), ("group", 6)]) (by rfl)) (gc_tup (gcs_cons (gc_name (vs := [4, 5, 6]) (i := 4) (by decide)) (gcs_cons (gc_name (vs := [4, 5, 6]) (i := 5) (by decide)) (gcs_cons (gc_name (vs := [4, 5, 6]) (i := 6) (by decide)) (gcs_nil (vs := [4, 5, 6])))))) (fun _ _ _ _ _ => (pg_tup rfl (pgs_cons (pg_name (i := 4) sc_own_of.nd rfl (by first | exact Or.inl rfl | exact Or.inr rfl)) (pgs_cons (pg_name (i := 5) sc_own_of.nd rfl (by first | exact Or.inl rfl | exact Or.inr rfl)) (pgs_cons (pg_name (i := 6) sc_own_of.nd rfl (by first | exact Or.inl rfl | exact Or.inr rfl)) pgs_nil))))) (fun _ _ _ _ _ => pdts_nil) (fun _ _ _ _ _ => (pd_callC C_own_group (room.mono (by decide)) gd (by rfl) (pda_cons (pd_var (pv 4)) (pda_cons (pd_var (pv 5)) (pda_cons (pd_var (pv 6)) pda_nil))))))
    (pdss_one (pds_ret (pd_tup (pda_cons (pd_callTy call_tuple_ofF cl_tuple (by rfl) B.tuple (by decide +kernel) (pda_cons (pd_lc (own := [("level", 5), ("group", 6)]) (dg := (gT 2 (gC (gV 5) (gC (gV 6) gN)))) (tt := dYes) (te := (dVar 5)) rfl sc_own_of.nd  (pdi_seq (pd_var (pv 3))) (blkOk_by (own := [("level", 5), ("group", 6)]) (by rfl)) (gc_tup (gcs_cons (gc_name (vs := [5, 6]) (i := 5) (by decide)) (gcs_cons (gc_name (vs := [5, 6]) (i := 6) (by decide)) (gcs_nil (vs := [5, 6]))))) (fun _ _ _ _ _ => (pg_tup rfl (pgs_cons (pg_name (i := 5) sc_own_of.nd rfl (by first | exact Or.inl rfl | exact Or.inr rfl)) (pgs_cons (pg_name (i := 6) sc_own_of.nd rfl (by first | exact Or.inl rfl | exact Or.inr rfl)) pgs_nil)))) (fun _ _ _ _ _ => pdts_nil) (fun _ _ _ _ _ => (pd_var (pv 5)))) pda_nil)) (pda_cons (pd_callTy call_tuple_ofF cl_tuple (by rfl) B.tuple (by decide +kernel) (pda_cons (pd_lc (own := [("level", 5), ("group", 6)]) (dg := (gT 2 (gC (gV 5) (gC (gV 6) gN)))) (tt := dYes) (te := (dVar 6)) rfl sc_own_of.nd  (pdi_seq (pd_var (pv 3))) (blkOk_by (own := [("level", 5), ("group", 6)]) (by rfl)) (gc_tup (gcs_cons (gc_name (vs := [5, 6]) (i := 5) (by decide)) (gcs_cons (gc_name (vs := [5, 6]) (i := 6) (by decide)) (gcs_nil (vs := [5, 6]))))) (fun _ _ _ _ _ => (pg_tup rfl (pgs_cons (pg_name (i := 5) sc_own_of.nd rfl (by first | exact Or.inl rfl | exact Or.inr rfl)) (pgs_cons (pg_name (i := 6) sc_own_of.nd rfl (by first | exact Or.inl rfl | exact Or.inr rfl)) pgs_nil)))) (fun _ _ _ _ _ => pdts_nil) (fun _ _ _ _ _ => (pd_var (pv 6)))) pda_nil)) pda_nil))))))

abbrev st_own_cell : Stmt := topS 59
theorem sc_own_cell : FnScope ["scheme", "rollup", "cell"] ["scheme", "rollup", "cell"] (defScope st_own_cell) := ⟨rfl, rfl, rfl, by decide +kernel, rfl, by decide +kernel, by decide +kernel⟩
theorem ok_own_cell {P : Program} {w : World} {K : PySem.W.Frag} {mg : Str → Option Value} {base : Heap} (B : Bts mg) (h : ∃ f fd, Df K mg "own_cell" st_own_cell ["scheme", "rollup", "cell"] f fd) (C_need_scheme : Cl P w K mg base "need_scheme" 6 ["thing"] s_need_scheme) (C_need_rollup : Cl P w K mg base "need_rollup" 4 ["scheme", "thing"] s_need_rollup) (C_need_cell : Cl P w K mg base "need_cell" 4 ["scheme", "rollup", "thing"] s_need_cell) (C_own_of : Cl P w K mg base "own_of" 2 ["scheme", "rollup", "cell"] s_own_of) : Cl P w K mg base "own_cell" 7 ["scheme", "rollup", "cell"] s_own_cell :=
  fnC h sc_own_cell l_own_cell v_own_cell fun f cdv A outer s H E gd room =>
    (pdss_cons (pds_drop (pd_callC C_need_scheme (room.mono (by decide)) gd (by rfl) (pda_cons (pd_var (pv 0)) pda_nil)))
    (pdss_cons (pds_drop (pd_callC C_need_rollup (room.mono (by decide)) gd (by rfl) (pda_cons (pd_var (pv 0)) (pda_cons (pd_var (pv 1)) pda_nil))))
    (pdss_cons (pds_drop (pd_callC C_need_cell (room.mono (by decide)) gd (by rfl) (pda_cons (pd_var (pv 0)) (pda_cons (pd_var (pv 1)) (pda_cons (pd_var (pv 2)) pda_nil)))))
    (pdss_one (pds_ret (pd_callC C_own_of (room.mono (by decide)) gd (by rfl) (pda_cons (pd_var (pv 0)) (pda_cons (pd_var (pv 1)) (pda_cons (pd_var (pv 2)) pda_nil)))))))))

abbrev st_taken_in : Stmt := topS 60
theorem sc_taken_in : FnScope ["attribute", "level", "group", "mine", "wide", "many", "steps", "value"] ["attribute", "level", "group"] (defScope st_taken_in) := ⟨rfl, rfl, rfl, by decide +kernel, rfl, by decide +kernel, by decide +kernel⟩
theorem ok_taken_in {P : Program} {w : World} {K : PySem.W.Frag} {mg : Str → Option Value} {base : Heap} (B : Bts mg) (h : ∃ f fd, Df K mg "taken_in" st_taken_in ["attribute", "level", "group"] f fd) (C_group_above : Cl P w K mg base "group_above" 1 ["attribute", "group", "low", "high"] s_group_above) : Cl P w K mg base "taken_in" 2 ["attribute", "level", "group"] s_taken_in :=
  fnC h sc_taken_in l_taken_in v_taken_in fun f cdv A outer s H E gd room =>
    (pdss_cons (pds_asg (pd_var (pv 0)) (pg_tup rfl (pgs_cons (pg_name (i := 5) sc_taken_in.nd rfl (by first | exact Or.inl rfl | exact Or.inr rfl)) (pgs_cons (pg_name (i := 6) sc_taken_in.nd rfl (by first | exact Or.inl rfl | exact Or.inr rfl)) pgs_nil))) (gc_tup (gcs_cons (gc_name (vs := [5, 6]) (i := 5) (by decide)) (gcs_cons (gc_name (vs := [5, 6]) (i := 6) (by decide)) (gcs_nil (vs := [5, 6]))))))
    (pdss_cons (pds_set (i := 3) sc_taken_in.nd rfl (by first | exact Or.inl rfl | exact Or.inr rfl) (pd_lc (own := [("value", 7)]) (dg := (gV 7)) (tt := (dTest (dOp aEq (dCB s_group_above (dCons (dVar 0) (dCons (dVar 7) (dCons (dC (.int 0)) (dCons (dVar 1) dNil))))) (dVar 2)))) (te := (dVar 7)) rfl sc_taken_in.nd  (pdi_rg1 (pd_var (pv 5)) (by rfl) B.range) (blkOk_by (own := [("value", 7)]) (by rfl)) (gc_name (vs := [7]) (i := 7) (by decide)) (fun _ _ _ _ _ => (pg_name (i := 7) sc_taken_in.nd rfl (by first | exact Or.inl rfl | exact Or.inr rfl))) (fun _ _ _ _ _ => (pdts_one (pdt_cmp (op_eqA room.units) c2_eq (pd_callC C_group_above (room.mono (by decide)) gd (by rfl) (pda_cons (pd_var (pv 0)) (pda_cons (pd_var (pv 7)) (pda_cons pd_int (pda_cons (pd_var (pv 1)) pda_nil))))) (pd_var (pv 2)) (nomark _)))) (fun _ _ _ _ _ => (pd_var (pv 7)))))
    (pdss_cons (pds_if (pdt_cmp (op_eqA room.units) c2_eq (pd_var (pv 1)) (pd_callB callR_len cl_len (by rfl) B.len (by decide +kernel) (pda_cons (pd_var (pv 6)) pda_nil)) (nomark _)) (pdss_one (pds_ret (pd_tup (pda_cons (pd_ix room.u65 (pd_var (pv 3)) pd_int) pda_nil)))) pdss_nil)
    (pdss_cons (pds_setLc (i := 4) (own := [("value", 7)]) (dg := (gV 7)) (tt := (dTest (dOp aEq (dCB s_group_above (dCons (dVar 0) (dCons (dVar 7) (dCons (dC (.int 0)) (dCons (dOp aAdd (dVar 1) (dC (.int 1))) dNil))))) (dOp aIx (dOp aIx (dVar 6) (dVar 1)) (dVar 2))))) (te := (dVar 7)) rfl sc_taken_in.nd rfl rfl (sw_true rfl rfl rfl (by decide +kernel)) (pdi_rg1 (pd_var (pv 5)) (by rfl) B.range) (blkOk_by (own := [("value", 7)]) (by rfl)) (gc_name (vs := [7]) (i := 7) (by decide)) (fun _ _ _ _ _ => (pg_name (i := 7) sc_taken_in.nd rfl (by first | exact Or.inl rfl | exact Or.inr rfl))) (fun _ _ _ _ _ => (pdts_one (pdt_cmp (op_eqA room.units) c2_eq (pd_callC C_group_above (room.mono (by decide)) gd (by rfl) (pda_cons (pd_var (pv 0)) (pda_cons (pd_var (pv 7)) (pda_cons pd_int (pda_cons (pd_op op_addA c2_add (pd_var (pv 1)) pd_int) pda_nil))))) (pd_ix room.u65 (pd_ix room.u65 (pd_var (pv 6)) (pd_var (pv 1))) (pd_var (pv 2))) (nomark _)))) (fun _ _ _ _ _ => (pd_var (pv 7))))
    (pdss_one (pds_ret (pd_tup (pda_cons (pd_ix room.u65 (pd_var (pv 3)) pd_int) (pda_cons (pd_ix room.u65 (pd_lc (own := [("value", 7)]) (dg := (gV 7)) (tt := (dTest (dOp aNotIn (dVar 7) (dVar 3)))) (te := (dVar 7)) rfl sc_taken_in.nd  (pdi_seq (pd_var (pv 4))) (blkOk_by (own := [("value", 7)]) (by rfl)) (gc_name (vs := [7]) (i := 7) (by decide)) (fun _ _ _ _ _ => (pg_name (i := 7) sc_taken_in.nd rfl (by first | exact Or.inl rfl | exact Or.inr rfl))) (fun _ _ _ _ _ => (pdts_one (pdt_cmp (op_notInA room.u65) c2_notIn (pd_var (pv 7)) (pd_var (pv 3)) (by rfl)))) (fun _ _ _ _ _ => (pd_var (pv 7)))) pd_int) pda_nil)))))))))

abbrev st_answer_at : Stmt := topS 61
theorem sc_answer_at : FnScope ["scheme", "stored", "wanted", "cell", "found", "taken", "rollup", "place", "one", "other", "attribute", "level", "group"] ["scheme", "stored", "wanted", "cell"] (defScope st_answer_at) := ⟨rfl, rfl, rfl, by decide +kernel, rfl, by decide +kernel, by decide +kernel⟩
theorem ok_answer_at {P : Program} {w : World} {K : PySem.W.Frag} {mg : Str → Option Value} {base : Heap} (B : Bts mg) (h : ∃ f fd, Df K mg "answer_at" st_answer_at ["scheme", "stored", "wanted", "cell"] f fd) (c_FROM : Cs mg "FROM" (Str.ofString "from")) (c_TABLES : Cs mg "TABLES" (Str.ofString "tables")) (C_own_of : Cl P w K mg base "own_of" 2 ["scheme", "rollup", "cell"] s_own_of) (C_place_of : Cl P w K mg base "place_of" 2 ["stored", "wanted"] s_place_of) (C_two_tables : Cl P w K mg base "two_tables" 4 ["scheme", "taken"] s_two_tables) (C_taken_in : Cl P w K mg base "taken_in" 2 ["attribute", "level", "group"] s_taken_in) : Cl P w K mg base "answer_at" 5 ["scheme", "stored", "wanted", "cell"] s_answer_at :=
  fnC h sc_answer_at l_answer_at v_answer_at fun f cdv A outer s H E gd room =>
    (pdss_cons (pds_asg (pd_callC C_own_of (room.mono (by decide)) gd (by rfl) (pda_cons (pd_var (pv 0)) (pda_cons (pd_var (pv 2)) (pda_cons (pd_var (pv 3)) pda_nil)))) (pg_tup rfl (pgs_cons (pg_name (i := 6) sc_answer_at.nd rfl (by first | exact Or.inl rfl | exact Or.inr rfl)) (pgs_cons (pg_name (i := 7) sc_answer_at.nd rfl (by first | exact Or.inl rfl | exact Or.inr rfl)) pgs_nil))) (gc_tup (gcs_cons (gc_name (vs := [6, 7]) (i := 6) (by decide)) (gcs_cons (gc_name (vs := [6, 7]) (i := 7) (by decide)) (gcs_nil (vs := [6, 7]))))))
    (pdss_cons (pds_set (i := 4) sc_answer_at.nd rfl (by first | exact Or.inl rfl | exact Or.inr rfl) (pd_callC C_place_of (room.mono (by decide)) gd (by rfl) (pda_cons (pd_var (pv 1)) (pda_cons (pd_var (pv 6)) pda_nil))))
    (pdss_cons (pds_if (pdt_cmp op_ge (c2_cmp _) (pd_var (pv 4)) pd_int (nomark _)) (pdss_one (pds_ret (pd_tup (pda_cons (pd_globS c_FROM (by rfl)) (pda_cons (pd_var (pv 4)) pda_nil))))) pdss_nil)
    (pdss_cons (pds_setLc (i := 5) (own := [("attribute", 10), ("level", 11), ("group", 12)]) (dg := (gT 3 (gC (gV 10) (gC (gV 11) (gC (gV 12) gN))))) (tt := dYes) (te := (dCB s_taken_in (dCons (dVar 10) (dCons (dVar 11) (dCons (dVar 12) dNil))))) rfl sc_answer_at.nd rfl rfl (sw_true rfl rfl rfl (by decide +kernel)) (pdi_zip3 (pd_var (pv 0)) (pd_var (pv 6)) (pd_var (pv 7)) (by rfl) B.zip) (blkOk_by (own := [("attribute", 10), ("level", 11), ("group", 12)]) (by rfl)) (gc_tup (gcs_cons (gc_name (vs := [10, 11, 12]) (i := 10) (by decide)) (gcs_cons (gc_name (vs := [10, 11, 12]) (i := 11) (by decide)) (gcs_cons (gc_name (vs := [10, 11, 12]) (i := 12) (by decide)) (gcs_nil (vs := [10, 11, 12])))))) (fun _ _ _ _ _ => (pg_tup rfl (pgs_cons (pg_name (i := 10) sc_answer_at.nd rfl (by first | exact Or.inl rfl | exact Or.inr rfl)) (pgs_cons (pg_name (i := 11) sc_answer_at.nd rfl (by first | exact Or.inl rfl | exact Or.inr rfl)) (pgs_cons (pg_name (i := 12) sc_answer_at.nd rfl (by first | exact Or.inl rfl | exact Or.inr rfl)) pgs_nil))))) (fun _ _ _ _ _ => pdts_nil) (fun _ _ _ _ _ => (pd_callC C_taken_in (room.mono (by decide)) gd (by rfl) (pda_cons (pd_var (pv 10)) (pda_cons (pd_var (pv 11)) (pda_cons (pd_var (pv 12)) pda_nil))))))
    (pdss_cons (pds_asg (pd_callC C_two_tables (room.mono (by decide)) gd (by rfl) (pda_cons (pd_var (pv 0)) (pda_cons (pd_var (pv 5)) pda_nil))) (pg_tup rfl (pgs_cons (pg_name (i := 8) sc_answer_at.nd rfl (by first | exact Or.inl rfl | exact Or.inr rfl)) (pgs_cons (pg_name (i := 9) sc_answer_at.nd rfl (by first | exact Or.inl rfl | exact Or.inr rfl)) pgs_nil))) (gc_tup (gcs_cons (gc_name (vs := [8, 9]) (i := 8) (by decide)) (gcs_cons (gc_name (vs := [8, 9]) (i := 9) (by decide)) (gcs_nil (vs := [8, 9]))))))
    (pdss_one (pds_ret (pd_tup (pda_cons (pd_globS c_TABLES (by rfl)) (pda_cons (pd_var (pv 8)) (pda_cons (pd_var (pv 9)) pda_nil)))))))))))

abbrev st_answer_cell : Stmt := topS 62
theorem sc_answer_cell : FnScope ["scheme", "stored", "wanted", "cell"] ["scheme", "stored", "wanted", "cell"] (defScope st_answer_cell) := ⟨rfl, rfl, rfl, by decide +kernel, rfl, by decide +kernel, by decide +kernel⟩
theorem ok_answer_cell {P : Program} {w : World} {K : PySem.W.Frag} {mg : Str → Option Value} {base : Heap} (B : Bts mg) (h : ∃ f fd, Df K mg "answer_cell" st_answer_cell ["scheme", "stored", "wanted", "cell"] f fd) (C_need_wanted : Cl P w K mg base "need_wanted" 7 ["scheme", "stored", "wanted"] s_need_wanted) (C_need_cell : Cl P w K mg base "need_cell" 4 ["scheme", "rollup", "thing"] s_need_cell) (C_answer_at : Cl P w K mg base "answer_at" 5 ["scheme", "stored", "wanted", "cell"] s_answer_at) : Cl P w K mg base "answer_cell" 8 ["scheme", "stored", "wanted", "cell"] s_answer_cell :=
  fnC h sc_answer_cell l_answer_cell v_answer_cell fun f cdv A outer s H E gd room =>
    (pdss_cons (pds_drop (pd_callC C_need_wanted (room.mono (by decide)) gd (by rfl) (pda_cons (pd_var (pv 0)) (pda_cons (pd_var (pv 1)) (pda_cons (pd_var (pv 2)) pda_nil)))))
    (pdss_cons (pds_drop (pd_callC C_need_cell (room.mono (by decide)) gd (by rfl) (pda_cons (pd_var (pv 0)) (pda_cons (pd_var (pv 2)) (pda_cons (pd_var (pv 3)) pda_nil)))))
    (pdss_one (pds_ret (pd_callC C_answer_at (room.mono (by decide)) gd (by rfl) (pda_cons (pd_var (pv 0)) (pda_cons (pd_var (pv 1)) (pda_cons (pd_var (pv 2)) (pda_cons (pd_var (pv 3)) pda_nil)))))))))

abbrev st_sum_at : Stmt := topS 63
theorem sc_sum_at : FnScope ["scheme", "table", "wanted", "cell"] ["scheme", "table", "wanted", "cell"] (defScope st_sum_at) := ⟨rfl, rfl, rfl, by decide +kernel, rfl, by decide +kernel, by decide +kernel⟩
theorem ok_sum_at {P : Program} {w : World} {K : PySem.W.Frag} {mg : Str → Option Value} {base : Heap} (B : Bts mg) (h : ∃ f fd, Df K mg "sum_at" st_sum_at ["scheme", "table", "wanted", "cell"] f fd) (C_sums_of : Cl P w K mg base "sums_of" 5 ["scheme", "table", "rollup"] s_sums_of) (C_cells_of : Cl P w K mg base "cells_of" 3 ["scheme", "rollup"] s_cells_of) : Cl P w K mg base "sum_at" 6 ["scheme", "table", "wanted", "cell"] s_sum_at :=
  fnC h sc_sum_at l_sum_at v_sum_at fun f cdv A outer s H E gd room =>
    (pdss_one (pds_ret (pd_ix room.u65 (pd_callC C_sums_of (room.mono (by decide)) gd (by rfl) (pda_cons (pd_var (pv 0)) (pda_cons (pd_var (pv 1)) (pda_cons (pd_var (pv 2)) pda_nil)))) (pd_indexL room.u65 (pd_callC C_cells_of (room.mono (by decide)) gd (by rfl) (pda_cons (pd_var (pv 0)) (pda_cons (pd_var (pv 2)) pda_nil))) (pd_var (pv 3))))))

abbrev st_shows_answer_cell : Stmt := topS 64
theorem sc_shows_answer_cell : FnScope ["scheme", "stored", "wanted", "cell", "thing", "word", "one", "other"] ["scheme", "stored", "wanted", "cell", "thing"] (defScope st_shows_answer_cell) := ⟨rfl, rfl, rfl, by decide +kernel, rfl, by decide +kernel, by decide +kernel⟩
theorem ok_shows_answer_cell {P : Program} {w : World} {K : PySem.W.Frag} {mg : Str → Option Value} {base : Heap} (B : Bts mg) (h : ∃ f fd, Df K mg "shows_answer_cell" st_shows_answer_cell ["scheme", "stored", "wanted", "cell", "thing"] f fd) (C_need_wanted : Cl P w K mg base "need_wanted" 7 ["scheme", "stored", "wanted"] s_need_wanted) (C_need_cell : Cl P w K mg base "need_cell" 4 ["scheme", "rollup", "thing"] s_need_cell) (C_is_from : Cl P w K mg base "is_from" 3 ["stored", "wanted", "place"] s_is_from) (C_are_alike : Cl P w K mg base "are_alike" 6 ["scheme", "stored", "one", "other"] s_are_alike) (C_sum_at : Cl P w K mg base "sum_at" 6 ["scheme", "table", "wanted", "cell"] s_sum_at) (C_own_of : Cl P w K mg base "own_of" 2 ["scheme", "rollup", "cell"] s_own_of) : Cl P w K mg base "shows_answer_cell" 8 ["scheme", "stored", "wanted", "cell", "thing"] s_shows_answer_cell :=
  fnC h sc_shows_answer_cell l_shows_answer_cell v_shows_answer_cell fun f cdv A outer s H E gd room =>
    (pdss_cons (pds_drop (pd_callC C_need_wanted (room.mono (by decide)) gd (by rfl) (pda_cons (pd_var (pv 0)) (pda_cons (pd_var (pv 1)) (pda_cons (pd_var (pv 2)) pda_nil)))))
    (pdss_cons (pds_drop (pd_callC C_need_cell (room.mono (by decide)) gd (by rfl) (pda_cons (pd_var (pv 0)) (pda_cons (pd_var (pv 2)) (pda_cons (pd_var (pv 3)) pda_nil)))))
    (pdss_cons (pds_if (pdt_w (pdw_or (pdt_not (pdt_val (pd_isi (T := "tuple") (pd_var (pv 4)) (by rfl) B.isi (by rfl) B.tuple (by decide +kernel) (by decide)))) (pdw_or (pdt_cmp op_lt (c2_cmp _) (pd_callB callR_len cl_len (by rfl) B.len (by decide +kernel) (pda_cons (pd_var (pv 4)) pda_nil)) pd_int (nomark _)) (pdw_or1 (pdt_not (pdt_val (pd_isi (T := "str") (pd_ix room.u65 (pd_var (pv 4)) pd_int) (by rfl) B.isi (by rfl) B.str (by decide +kernel) (by decide)))))))) (pdss_one (pds_ret pd_bl)) pdss_nil)
    (pdss_cons (pds_match rfl (pda_cons (pd_ix room.u65 (pd_var (pv 4)) pd_int) (pda_cons (pd_callB callR_len cl_len (by rfl) B.len (by decide +kernel) (pda_cons (pd_var (pv 4)) pda_nil)) pda_nil)) (.cons (pdss_one (pds_ret (pd_callC C_is_from (room.mono (by decide)) gd (by rfl) (pda_cons (pd_var (pv 1)) (pda_cons (pd_ix room.u65 (pd_callC C_own_of (room.mono (by decide)) gd (by rfl) (pda_cons (pd_var (pv 0)) (pda_cons (pd_var (pv 2)) (pda_cons (pd_var (pv 3)) pda_nil)))) pd_int) (pda_cons (pd_ix room.u65 (pd_var (pv 4)) pd_int) pda_nil)))))) (.cons (pdss_cons (pds_asg (pd_var (pv 4)) (pg_tup rfl (pgs_cons (pg_name (i := 5) sc_shows_answer_cell.nd rfl (by first | exact Or.inl rfl | exact Or.inr rfl)) (pgs_cons (pg_name (i := 6) sc_shows_answer_cell.nd rfl (by first | exact Or.inl rfl | exact Or.inr rfl)) (pgs_cons (pg_name (i := 7) sc_shows_answer_cell.nd rfl (by first | exact Or.inl rfl | exact Or.inr rfl)) pgs_nil)))) (gc_tup (gcs_cons (gc_name (vs := [5, 6, 7]) (i := 5) (by decide)) (gcs_cons (gc_name (vs := [5, 6, 7]) (i := 6) (by decide)) (gcs_cons (gc_name (vs := [5, 6, 7]) (i := 7) (by decide)) (gcs_nil (vs := [5, 6, 7])))))))
    (pdss_cons (pds_if (pdt_not (pdt_val (pd_callC C_are_alike (room.mono (by decide)) gd (by rfl) (pda_cons (pd_var (pv 0)) (pda_cons (pd_var (pv 1)) (pda_cons (pd_var (pv 6)) (pda_cons (pd_var (pv 7)) pda_nil))))))) (pdss_one (pds_ret pd_bl)) pdss_nil)
    (pdss_one (pds_ret (pd_cmp (op_neA room.units) c2_ne (pd_callC C_sum_at (room.mono (by decide)) gd (by rfl) (pda_cons (pd_var (pv 0)) (pda_cons (pd_var (pv 6)) (pda_cons (pd_var (pv 2)) (pda_cons (pd_var (pv 3)) pda_nil))))) (pd_callC C_sum_at (room.mono (by decide)) gd (by rfl) (pda_cons (pd_var (pv 0)) (pda_cons (pd_var (pv 7)) (pda_cons (pd_var (pv 2)) (pda_cons (pd_var (pv 3)) pda_nil))))) (nomark _)))))) .nil)))
    (pdss_one (pds_ret pd_bl))))))

abbrev st_law_cell_at : Stmt := topS 66
theorem sc_law_cell_at : FnScope ["_law_script", "_law_k"] ["_law_script", "_law_k"] (defScope st_law_cell_at) := ⟨rfl, rfl, rfl, by decide +kernel, rfl, by decide +kernel, by decide +kernel⟩
theorem ok_law_cell_at {P : Program} {w : World} {K : PySem.W.Frag} {mg : Str → Option Value} {base : Heap} (B : Bts mg) (h : ∃ f fd, Df K mg "_law_cell_at" st_law_cell_at ["_law_script", "_law_k"] f fd) : Cl P w K mg base "_law_cell_at" 1 ["_law_script", "_law_k"] s_law_cell_at :=
  fnC h sc_law_cell_at l_law_cell_at v_law_cell_at fun f cdv A outer s H E gd room =>
    (pdss_cons (pds_if (pdt_cmp op_lt (c2_cmp _) (pd_var (pv 1)) (pd_callB callR_len cl_len (by rfl) B.len (by decide +kernel) (pda_cons (pd_var (pv 0)) pda_nil)) (nomark _)) (pdss_one (pds_ret (pd_ix room.u65 (pd_var (pv 0)) (pd_var (pv 1))))) pdss_nil)
    (pdss_one (pds_ret pd_int)))

abbrev st_law_pen : Stmt := topS 67
theorem sc_law_pen : FnScope ["_law_cell"] ["_law_cell"] (defScope st_law_pen) := ⟨rfl, rfl, rfl, by decide +kernel, rfl, by decide +kernel, by decide +kernel⟩
theorem ok_law_pen {P : Program} {w : World} {K : PySem.W.Frag} {mg : Str → Option Value} {base : Heap} (B : Bts mg) (h : ∃ f fd, Df K mg "_law_pen" st_law_pen ["_law_cell"] f fd) : Cl P w K mg base "_law_pen" 1 ["_law_cell"] s_law_pen :=
  fnC h sc_law_pen l_law_pen v_law_pen fun f cdv A outer s H E gd room =>
    (pdss_one (pds_ret (pd_lstM (pda_cons (pd_callB (callR_max rfl room.units) cl_max (by rfl) B.max (by decide +kernel) (pda_cons pd_int (pda_cons (pd_op op_sub c2_sub (pd_var (pv 0)) (pd_op op_pow c2_pow pd_int pd_int)) pda_nil))) (pda_cons (pd_op op_mod c2_mod (pd_var (pv 0)) pd_int) (pda_cons pd_int pda_nil))))))

abbrev st_law_draw : Stmt := topS 68
theorem sc_law_draw : FnScope ["_law_pen_here", "_law_many", "_law_stir", "_law_digit"] ["_law_pen_here", "_law_many"] (defScope st_law_draw) := ⟨rfl, rfl, rfl, by decide +kernel, rfl, by decide +kernel, by decide +kernel⟩
theorem ok_law_draw {P : Program} {w : World} {K : PySem.W.Frag} {mg : Str → Option Value} {base : Heap} (B : Bts mg) (h : ∃ f fd, Df K mg "_law_draw" st_law_draw ["_law_pen_here", "_law_many"] f fd) : Cl P w K mg base "_law_draw" 1 ["_law_pen_here", "_law_many"] s_law_draw :=
  fnC h sc_law_draw l_law_draw v_law_draw fun f cdv A outer s H E gd room =>
    (pdss_cons (pds_if (pdt_cmp op_gt (c2_cmp _) (pd_ix room.u65 (pd_var (pv 0)) pd_int) pd_int (nomark _)) (pdss_cons (pds_set (i := 3) sc_law_draw.nd rfl (by first | exact Or.inl rfl | exact Or.inr rfl) (pd_op op_mod c2_mod (pd_ix room.u65 (pd_var (pv 0)) pd_int) (pd_var (pv 1))))
    (pdss_cons (pds_put room.u65 (pd_op op_fdiv c2_div (pd_ix room.u65 (pd_var (pv 0)) pd_int) (pd_var (pv 1))) (pd_var (pv 0)) pd_int)
    (pdss_one (pds_ret (pd_var (pv 3)))))) pdss_nil)
    (pdss_cons (pds_put room.u65 (pd_op op_addA c2_add (pd_ix room.u65 (pd_var (pv 0)) pd_int) pd_int) (pd_var (pv 0)) pd_int)
    (pdss_cons (pds_set (i := 2) sc_law_draw.nd rfl (by first | exact Or.inl rfl | exact Or.inr rfl) (pd_op op_mod c2_mod (pd_op op_mulA c2_mulA (pd_op op_addA c2_add (pd_ix room.u65 (pd_var (pv 0)) pd_int) (pd_op op_mulA c2_mulA pd_int (pd_ix room.u65 (pd_var (pv 0)) pd_int))) (pd_op op_addA c2_add pd_int (pd_op op_mulA c2_mulA pd_int (pd_ix room.u65 (pd_var (pv 0)) pd_int)))) pd_int))
    (pdss_cons (pds_set (i := 2) sc_law_draw.nd rfl (by first | exact Or.inl rfl | exact Or.inr rfl) (pd_op op_mod c2_mod (pd_op op_addA c2_add (pd_op op_addA c2_add (pd_op op_mulA c2_mulA (pd_var (pv 2)) (pd_var (pv 2))) (pd_op op_mulA c2_mulA pd_int (pd_ix room.u65 (pd_var (pv 0)) pd_int))) pd_int) pd_int))
    (pdss_one (pds_ret (pd_op op_mod c2_mod (pd_op op_fdiv c2_div (pd_op op_mod c2_mod (pd_op op_mulA c2_mulA (pd_var (pv 2)) pd_int) pd_int) pd_int) (pd_var (pv 1)))))))))

abbrev st_law_pick : Stmt := topS 69
theorem sc_law_pick : FnScope ["_law_pen_here", "_law_things"] ["_law_pen_here", "_law_things"] (defScope st_law_pick) := ⟨rfl, rfl, rfl, by decide +kernel, rfl, by decide +kernel, by decide +kernel⟩
theorem ok_law_pick {P : Program} {w : World} {K : PySem.W.Frag} {mg : Str → Option Value} {base : Heap} (B : Bts mg) (h : ∃ f fd, Df K mg "_law_pick" st_law_pick ["_law_pen_here", "_law_things"] f fd) (C_law_draw : Cl P w K mg base "_law_draw" 1 ["_law_pen_here", "_law_many"] s_law_draw) : Cl P w K mg base "_law_pick" 2 ["_law_pen_here", "_law_things"] s_law_pick :=
  fnC h sc_law_pick l_law_pick v_law_pick fun f cdv A outer s H E gd room =>
    (pdss_one (pds_ret (pd_ix room.u65 (pd_var (pv 1)) (pd_callC C_law_draw (room.mono (by decide)) gd (by rfl) (pda_cons (pd_var (pv 0)) (pda_cons (pd_callB callR_len cl_len (by rfl) B.len (by decide +kernel) (pda_cons (pd_var (pv 1)) pda_nil)) pda_nil))))))

abbrev st_law_mixed : Stmt := topS 70
theorem sc_law_mixed : FnScope ["_law_pen_here", "_law_things", "_law_left", "_law_found"] ["_law_pen_here", "_law_things"] (defScope st_law_mixed) := ⟨rfl, rfl, rfl, by decide +kernel, rfl, by decide +kernel, by decide +kernel⟩
theorem ok_law_mixed {P : Program} {w : World} {K : PySem.W.Frag} {mg : Str → Option Value} {base : Heap} (B : Bts mg) (h : ∃ f fd, Df K mg "_law_mixed" st_law_mixed ["_law_pen_here", "_law_things"] f fd) (C_law_draw : Cl P w K mg base "_law_draw" 1 ["_law_pen_here", "_law_many"] s_law_draw) : Cl P w K mg base "_law_mixed" 2 ["_law_pen_here", "_law_things"] s_law_mixed :=
  fnC h sc_law_mixed l_law_mixed v_law_mixed fun f cdv A outer s H E gd room =>
    (pdss_cons (pds_par (i := 2) (j := 3) rfl sc_law_mixed.nd rfl rfl (by decide) rfl rfl (pda_cons (pd_callTy call_list_of cl_listM (by rfl) B.list (by decide +kernel) (pda_cons (pd_var (pv 1)) pda_nil)) (pda_cons (pd_lstM pda_nil) pda_nil)) (by rfl))
    (pdss_cons (pds_while PassesOwn.never (pdt_cmp (op_neA room.units) c2_ne (pd_var (pv 2)) (pd_lst pda_nil) (nomark _)) (pdss_one (pds_drop (pd_append (pd_var (pv 3)) (pd_popAt (pd_var (pv 2)) (pd_callC C_law_draw (room.mono (by decide)) gd (by rfl) (pda_cons (pd_var (pv 0)) (pda_cons (pd_callB callR_len cl_len (by rfl) B.len (by decide +kernel) (pda_cons (pd_var (pv 2)) pda_nil)) pda_nil))))))))
    (pdss_one (pds_retF (pv 3)))))

abbrev st_law_attribute : Stmt := topS 71
theorem sc_law_attribute : FnScope ["_law_pen_here", "_law_most", "_law_many", "_law_turn", "_law_groups_here", "_law_steps", "_law_fewer", "_law_more", "_law_place"] ["_law_pen_here", "_law_most"] (defScope st_law_attribute) := ⟨rfl, rfl, rfl, by decide +kernel, rfl, by decide +kernel, by decide +kernel⟩
theorem ok_law_attribute {P : Program} {w : World} {K : PySem.W.Frag} {mg : Str → Option Value} {base : Heap} (B : Bts mg) (h : ∃ f fd, Df K mg "_law_attribute" st_law_attribute ["_law_pen_here", "_law_most"] f fd) (C_law_draw : Cl P w K mg base "_law_draw" 1 ["_law_pen_here", "_law_many"] s_law_draw) (C_law_mixed : Cl P w K mg base "_law_mixed" 2 ["_law_pen_here", "_law_things"] s_law_mixed) : Cl P w K mg base "_law_attribute" 3 ["_law_pen_here", "_law_most"] s_law_attribute :=
  fnC h sc_law_attribute l_law_attribute v_law_attribute fun f cdv A outer s H E gd room =>
    (pdss_cons (pds_set (i := 2) sc_law_attribute.nd rfl (by first | exact Or.inl rfl | exact Or.inr rfl) (pd_op op_addA c2_add pd_int (pd_callC C_law_draw (room.mono (by decide)) gd (by rfl) (pda_cons (pd_var (pv 0)) (pda_cons (pd_var (pv 1)) pda_nil)))))
    (pdss_cons (pds_par (i := 4) (j := 5) rfl sc_law_attribute.nd rfl rfl (by decide) rfl rfl (pda_cons (pd_var (pv 2)) (pda_cons (pd_lstM pda_nil) pda_nil)) (by rfl))
    (pdss_cons (pds_for PassesOwn.never rfl (pdi_rg1 (pd_callC C_law_draw (room.mono (by decide)) gd (by rfl) (pda_cons (pd_var (pv 0)) (pda_cons pd_int pda_nil))) (by rfl) B.range) (pg_name (i := 3) sc_law_attribute.nd rfl (by first | exact Or.inl rfl | exact Or.inr rfl)) (gc_name (vs := [3]) (i := 3) (by decide)) (pdss_one (pds_if (pdt_cmp op_gt (c2_cmp _) (pd_var (pv 4)) pd_int (nomark _)) (pdss_cons (pds_set (i := 6) sc_law_attribute.nd rfl (by first | exact Or.inl rfl | exact Or.inr rfl) (pd_op op_addA c2_add pd_int (pd_callC C_law_draw (room.mono (by decide)) gd (by rfl) (pda_cons (pd_var (pv 0)) (pda_cons (pd_op op_sub c2_sub (pd_var (pv 4)) pd_int) pda_nil)))))
    (pdss_cons (pds_setLc (i := 7) (own := [("_law_place", 8)]) (dg := (gV 8)) (tt := dYes) (te := (dCB s_law_draw (dCons (dVar 0) (dCons (dVar 6) dNil)))) rfl sc_law_attribute.nd rfl rfl (sw_true rfl rfl rfl (by decide +kernel)) (pdi_rg1 (pd_op op_sub c2_sub (pd_var (pv 4)) (pd_var (pv 6))) (by rfl) B.range) (blkOk_by (own := [("_law_place", 8)]) (by rfl)) (gc_name (vs := [8]) (i := 8) (by decide)) (fun _ _ _ _ _ => (pg_name (i := 8) sc_law_attribute.nd rfl (by first | exact Or.inl rfl | exact Or.inr rfl))) (fun _ _ _ _ _ => pdts_nil) (fun _ _ _ _ _ => (pd_callC C_law_draw (room.mono (by decide)) gd (by rfl) (pda_cons (pd_var (pv 0)) (pda_cons (pd_var (pv 6)) pda_nil)))))
    (pdss_cons (pds_drop (pd_append (pd_var (pv 5)) (pd_callTy call_tuple_ofF cl_tuple (by rfl) B.tuple (by decide +kernel) (pda_cons (pd_callC C_law_mixed (room.mono (by decide)) gd (by rfl) (pda_cons (pd_var (pv 0)) (pda_cons (pd_op op_addA c2_add (pd_listRg (by rfl) B.list (by rfl) B.range (pd_var (pv 6))) (pd_var (pv 7))) pda_nil))) pda_nil))))
    (pdss_one (pds_set (i := 4) sc_law_attribute.nd rfl (by first | exact Or.inl rfl | exact Or.inr rfl) (pd_var (pv 6))))))) pdss_nil)))
    (pdss_one (pds_ret (pd_tup (pda_cons (pd_var (pv 2)) (pda_cons (pd_callTy call_tuple_ofF cl_tuple (by rfl) B.tuple (by decide +kernel) (pda_cons (pd_var (pv 5)) pda_nil)) pda_nil))))))))

abbrev st_law_scheme : Stmt := topS 72
theorem sc_law_scheme : FnScope ["_law_pen_here", "_law_mosts", "_law_most"] ["_law_pen_here"] (defScope st_law_scheme) := ⟨rfl, rfl, rfl, by decide +kernel, rfl, by decide +kernel, by decide +kernel⟩
theorem ok_law_scheme {P : Program} {w : World} {K : PySem.W.Frag} {mg : Str → Option Value} {base : Heap} (B : Bts mg) (h : ∃ f fd, Df K mg "_law_scheme" st_law_scheme ["_law_pen_here"] f fd) (C_law_pick : Cl P w K mg base "_law_pick" 2 ["_law_pen_here", "_law_things"] s_law_pick) (C_law_attribute : Cl P w K mg base "_law_attribute" 3 ["_law_pen_here", "_law_most"] s_law_attribute) : Cl P w K mg base "_law_scheme" 4 ["_law_pen_here"] s_law_scheme :=
  fnC h sc_law_scheme l_law_scheme v_law_scheme fun f cdv A outer s H E gd room =>
    (pdss_cons (pds_set (i := 1) sc_law_scheme.nd rfl (by first | exact Or.inl rfl | exact Or.inr rfl) (pd_callC C_law_pick (room.mono (by decide)) gd (by rfl) (pda_cons (pd_var (pv 0)) (pda_cons (pd_lst (pda_cons (pd_lst (pda_cons pd_int pda_nil)) (pda_cons (pd_lst (pda_cons pd_int (pda_cons pd_int pda_nil))) (pda_cons (pd_lst (pda_cons pd_int (pda_cons pd_int pda_nil))) (pda_cons (pd_lst (pda_cons pd_int (pda_cons pd_int (pda_cons pd_int pda_nil)))) (pda_cons (pd_lst (pda_cons pd_int (pda_cons pd_int (pda_cons pd_int pda_nil)))) (pda_cons (pd_lst (pda_cons pd_int (pda_cons pd_int (pda_cons pd_int pda_nil)))) (pda_cons (pd_lst (pda_cons pd_int (pda_cons pd_int (pda_cons pd_int pda_nil)))) pda_nil)))))))) pda_nil))))
    (pdss_one (pds_ret (pd_callTy call_tuple_ofF cl_tuple (by rfl) B.tuple (by decide +kernel) (pda_cons (pd_lc (own := [("_law_most", 2)]) (dg := (gV 2)) (tt := dYes) (te := (dCB s_law_attribute (dCons (dVar 0) (dCons (dVar 2) dNil)))) rfl sc_law_scheme.nd  (pdi_seq (pd_var (pv 1))) (blkOk_by (own := [("_law_most", 2)]) (by rfl)) (gc_name (vs := [2]) (i := 2) (by decide)) (fun _ _ _ _ _ => (pg_name (i := 2) sc_law_scheme.nd rfl (by first | exact Or.inl rfl | exact Or.inr rfl))) (fun _ _ _ _ _ => pdts_nil) (fun _ _ _ _ _ => (pd_callC C_law_attribute (room.mono (by decide)) gd (by rfl) (pda_cons (pd_var (pv 0)) (pda_cons (pd_var (pv 2)) pda_nil))))) pda_nil)))))

abbrev st_law_rows : Stmt := topS 73
theorem sc_law_rows : FnScope ["_law_attribute_here", "_law_rows_here", "_law_step", "_law_group"] ["_law_attribute_here"] (defScope st_law_rows) := ⟨rfl, rfl, rfl, by decide +kernel, rfl, by decide +kernel, by decide +kernel⟩
theorem ok_law_rows {P : Program} {w : World} {K : PySem.W.Frag} {mg : Str → Option Value} {base : Heap} (B : Bts mg) (h : ∃ f fd, Df K mg "_law_rows" st_law_rows ["_law_attribute_here"] f fd) : Cl P w K mg base "_law_rows" 1 ["_law_attribute_here"] s_law_rows :=
  fnC h sc_law_rows l_law_rows v_law_rows fun f cdv A outer s H E gd room =>
    (pdss_cons (pds_set (i := 1) sc_law_rows.nd rfl (by first | exact Or.inl rfl | exact Or.inr rfl) (pd_lstM (pda_cons (pd_listRg (by rfl) B.list (by rfl) B.range (pd_ix room.u65 (pd_var (pv 0)) pd_int)) pda_nil)))
    (pdss_cons (pds_for PassesOwn.never rfl (pdi_seq (pd_ix room.u65 (pd_var (pv 0)) pd_int)) (pg_name (i := 2) sc_law_rows.nd rfl (by first | exact Or.inl rfl | exact Or.inr rfl)) (gc_name (vs := [2]) (i := 2) (by decide)) (pdss_one (pds_drop (pd_append (pd_var (pv 1)) (pd_lc (own := [("_law_group", 3)]) (dg := (gV 3)) (tt := dYes) (te := (dOp aIx (dVar 2) (dVar 3))) rfl sc_law_rows.nd  (pdi_seq (pd_ix room.u65 (pd_var (pv 1)) (pd_neg pd_int))) (blkOk_by (own := [("_law_group", 3)]) (by rfl)) (gc_name (vs := [3]) (i := 3) (by decide)) (fun _ _ _ _ _ => (pg_name (i := 3) sc_law_rows.nd rfl (by first | exact Or.inl rfl | exact Or.inr rfl))) (fun _ _ _ _ _ => pdts_nil) (fun _ _ _ _ _ => (pd_ix room.u65 (pd_var (pv 2)) (pd_var (pv 3)))))))))
    (pdss_one (pds_retF (pv 1)))))

abbrev st_law_tuples : Stmt := topS 74
theorem sc_law_tuples : FnScope ["_law_numbers", "_law_found", "_law_many", "_law_wider", "_law_row", "_law_one"] ["_law_numbers"] (defScope st_law_tuples) := ⟨rfl, rfl, rfl, by decide +kernel, rfl, by decide +kernel, by decide +kernel⟩
theorem ok_law_tuples {P : Program} {w : World} {K : PySem.W.Frag} {mg : Str → Option Value} {base : Heap} (B : Bts mg) (h : ∃ f fd, Df K mg "_law_tuples" st_law_tuples ["_law_numbers"] f fd) : Cl P w K mg base "_law_tuples" 1 ["_law_numbers"] s_law_tuples :=
  fnC h sc_law_tuples l_law_tuples v_law_tuples fun f cdv A outer s H E gd room =>
    (pdss_cons (pds_set (i := 1) sc_law_tuples.nd rfl (by first | exact Or.inl rfl | exact Or.inr rfl) (pd_lst (pda_cons (pd_tup pda_nil) pda_nil)))
    (pdss_cons (pds_for PassesOwn.never rfl (pdi_seq (pd_var (pv 0))) (pg_name (i := 2) sc_law_tuples.nd rfl (by first | exact Or.inl rfl | exact Or.inr rfl)) (gc_name (vs := [2]) (i := 2) (by decide)) (pdss_cons (pds_set (i := 3) sc_law_tuples.nd rfl (by first | exact Or.inl rfl | exact Or.inr rfl) (pd_lstM pda_nil))
    (pdss_cons (pds_for PassesOwn.never rfl (pdi_seq (pd_var (pv 1))) (pg_name (i := 4) sc_law_tuples.nd rfl (by first | exact Or.inl rfl | exact Or.inr rfl)) (gc_name (vs := [4]) (i := 4) (by decide)) (pdss_one (pds_drop (pd_extend (pd_var (pv 3)) (pd_lc (own := [("_law_one", 5)]) (dg := (gV 5)) (tt := dYes) (te := (dOp aAdd (dVar 4) (dTup (dCons (dVar 5) dNil)))) rfl sc_law_tuples.nd  (pdi_rg1 (pd_var (pv 2)) (by rfl) B.range) (blkOk_by (own := [("_law_one", 5)]) (by rfl)) (gc_name (vs := [5]) (i := 5) (by decide)) (fun _ _ _ _ _ => (pg_name (i := 5) sc_law_tuples.nd rfl (by first | exact Or.inl rfl | exact Or.inr rfl))) (fun _ _ _ _ _ => pdts_nil) (fun _ _ _ _ _ => (pd_op op_addA c2_add (pd_var (pv 4)) (pd_tup (pda_cons (pd_var (pv 5)) pda_nil)))))))))
    (pdss_one (pds_set (i := 1) sc_law_tuples.nd rfl (by first | exact Or.inl rfl | exact Or.inr rfl) (pd_frz (pv 3)))))))
    (pdss_one (pds_ret (pd_var (pv 1))))))

abbrev st_law_groups : Stmt := topS 75
theorem sc_law_groups : FnScope ["_law_scheme_here", "_law_rollup_here", "_law_attribute_here", "_law_level"] ["_law_scheme_here", "_law_rollup_here"] (defScope st_law_groups) := ⟨rfl, rfl, rfl, by decide +kernel, rfl, by decide +kernel, by decide +kernel⟩
theorem ok_law_groups {P : Program} {w : World} {K : PySem.W.Frag} {mg : Str → Option Value} {base : Heap} (B : Bts mg) (h : ∃ f fd, Df K mg "_law_groups" st_law_groups ["_law_scheme_here", "_law_rollup_here"] f fd) (C_law_rows : Cl P w K mg base "_law_rows" 1 ["_law_attribute_here"] s_law_rows) : Cl P w K mg base "_law_groups" 2 ["_law_scheme_here", "_law_rollup_here"] s_law_groups :=
  fnC h sc_law_groups l_law_groups v_law_groups fun f cdv A outer s H E gd room =>
    (pdss_one (pds_ret (pd_lc (own := [("_law_attribute_here", 2), ("_law_level", 3)]) (dg := (gT 2 (gC (gV 2) (gC (gV 3) gN)))) (tt := dYes) (te := (dOp aIx (dCB s_law_rows (dCons (dVar 2) dNil)) (dVar 3))) rfl sc_law_groups.nd  (pdi_zip2 (pd_var (pv 0)) (pd_var (pv 1)) (by rfl) B.zip) (blkOk_by (own := [("_law_attribute_here", 2), ("_law_level", 3)]) (by rfl)) (gc_tup (gcs_cons (gc_name (vs := [2, 3]) (i := 2) (by decide)) (gcs_cons (gc_name (vs := [2, 3]) (i := 3) (by decide)) (gcs_nil (vs := [2, 3]))))) (fun _ _ _ _ _ => (pg_tup rfl (pgs_cons (pg_name (i := 2) sc_law_groups.nd rfl (by first | exact Or.inl rfl | exact Or.inr rfl)) (pgs_cons (pg_name (i := 3) sc_law_groups.nd rfl (by first | exact Or.inl rfl | exact Or.inr rfl)) pgs_nil)))) (fun _ _ _ _ _ => pdts_nil) (fun _ _ _ _ _ => (pd_ix room.u65 (pd_callC C_law_rows (room.mono (by decide)) gd (by rfl) (pda_cons (pd_var (pv 2)) pda_nil)) (pd_var (pv 3)))))))

abbrev st_law_all_cells : Stmt := topS 76
theorem sc_law_all_cells : FnScope ["_law_scheme_here", "_law_rollup_here", "_law_row"] ["_law_scheme_here", "_law_rollup_here"] (defScope st_law_all_cells) := ⟨rfl, rfl, rfl, by decide +kernel, rfl, by decide +kernel, by decide +kernel⟩
theorem ok_law_all_cells {P : Program} {w : World} {K : PySem.W.Frag} {mg : Str → Option Value} {base : Heap} (B : Bts mg) (h : ∃ f fd, Df K mg "_law_all_cells" st_law_all_cells ["_law_scheme_here", "_law_rollup_here"] f fd) (C_law_tuples : Cl P w K mg base "_law_tuples" 1 ["_law_numbers"] s_law_tuples) (C_law_groups : Cl P w K mg base "_law_groups" 2 ["_law_scheme_here", "_law_rollup_here"] s_law_groups) : Cl P w K mg base "_law_all_cells" 3 ["_law_scheme_here", "_law_rollup_here"] s_law_all_cells :=
  fnC h sc_law_all_cells l_law_all_cells v_law_all_cells fun f cdv A outer s H E gd room =>
    (pdss_one (pds_ret (pd_callC C_law_tuples (room.mono (by decide)) gd (by rfl) (pda_cons (pd_lc (own := [("_law_row", 2)]) (dg := (gV 2)) (tt := dYes) (te := (dOp aAdd (dC (.int 1)) (dCB aMax (dCons (dVar 2) dNil)))) rfl sc_law_all_cells.nd  (pdi_seq (pd_callC C_law_groups (room.mono (by decide)) gd (by rfl) (pda_cons (pd_var (pv 0)) (pda_cons (pd_var (pv 1)) pda_nil)))) (blkOk_by (own := [("_law_row", 2)]) (by rfl)) (gc_name (vs := [2]) (i := 2) (by decide)) (fun _ _ _ _ _ => (pg_name (i := 2) sc_law_all_cells.nd rfl (by first | exact Or.inl rfl | exact Or.inr rfl))) (fun _ _ _ _ _ => pdts_nil) (fun _ _ _ _ _ => (pd_op op_addA c2_add pd_int (pd_callB (callR_max rfl room.units) cl_max (by rfl) B.max (by decide +kernel) (pda_cons (pd_var (pv 2)) pda_nil))))) pda_nil))))

abbrev st_law_rollup : Stmt := topS 77
theorem sc_law_rollup : FnScope ["_law_pen_here", "_law_scheme_here", "_law_attribute_here"] ["_law_pen_here", "_law_scheme_here"] (defScope st_law_rollup) := ⟨rfl, rfl, rfl, by decide +kernel, rfl, by decide +kernel, by decide +kernel⟩
theorem ok_law_rollup {P : Program} {w : World} {K : PySem.W.Frag} {mg : Str → Option Value} {base : Heap} (B : Bts mg) (h : ∃ f fd, Df K mg "_law_rollup" st_law_rollup ["_law_pen_here", "_law_scheme_here"] f fd) (C_law_draw : Cl P w K mg base "_law_draw" 1 ["_law_pen_here", "_law_many"] s_law_draw) : Cl P w K mg base "_law_rollup" 2 ["_law_pen_here", "_law_scheme_here"] s_law_rollup :=
  fnC h sc_law_rollup l_law_rollup v_law_rollup fun f cdv A outer s H E gd room =>
    (pdss_one (pds_ret (pd_callTy call_tuple_ofF cl_tuple (by rfl) B.tuple (by decide +kernel) (pda_cons (pd_lc (own := [("_law_attribute_here", 2)]) (dg := (gV 2)) (tt := dYes) (te := (dCB s_law_draw (dCons (dVar 0) (dCons (dOp aAdd (dCB aLen (dCons (dOp aIx (dVar 2) (dC (.int 1))) dNil)) (dC (.int 1))) dNil)))) rfl sc_law_rollup.nd  (pdi_seq (pd_var (pv 1))) (blkOk_by (own := [("_law_attribute_here", 2)]) (by rfl)) (gc_name (vs := [2]) (i := 2) (by decide)) (fun _ _ _ _ _ => (pg_name (i := 2) sc_law_rollup.nd rfl (by first | exact Or.inl rfl | exact Or.inr rfl))) (fun _ _ _ _ _ => pdts_nil) (fun _ _ _ _ _ => (pd_callC C_law_draw (room.mono (by decide)) gd (by rfl) (pda_cons (pd_var (pv 0)) (pda_cons (pd_op op_addA c2_add (pd_callB callR_len cl_len (by rfl) B.len (by decide +kernel) (pda_cons (pd_ix room.u65 (pd_var (pv 2)) pd_int) pda_nil)) pd_int) pda_nil))))) pda_nil))))

abbrev st_law_table : Stmt := topS 78
theorem sc_law_table : FnScope ["_law_pen_here", "_law_scheme_here", "_law_found", "_law_turn", "_law_many", "_law_way", "_law_amount"] ["_law_pen_here", "_law_scheme_here"] (defScope st_law_table) := ⟨rfl, rfl, rfl, by decide +kernel, rfl, by decide +kernel, by decide +kernel⟩
theorem ok_law_table {P : Program} {w : World} {K : PySem.W.Frag} {mg : Str → Option Value} {base : Heap} (B : Bts mg) (h : ∃ f fd, Df K mg "_law_table" st_law_table ["_law_pen_here", "_law_scheme_here"] f fd) (C_law_draw : Cl P w K mg base "_law_draw" 1 ["_law_pen_here", "_law_many"] s_law_draw) (C_law_all_cells : Cl P w K mg base "_law_all_cells" 3 ["_law_scheme_here", "_law_rollup_here"] s_law_all_cells) : Cl P w K mg base "_law_table" 4 ["_law_pen_here", "_law_scheme_here"] s_law_table :=
  fnC h sc_law_table l_law_table v_law_table fun f cdv A outer s H E gd room =>
    (pdss_cons (pds_par (i := 4) (j := 5) rfl sc_law_table.nd rfl rfl (by decide) rfl rfl (pda_cons (pd_callB callR_len cl_len (by rfl) B.len (by decide +kernel) (pda_cons (pd_callC C_law_all_cells (room.mono (by decide)) gd (by rfl) (pda_cons (pd_var (pv 1)) (pda_cons (pd_op op_mulA c2_mulA (pd_tup (pda_cons pd_int pda_nil)) (pd_callB callR_len cl_len (by rfl) B.len (by decide +kernel) (pda_cons (pd_var (pv 1)) pda_nil))) pda_nil))) pda_nil)) (pda_cons (pd_callC C_law_draw (room.mono (by decide)) gd (by rfl) (pda_cons (pd_var (pv 0)) (pda_cons pd_int pda_nil))) pda_nil)) (by rfl))
    (pdss_cons (pds_set (i := 2) sc_law_table.nd rfl (by first | exact Or.inl rfl | exact Or.inr rfl) (pd_lstM pda_nil))
    (pdss_cons (pds_for PassesOwn.never rfl (pdi_rg1 (pd_var (pv 4)) (by rfl) B.range) (pg_name (i := 3) sc_law_table.nd rfl (by first | exact Or.inl rfl | exact Or.inr rfl)) (gc_name (vs := [3]) (i := 3) (by decide)) (pdss_cons (pds_set (i := 6) sc_law_table.nd rfl (by first | exact Or.inl rfl | exact Or.inr rfl) (pd_op op_sub c2_sub (pd_callC C_law_draw (room.mono (by decide)) gd (by rfl) (pda_cons (pd_var (pv 0)) (pda_cons pd_int pda_nil))) pd_int))
    (pdss_cons (pds_if (pdt_cmp (op_eqA room.units) c2_eq (pd_var (pv 5)) pd_int (nomark _)) (pdss_one (pds_set (i := 6) sc_law_table.nd rfl (by first | exact Or.inl rfl | exact Or.inr rfl) (pd_op op_mulA c2_mulA (pd_callC C_law_draw (room.mono (by decide)) gd (by rfl) (pda_cons (pd_var (pv 0)) (pda_cons pd_int pda_nil))) (pd_callC C_law_draw (room.mono (by decide)) gd (by rfl) (pda_cons (pd_var (pv 0)) (pda_cons pd_int pda_nil)))))) pdss_nil)
    (pdss_cons (pds_if (pdt_cmp (op_eqA room.units) c2_eq (pd_var (pv 5)) pd_int (nomark _)) (pdss_one (pds_set (i := 6) sc_law_table.nd rfl (by first | exact Or.inl rfl | exact Or.inr rfl) (pd_op op_sub c2_sub (pd_callC C_law_draw (room.mono (by decide)) gd (by rfl) (pda_cons (pd_var (pv 0)) (pda_cons pd_int pda_nil))) pd_int))) pdss_nil)
    (pdss_one (pds_drop (pd_append (pd_var (pv 2)) (pd_var (pv 6)))))))))
    (pdss_one (pds_ret (pd_callTy call_tuple_ofF cl_tuple (by rfl) B.tuple (by decide +kernel) (pda_cons (pd_var (pv 2)) pda_nil)))))))

abbrev st_law_stored : Stmt := topS 79
theorem sc_law_stored : FnScope ["_law_pen_here", "_law_scheme_here", "_law_most", "_law_found", "_law_turn", "_law_again"] ["_law_pen_here", "_law_scheme_here", "_law_most"] (defScope st_law_stored) := ⟨rfl, rfl, rfl, by decide +kernel, rfl, by decide +kernel, by decide +kernel⟩
theorem ok_law_stored {P : Program} {w : World} {K : PySem.W.Frag} {mg : Str → Option Value} {base : Heap} (B : Bts mg) (h : ∃ f fd, Df K mg "_law_stored" st_law_stored ["_law_pen_here", "_law_scheme_here", "_law_most"] f fd) (C_law_draw : Cl P w K mg base "_law_draw" 1 ["_law_pen_here", "_law_many"] s_law_draw) (C_law_pick : Cl P w K mg base "_law_pick" 2 ["_law_pen_here", "_law_things"] s_law_pick) (C_law_rollup : Cl P w K mg base "_law_rollup" 2 ["_law_pen_here", "_law_scheme_here"] s_law_rollup) : Cl P w K mg base "_law_stored" 3 ["_law_pen_here", "_law_scheme_here", "_law_most"] s_law_stored :=
  fnC h sc_law_stored l_law_stored v_law_stored fun f cdv A outer s H E gd room =>
    (pdss_cons (pds_set (i := 3) sc_law_stored.nd rfl (by first | exact Or.inl rfl | exact Or.inr rfl) (pd_lstM pda_nil))
    (pdss_cons (pds_for PassesOwn.never rfl (pdi_rg1 (pd_callC C_law_draw (room.mono (by decide)) gd (by rfl) (pda_cons (pd_var (pv 0)) (pda_cons (pd_op op_addA c2_add (pd_var (pv 2)) pd_int) pda_nil))) (by rfl) B.range) (pg_name (i := 4) sc_law_stored.nd rfl (by first | exact Or.inl rfl | exact Or.inr rfl)) (gc_name (vs := [4]) (i := 4) (by decide)) (pdss_cons (pds_set (i := 5) sc_law_stored.nd rfl (by first | exact Or.inl rfl | exact Or.inr rfl) (pd_and (pd_cmp (op_neA room.units) c2_ne (pd_var (pv 3)) (pd_lst pda_nil) (nomark _)) (pd_one (pd_cmp (op_eqA room.units) c2_eq (pd_callC C_law_draw (room.mono (by decide)) gd (by rfl) (pda_cons (pd_var (pv 0)) (pda_cons pd_int pda_nil))) pd_int (nomark _)))))
    (pdss_one (pds_drop (pd_append (pd_var (pv 3)) (pd_if (pdt_val (pd_var (pv 5))) (pd_callC C_law_pick (room.mono (by decide)) gd (by rfl) (pda_cons (pd_var (pv 0)) (pda_cons (pd_var (pv 3)) pda_nil))) (pd_callC C_law_rollup (room.mono (by decide)) gd (by rfl) (pda_cons (pd_var (pv 0)) (pda_cons (pd_var (pv 1)) pda_nil)))))))))
    (pdss_one (pds_ret (pd_callTy call_tuple_ofF cl_tuple (by rfl) B.tuple (by decide +kernel) (pda_cons (pd_var (pv 3)) pda_nil))))))

abbrev st_law_cell_right : Stmt := topS 80
theorem sc_law_cell_right : FnScope ["_law_scheme_here", "_law_stored_here", "_law_wanted", "_law_cell", "_law_table_here", "_law_mine", "_law_told", "_law_rollup_here", "_law_place"] ["_law_scheme_here", "_law_stored_here", "_law_wanted", "_law_cell", "_law_table_here"] (defScope st_law_cell_right) := ⟨rfl, rfl, rfl, by decide +kernel, rfl, by decide +kernel, by decide +kernel⟩
theorem ok_law_cell_right {P : Program} {w : World} {K : PySem.W.Frag} {mg : Str → Option Value} {base : Heap} (B : Bts mg) (h : ∃ f fd, Df K mg "_law_cell_right" st_law_cell_right ["_law_scheme_here", "_law_stored_here", "_law_wanted", "_law_cell", "_law_table_here"] f fd) (C_own_cell : Cl P w K mg base "own_cell" 7 ["scheme", "rollup", "cell"] s_own_cell) (C_answer_cell : Cl P w K mg base "answer_cell" 8 ["scheme", "stored", "wanted", "cell"] s_answer_cell) (C_sums : Cl P w K mg base "sums" 7 ["scheme", "table", "rollup"] s_sums) (C_shows_answer_cell : Cl P w K mg base "shows_answer_cell" 8 ["scheme", "stored", "wanted", "cell", "thing"] s_shows_answer_cell) (C_is_fine : Cl P w K mg base "is_fine" 8 ["scheme", "one", "other"] s_is_fine) (C_shows_answer : Cl P w K mg base "shows_answer" 8 ["scheme", "stored", "wanted", "thing"] s_shows_answer) (C_cells : Cl P w K mg base "cells" 7 ["scheme", "rollup"] s_cells) : Cl P w K mg base "_law_cell_right" 9 ["_law_scheme_here", "_law_stored_here", "_law_wanted", "_law_cell", "_law_table_here"] s_law_cell_right :=
  fnC h sc_law_cell_right l_law_cell_right v_law_cell_right fun f cdv A outer s H E gd room =>
    (pdss_cons (pds_asg (pd_callC C_own_cell (room.mono (by decide)) gd (by rfl) (pda_cons (pd_var (pv 0)) (pda_cons (pd_var (pv 2)) (pda_cons (pd_var (pv 3)) pda_nil)))) (pg_tup rfl (pgs_cons (pg_name (i := 7) sc_law_cell_right.nd rfl (by first | exact Or.inl rfl | exact Or.inr rfl)) (pgs_cons (pg_name (i := 8) sc_law_cell_right.nd rfl (by first | exact Or.inl rfl | exact Or.inr rfl)) pgs_nil))) (gc_tup (gcs_cons (gc_name (vs := [7, 8]) (i := 7) (by decide)) (gcs_cons (gc_name (vs := [7, 8]) (i := 8) (by decide)) (gcs_nil (vs := [7, 8]))))))
    (pdss_cons (pds_if (pdt_w (pdw_or (pdt_not (pdt_val (pd_callC C_is_fine (room.mono (by decide)) gd (by rfl) (pda_cons (pd_var (pv 0)) (pda_cons (pd_var (pv 2)) (pda_cons (pd_var (pv 7)) pda_nil)))))) (pdw_or1 (pdt_cmp (op_neA room.units) c2_ne (pd_callC C_own_cell (room.mono (by decide)) gd (by rfl) (pda_cons (pd_var (pv 0)) (pda_cons (pd_var (pv 7)) (pda_cons (pd_var (pv 8)) pda_nil)))) (pd_tup (pda_cons (pd_var (pv 7)) (pda_cons (pd_var (pv 8)) pda_nil))) (nomark _))))) (pdss_one (pds_ret pd_bl)) pdss_nil)
    (pdss_cons (pds_set (i := 5) sc_law_cell_right.nd rfl (by first | exact Or.inl rfl | exact Or.inr rfl) (pd_ix room.u65 (pd_callC C_sums (room.mono (by decide)) gd (by rfl) (pda_cons (pd_var (pv 0)) (pda_cons (pd_var (pv 4)) (pda_cons (pd_var (pv 2)) pda_nil)))) (pd_indexTD room.u65 (pd_callC C_cells (room.mono (by decide)) gd (by rfl) (pda_cons (pd_var (pv 0)) (pda_cons (pd_var (pv 2)) pda_nil))) (pd_var (pv 3)))))
    (pdss_cons (pds_if (pdt_cmp (op_neA room.units) c2_ne (pd_var (pv 5)) (pd_ix room.u65 (pd_callC C_sums (room.mono (by decide)) gd (by rfl) (pda_cons (pd_var (pv 0)) (pda_cons (pd_var (pv 4)) (pda_cons (pd_var (pv 7)) pda_nil)))) (pd_indexTD room.u65 (pd_callC C_cells (room.mono (by decide)) gd (by rfl) (pda_cons (pd_var (pv 0)) (pda_cons (pd_var (pv 7)) pda_nil))) (pd_var (pv 8)))) (nomark _)) (pdss_one (pds_ret pd_bl)) pdss_nil)
    (pdss_cons (pds_set (i := 6) sc_law_cell_right.nd rfl (by first | exact Or.inl rfl | exact Or.inr rfl) (pd_callC C_answer_cell (room.mono (by decide)) gd (by rfl) (pda_cons (pd_var (pv 0)) (pda_cons (pd_var (pv 1)) (pda_cons (pd_var (pv 2)) (pda_cons (pd_var (pv 3)) pda_nil))))))
    (pdss_cons (pds_if (pdt_cmp (op_neA room.units) c2_ne (pd_var (pv 6)) (pd_callC C_answer_cell (room.mono (by decide)) gd (by rfl) (pda_cons (pd_var (pv 0)) (pda_cons (pd_var (pv 1)) (pda_cons (pd_var (pv 7)) (pda_cons (pd_var (pv 8)) pda_nil))))) (nomark _)) (pdss_one (pds_ret pd_bl)) pdss_nil)
    (pdss_cons (pds_if (pdt_cmp op_notBl c2_notB (pd_callC C_shows_answer_cell (room.mono (by decide)) gd (by rfl) (pda_cons (pd_var (pv 0)) (pda_cons (pd_var (pv 1)) (pda_cons (pd_var (pv 2)) (pda_cons (pd_var (pv 3)) (pda_cons (pd_var (pv 6)) pda_nil)))))) pd_bl (nomark _)) (pdss_one (pds_ret pd_bl)) pdss_nil)
    (pdss_one (pds_ret (pd_or (pd_cmp (op_eqA room.units) c2_eq (pd_ix room.u65 (pd_var (pv 6)) pd_int) pd_str (nomark _)) (pd_one (pd_cmp op_isBl c2_isB (pd_callC C_shows_answer (room.mono (by decide)) gd (by rfl) (pda_cons (pd_var (pv 0)) (pda_cons (pd_var (pv 1)) (pda_cons (pd_var (pv 2)) (pda_cons (pd_var (pv 6)) pda_nil))))) pd_bl (nomark _)))))))))))))

abbrev st_law : Stmt := topS 81
theorem sc_law : FnScope ["_law_script", "_law_k", "_law_pen_here", "_law_lap", "_law_scheme_here", "_law_turn", "_law_stored_here", "_law_table_here", "_law_wanted", "_law_words", "_law_cell"] ["_law_script"] (defScope st_law) := ⟨rfl, rfl, rfl, by decide +kernel, rfl, by decide +kernel, by decide +kernel⟩
theorem ok_law {P : Program} {w : World} {K : PySem.W.Frag} {mg : Str → Option Value} {base : Heap} (B : Bts mg) {f : Addr} {fd : FuncData} (h : Df K mg "law" st_law ["_law_script"] f fd) (C_law_pen : Cl P w K mg base "_law_pen" 1 ["_law_cell"] s_law_pen) (C_law_cell_at : Cl P w K mg base "_law_cell_at" 1 ["_law_script", "_law_k"] s_law_cell_at) (C_law_scheme : Cl P w K mg base "_law_scheme" 4 ["_law_pen_here"] s_law_scheme) (C_law_stored : Cl P w K mg base "_law_stored" 3 ["_law_pen_here", "_law_scheme_here", "_law_most"] s_law_stored) (C_law_table : Cl P w K mg base "_law_table" 4 ["_law_pen_here", "_law_scheme_here"] s_law_table) (C_law_rollup : Cl P w K mg base "_law_rollup" 2 ["_law_pen_here", "_law_scheme_here"] s_law_rollup) (C_cells : Cl P w K mg base "cells" 7 ["scheme", "rollup"] s_cells) (C_law_cell_right : Cl P w K mg base "_law_cell_right" 9 ["_law_scheme_here", "_law_stored_here", "_law_wanted", "_law_cell", "_law_table_here"] s_law_cell_right) (C_answer_cell : Cl P w K mg base "answer_cell" 8 ["scheme", "stored", "wanted", "cell"] s_answer_cell) (C_answer : Cl P w K mg base "answer" 8 ["scheme", "stored", "wanted"] s_answer) : FnD P w K mg base 10 f fd ["_law_script"] s_law :=
  fnC1 h sc_law l_law v_law fun f cdv A outer s H E gd room =>
    (pdss_cons (pds_for PassesOwn.never rfl (pdi_rg1 (pd_callB (callR_max rfl room.units) cl_max (by rfl) B.max (by decide +kernel) (pda_cons pd_int (pda_cons (pd_callB (callR_min rfl room.units) cl_min (by rfl) B.min (by decide +kernel) (pda_cons (pd_callB callR_len cl_len (by rfl) B.len (by decide +kernel) (pda_cons (pd_var (pv 0)) pda_nil)) (pda_cons pd_int pda_nil))) pda_nil))) (by rfl) B.range) (pg_name (i := 1) sc_law.nd rfl (by first | exact Or.inl rfl | exact Or.inr rfl)) (gc_name (vs := [1]) (i := 1) (by decide)) (pdss_cons (pds_set (i := 2) sc_law.nd rfl (by first | exact Or.inl rfl | exact Or.inr rfl) (pd_callC C_law_pen (room.mono (by decide)) gd (by rfl) (pda_cons (pd_callC C_law_cell_at (room.mono (by decide)) gd (by rfl) (pda_cons (pd_var (pv 0)) (pda_cons (pd_var (pv 1)) pda_nil))) pda_nil)))
    (pdss_one (pds_for PassesOwn.never rfl (pdi_rg1 pd_int (by rfl) B.range) (pg_name (i := 3) sc_law.nd rfl (by first | exact Or.inl rfl | exact Or.inr rfl)) (gc_name (vs := [3]) (i := 3) (by decide)) (pdss_cons (pds_set (i := 4) sc_law.nd rfl (by first | exact Or.inl rfl | exact Or.inr rfl) (pd_callC C_law_scheme (room.mono (by decide)) gd (by rfl) (pda_cons (pd_var (pv 2)) pda_nil)))
    (pdss_cons (pds_par (i := 6) (j := 7) rfl sc_law.nd rfl rfl (by decide) rfl rfl (pda_cons (pd_callC C_law_stored (room.mono (by decide)) gd (by rfl) (pda_cons (pd_var (pv 2)) (pda_cons (pd_var (pv 4)) (pda_cons pd_int pda_nil)))) (pda_cons (pd_callC C_law_table (room.mono (by decide)) gd (by rfl) (pda_cons (pd_var (pv 2)) (pda_cons (pd_var (pv 4)) pda_nil))) pda_nil)) (by rfl))
    (pdss_one (pds_for PassesOwn.never rfl (pdi_rg1 pd_int (by rfl) B.range) (pg_name (i := 5) sc_law.nd rfl (by first | exact Or.inl rfl | exact Or.inr rfl)) (gc_name (vs := [5]) (i := 5) (by decide)) (pdss_cons (pds_set (i := 8) sc_law.nd rfl (by first | exact Or.inl rfl | exact Or.inr rfl) (pd_callC C_law_rollup (room.mono (by decide)) gd (by rfl) (pda_cons (pd_var (pv 2)) (pda_cons (pd_var (pv 4)) pda_nil))))
    (pdss_cons (pds_set (i := 9) sc_law.nd rfl (by first | exact Or.inl rfl | exact Or.inr rfl) (pd_lstM pda_nil))
    (pdss_cons (pds_for PassesOwn.never rfl (pdi_seq (pd_callC C_cells (room.mono (by decide)) gd (by rfl) (pda_cons (pd_var (pv 4)) (pda_cons (pd_var (pv 8)) pda_nil)))) (pg_name (i := 10) sc_law.nd rfl (by first | exact Or.inl rfl | exact Or.inr rfl)) (gc_name (vs := [10]) (i := 10) (by decide)) (pdss_one (pds_drop (pd_append (pd_var (pv 9)) (pd_ix room.u65 (pd_callC C_answer_cell (room.mono (by decide)) gd (by rfl) (pda_cons (pd_var (pv 4)) (pda_cons (pd_var (pv 6)) (pda_cons (pd_var (pv 8)) (pda_cons (pd_var (pv 10)) pda_nil))))) pd_int)))))
    (pdss_cons (pds_for PassesOwn.never rfl (pdi_seq (pd_slice (pd_callC C_cells (room.mono (by decide)) gd (by rfl) (pda_cons (pd_var (pv 4)) (pda_cons (pd_var (pv 8)) pda_nil))) pdo_none (pdo_some pd_int))) (pg_name (i := 10) sc_law.nd rfl (by first | exact Or.inl rfl | exact Or.inr rfl)) (gc_name (vs := [10]) (i := 10) (by decide)) (pdss_one (pds_if (pdt_not (pdt_val (pd_callC C_law_cell_right (room.mono (by decide)) gd (by rfl) (pda_cons (pd_var (pv 4)) (pda_cons (pd_var (pv 6)) (pda_cons (pd_var (pv 8)) (pda_cons (pd_var (pv 10)) (pda_cons (pd_var (pv 7)) pda_nil)))))))) (pdss_one (pds_ret pd_bl)) pdss_nil)))
    (pdss_one (pds_if (pdt_cmp (op_neA room.units) c2_ne (pd_cmp (op_eqA room.units) c2_eq (pd_ix room.u65 (pd_callC C_answer (room.mono (by decide)) gd (by rfl) (pda_cons (pd_var (pv 4)) (pda_cons (pd_var (pv 6)) (pda_cons (pd_var (pv 8)) pda_nil)))) pd_int) pd_str (nomark _)) (pd_cmp (op_notInA room.u65) c2_notIn pd_str (pd_var (pv 9)) (by rfl)) (nomark _)) (pdss_one (pds_ret pd_bl)) pdss_nil))))))))))))))
    (pdss_one (pds_ret pd_bl)))

def loose0 : List PySem.Str := ["LevelsError", "SchemeError", "RollupError", "CellError", "TableError", "StoredError", "MOST_ATTRIBUTES", "MOST_VALUES", "MOST_STEPS", "MOST_CELLS", "is_integer", "is_between", "groups_behind", "is_attribute", "product_of", "is_scheme", "is_rollup", "groups_at", "group_above", "tuples_below"]
def loose1 : List PySem.Str := ["sizes_at", "cells_of", "size_of", "finest", "are_fine", "is_cell", "cell_above", "need_scheme", "need_rollup", "need_cell", "need_two", "cells", "is_fine", "are_amounts", "is_table_of", "rolled_of", "sums_of", "need_table", "sums", "FROM"]
def loose2 : List PySem.Str := ["TABLES", "MOST_STORED", "are_rollups", "need_stored", "need_wanted", "place_of", "two_tables", "taken_at", "answer_of", "answer", "are_alike", "is_from", "shows_answer", "own_group", "own_of", "own_cell", "taken_in", "answer_at", "answer_cell", "sum_at"]
def loose3 : List PySem.Str := ["shows_answer_cell", "_law_cell_at", "_law_pen", "_law_draw", "_law_pick", "_law_mixed", "_law_attribute", "_law_scheme", "_law_rows", "_law_tuples", "_law_groups", "_law_all_cells", "_law_rollup", "_law_table", "_law_stored", "_law_cell_right"]
def looseN : List PySem.Str := loose0 ++ loose1 ++ loose2 ++ loose3
def dd_is_integer : He.DefD := ddOf "is_integer" st_is_integer
def dd_is_between : He.DefD := ddOf "is_between" st_is_between
def dd_groups_behind : He.DefD := ddOf "groups_behind" st_groups_behind
def dd_is_attribute : He.DefD := ddOf "is_attribute" st_is_attribute
def dd_product_of : He.DefD := ddOf "product_of" st_product_of
def dd_is_scheme : He.DefD := ddOf "is_scheme" st_is_scheme
def dd_is_rollup : He.DefD := ddOf "is_rollup" st_is_rollup
def dd_groups_at : He.DefD := ddOf "groups_at" st_groups_at
def dd_group_above : He.DefD := ddOf "group_above" st_group_above
def dd_tuples_below : He.DefD := ddOf "tuples_below" st_tuples_below
def dd_sizes_at : He.DefD := ddOf "sizes_at" st_sizes_at
def dd_cells_of : He.DefD := ddOf "cells_of" st_cells_of
def dd_size_of : He.DefD := ddOf "size_of" st_size_of
def dd_finest : He.DefD := ddOf "finest" st_finest
def dd_are_fine : He.DefD := ddOf "are_fine" st_are_fine
def dd_is_cell : He.DefD := ddOf "is_cell" st_is_cell
def dd_cell_above : He.DefD := ddOf "cell_above" st_cell_above
def dd_need_scheme : He.DefD := ddOf "need_scheme" st_need_scheme
def dd_need_rollup : He.DefD := ddOf "need_rollup" st_need_rollup
def dd_need_cell : He.DefD := ddOf "need_cell" st_need_cell
def dd_need_two : He.DefD := ddOf "need_two" st_need_two
def dd_cells : He.DefD := ddOf "cells" st_cells
def dd_is_fine : He.DefD := ddOf "is_fine" st_is_fine
def dd_are_amounts : He.DefD := ddOf "are_amounts" st_are_amounts
def dd_is_table_of : He.DefD := ddOf "is_table_of" st_is_table_of
def dd_rolled_of : He.DefD := ddOf "rolled_of" st_rolled_of
def dd_sums_of : He.DefD := ddOf "sums_of" st_sums_of
def dd_need_table : He.DefD := ddOf "need_table" st_need_table
def dd_sums : He.DefD := ddOf "sums" st_sums
def dd_are_rollups : He.DefD := ddOf "are_rollups" st_are_rollups
def dd_need_stored : He.DefD := ddOf "need_stored" st_need_stored
def dd_need_wanted : He.DefD := ddOf "need_wanted" st_need_wanted
def dd_place_of : He.DefD := ddOf "place_of" st_place_of
def dd_two_tables : He.DefD := ddOf "two_tables" st_two_tables
def dd_taken_at : He.DefD := ddOf "taken_at" st_taken_at
def dd_answer_of : He.DefD := ddOf "answer_of" st_answer_of
def dd_answer : He.DefD := ddOf "answer" st_answer
def dd_are_alike : He.DefD := ddOf "are_alike" st_are_alike
def dd_is_from : He.DefD := ddOf "is_from" st_is_from
def dd_shows_answer : He.DefD := ddOf "shows_answer" st_shows_answer
def dd_own_group : He.DefD := ddOf "own_group" st_own_group
def dd_own_of : He.DefD := ddOf "own_of" st_own_of
def dd_own_cell : He.DefD := ddOf "own_cell" st_own_cell
def dd_taken_in : He.DefD := ddOf "taken_in" st_taken_in
def dd_answer_at : He.DefD := ddOf "answer_at" st_answer_at
def dd_answer_cell : He.DefD := ddOf "answer_cell" st_answer_cell
def dd_sum_at : He.DefD := ddOf "sum_at" st_sum_at
def dd_shows_answer_cell : He.DefD := ddOf "shows_answer_cell" st_shows_answer_cell
def dd_law_cell_at : He.DefD := ddOf "_law_cell_at" st_law_cell_at
def dd_law_pen : He.DefD := ddOf "_law_pen" st_law_pen
def dd_law_draw : He.DefD := ddOf "_law_draw" st_law_draw
def dd_law_pick : He.DefD := ddOf "_law_pick" st_law_pick
def dd_law_mixed : He.DefD := ddOf "_law_mixed" st_law_mixed
def dd_law_attribute : He.DefD := ddOf "_law_attribute" st_law_attribute
def dd_law_scheme : He.DefD := ddOf "_law_scheme" st_law_scheme
def dd_law_rows : He.DefD := ddOf "_law_rows" st_law_rows
def dd_law_tuples : He.DefD := ddOf "_law_tuples" st_law_tuples
def dd_law_groups : He.DefD := ddOf "_law_groups" st_law_groups
def dd_law_all_cells : He.DefD := ddOf "_law_all_cells" st_law_all_cells
def dd_law_rollup : He.DefD := ddOf "_law_rollup" st_law_rollup
def dd_law_table : He.DefD := ddOf "_law_table" st_law_table
def dd_law_stored : He.DefD := ddOf "_law_stored" st_law_stored
def dd_law_cell_right : He.DefD := ddOf "_law_cell_right" st_law_cell_right
def dd_law : He.DefD := ddOf "law" st_law
def fn0 : List He.DefD := [dd_is_integer, dd_is_between, dd_groups_behind, dd_is_attribute, dd_product_of, dd_is_scheme, dd_is_rollup, dd_groups_at, dd_group_above, dd_tuples_below, dd_sizes_at, dd_cells_of, dd_size_of, dd_finest, dd_are_fine, dd_is_cell, dd_cell_above, dd_need_scheme, dd_need_rollup, dd_need_cell, dd_need_two, dd_cells, dd_is_fine, dd_are_amounts, dd_is_table_of, dd_rolled_of, dd_sums_of, dd_need_table, dd_sums, dd_are_rollups]
def fn1 : List He.DefD := [dd_need_stored, dd_need_wanted, dd_place_of, dd_two_tables, dd_taken_at, dd_answer_of, dd_answer, dd_are_alike, dd_is_from, dd_shows_answer, dd_own_group, dd_own_of, dd_own_cell, dd_taken_in, dd_answer_at, dd_answer_cell, dd_sum_at, dd_shows_answer_cell, dd_law_cell_at, dd_law_pen, dd_law_draw, dd_law_pick, dd_law_mixed, dd_law_attribute, dd_law_scheme, dd_law_rows, dd_law_tuples, dd_law_groups, dd_law_all_cells, dd_law_rollup]
def fn2 : List He.DefD := [dd_law_table, dd_law_stored, dd_law_cell_right, dd_law]
def fnN : List He.DefD := fn0 ++ fn1 ++ fn2
def fa0 : List He.Fa := [.glo "is_integer", .glo "is_between", .glo "groups_behind", .glo "is_attribute", .glo "product_of", .glo "is_scheme", .glo "is_rollup", .glo "groups_at", .glo "group_above", .glo "tuples_below", .glo "sizes_at", .glo "cells_of", .glo "size_of", .glo "finest", .glo "are_fine", .glo "is_cell", .glo "cell_above", .glo "need_scheme", .glo "need_rollup", .glo "need_cell", .glo "need_two", .glo "cells", .glo "is_fine", .glo "are_amounts", .glo "is_table_of", .glo "rolled_of", .glo "sums_of", .glo "need_table", .glo "sums", .glo "are_rollups"]
def fa1 : List He.Fa := [.glo "need_stored", .glo "need_wanted", .glo "place_of", .glo "two_tables", .glo "taken_at", .glo "answer_of", .glo "answer", .glo "are_alike", .glo "is_from", .glo "shows_answer", .glo "own_group", .glo "own_of", .glo "own_cell", .glo "taken_in", .glo "answer_at", .glo "answer_cell", .glo "sum_at", .glo "shows_answer_cell", .glo "_law_cell_at", .glo "_law_pen", .glo "_law_draw", .glo "_law_pick", .glo "_law_mixed", .glo "_law_attribute", .glo "_law_scheme", .glo "_law_rows", .glo "_law_tuples", .glo "_law_groups", .glo "_law_all_cells", .glo "_law_rollup"]
def fa2 : List He.Fa := [.glo "_law_table", .glo "_law_stored", .glo "_law_cell_right", .glo "law", .int "MOST_ATTRIBUTES" 3, .int "MOST_VALUES" 6, .int "MOST_STEPS" 3, .int "MOST_CELLS" 60, .str "FROM" (Str.ofString "from"), .str "TABLES" (Str.ofString "tables"), .int "MOST_STORED" 8]
def faN : List He.Fa := (fa0 ++ fa1 ++ fa2) ++ btNames.map fun x => He.Fa.free (Str.ofString x)
abbrev RR : PySem.W.OpenRow := PySem.W.OpenLaw.row PySem.Challenge.rw_rolluplevels_k19_whole_answers_of_cells
abbrev hk : PySem.W.Hook := He.hookD 4 faN fnN
def obN (s : PySem.W.SharedT) : He.AlD := He.obsDG 4 faN fnN (HandSHeadRun.getT s)
theorem ob_eq (s : PySem.W.SharedT) : obN s = hk.obs s.abs := He.obsDG_eq (HandSHeadRun.getT_eq s)
set_option maxHeartbeats 0 in
theorem runN (w : World) : HandSHeadRun.RunEq RR (PySem.W.view RR.prog [81]) hk obN 20000 looseN w := by
  intro os
  kernel_rfl
theorem factsN {P : Program} {w : World} {K : PySem.W.Frag} {h : Heap} {mg : Str → Option Value} {fa : Addr} (X : K.In h) (G : h.Ns mainGlobals mg) (hfa : mg ("law" : Str) = some (.ref fa)) (c : He.SaysD faN fnN K) :
    ∃ fd : FuncData, (∀ (s : Shared) (u : Value), BindsTo s fd ⟨[u], []⟩ [("_law_script", u)]) ∧ ∀ base : Heap, K.In base → base.Ns mainGlobals mg → FnD P w K mg base 10 fa fd ["_law_script"] s_law := by
  have x_is_integer := df_of X G c (x := "is_integer") (st := st_is_integer) (ps := ["thing"]) 0 0 (fun _ _ _ _ _ _ us hl => match us, hl with | [_], _ => rfl)
  have x_is_between := df_of X G c (x := "is_between") (st := st_is_between) (ps := ["thing", "low", "high"]) 1 1 (fun _ _ _ _ _ _ us hl => match us, hl with | [_, _, _], _ => rfl)
  have x_groups_behind := df_of X G c (x := "groups_behind") (st := st_groups_behind) (ps := ["step", "groups"]) 2 2 (fun _ _ _ _ _ _ us hl => match us, hl with | [_, _], _ => rfl)
  have x_is_attribute := df_of X G c (x := "is_attribute") (st := st_is_attribute) (ps := ["thing"]) 3 3 (fun _ _ _ _ _ _ us hl => match us, hl with | [_], _ => rfl)
  have x_product_of := df_of X G c (x := "product_of") (st := st_product_of) (ps := ["numbers"]) 4 4 (fun _ _ _ _ _ _ us hl => match us, hl with | [_], _ => rfl)
  have x_is_scheme := df_of X G c (x := "is_scheme") (st := st_is_scheme) (ps := ["thing"]) 5 5 (fun _ _ _ _ _ _ us hl => match us, hl with | [_], _ => rfl)
  have x_is_rollup := df_of X G c (x := "is_rollup") (st := st_is_rollup) (ps := ["scheme", "thing"]) 6 6 (fun _ _ _ _ _ _ us hl => match us, hl with | [_, _], _ => rfl)
  have x_groups_at := df_of X G c (x := "groups_at") (st := st_groups_at) (ps := ["attribute", "level"]) 7 7 (fun _ _ _ _ _ _ us hl => match us, hl with | [_, _], _ => rfl)
  have x_group_above := df_of X G c (x := "group_above") (st := st_group_above) (ps := ["attribute", "group", "low", "high"]) 8 8 (fun _ _ _ _ _ _ us hl => match us, hl with | [_, _, _, _], _ => rfl)
  have x_tuples_below := df_of X G c (x := "tuples_below") (st := st_tuples_below) (ps := ["numbers"]) 9 9 (fun _ _ _ _ _ _ us hl => match us, hl with | [_], _ => rfl)
  have x_sizes_at := df_of X G c (x := "sizes_at") (st := st_sizes_at) (ps := ["scheme", "rollup"]) 10 10 (fun _ _ _ _ _ _ us hl => match us, hl with | [_, _], _ => rfl)
  have x_cells_of := df_of X G c (x := "cells_of") (st := st_cells_of) (ps := ["scheme", "rollup"]) 11 11 (fun _ _ _ _ _ _ us hl => match us, hl with | [_, _], _ => rfl)
  have x_size_of := df_of X G c (x := "size_of") (st := st_size_of) (ps := ["scheme", "rollup"]) 12 12 (fun _ _ _ _ _ _ us hl => match us, hl with | [_, _], _ => rfl)
  have x_finest := df_of X G c (x := "finest") (st := st_finest) (ps := ["scheme"]) 13 13 (fun _ _ _ _ _ _ us hl => match us, hl with | [_], _ => rfl)
  have x_are_fine := df_of X G c (x := "are_fine") (st := st_are_fine) (ps := ["one", "other"]) 14 14 (fun _ _ _ _ _ _ us hl => match us, hl with | [_, _], _ => rfl)
  have x_is_cell := df_of X G c (x := "is_cell") (st := st_is_cell) (ps := ["scheme", "rollup", "thing"]) 15 15 (fun _ _ _ _ _ _ us hl => match us, hl with | [_, _, _], _ => rfl)
  have x_cell_above := df_of X G c (x := "cell_above") (st := st_cell_above) (ps := ["scheme", "rollup", "cell", "other"]) 16 16 (fun _ _ _ _ _ _ us hl => match us, hl with | [_, _, _, _], _ => rfl)
  have x_need_scheme := df_of X G c (x := "need_scheme") (st := st_need_scheme) (ps := ["thing"]) 17 17 (fun _ _ _ _ _ _ us hl => match us, hl with | [_], _ => rfl)
  have x_need_rollup := df_of X G c (x := "need_rollup") (st := st_need_rollup) (ps := ["scheme", "thing"]) 18 18 (fun _ _ _ _ _ _ us hl => match us, hl with | [_, _], _ => rfl)
  have x_need_cell := df_of X G c (x := "need_cell") (st := st_need_cell) (ps := ["scheme", "rollup", "thing"]) 19 19 (fun _ _ _ _ _ _ us hl => match us, hl with | [_, _, _], _ => rfl)
  have x_need_two := df_of X G c (x := "need_two") (st := st_need_two) (ps := ["scheme", "one", "other"]) 20 20 (fun _ _ _ _ _ _ us hl => match us, hl with | [_, _, _], _ => rfl)
  have x_cells := df_of X G c (x := "cells") (st := st_cells) (ps := ["scheme", "rollup"]) 21 21 (fun _ _ _ _ _ _ us hl => match us, hl with | [_, _], _ => rfl)
  have x_is_fine := df_of X G c (x := "is_fine") (st := st_is_fine) (ps := ["scheme", "one", "other"]) 22 22 (fun _ _ _ _ _ _ us hl => match us, hl with | [_, _, _], _ => rfl)
  have x_are_amounts := df_of X G c (x := "are_amounts") (st := st_are_amounts) (ps := ["scheme", "rollup", "thing"]) 23 23 (fun _ _ _ _ _ _ us hl => match us, hl with | [_, _, _], _ => rfl)
  have x_is_table_of := df_of X G c (x := "is_table_of") (st := st_is_table_of) (ps := ["scheme", "thing"]) 24 24 (fun _ _ _ _ _ _ us hl => match us, hl with | [_, _], _ => rfl)
  have x_rolled_of := df_of X G c (x := "rolled_of") (st := st_rolled_of) (ps := ["scheme", "rollup", "amounts", "other"]) 25 25 (fun _ _ _ _ _ _ us hl => match us, hl with | [_, _, _, _], _ => rfl)
  have x_sums_of := df_of X G c (x := "sums_of") (st := st_sums_of) (ps := ["scheme", "table", "rollup"]) 26 26 (fun _ _ _ _ _ _ us hl => match us, hl with | [_, _, _], _ => rfl)
  have x_need_table := df_of X G c (x := "need_table") (st := st_need_table) (ps := ["scheme", "thing"]) 27 27 (fun _ _ _ _ _ _ us hl => match us, hl with | [_, _], _ => rfl)
  have x_sums := df_of X G c (x := "sums") (st := st_sums) (ps := ["scheme", "table", "rollup"]) 28 28 (fun _ _ _ _ _ _ us hl => match us, hl with | [_, _, _], _ => rfl)
  have x_are_rollups := df_of X G c (x := "are_rollups") (st := st_are_rollups) (ps := ["scheme", "thing"]) 29 29 (fun _ _ _ _ _ _ us hl => match us, hl with | [_, _], _ => rfl)
  have x_need_stored := df_of X G c (x := "need_stored") (st := st_need_stored) (ps := ["scheme", "thing"]) 30 30 (fun _ _ _ _ _ _ us hl => match us, hl with | [_, _], _ => rfl)
  have x_need_wanted := df_of X G c (x := "need_wanted") (st := st_need_wanted) (ps := ["scheme", "stored", "wanted"]) 31 31 (fun _ _ _ _ _ _ us hl => match us, hl with | [_, _, _], _ => rfl)
  have x_place_of := df_of X G c (x := "place_of") (st := st_place_of) (ps := ["stored", "wanted"]) 32 32 (fun _ _ _ _ _ _ us hl => match us, hl with | [_, _], _ => rfl)
  have x_two_tables := df_of X G c (x := "two_tables") (st := st_two_tables) (ps := ["scheme", "taken"]) 33 33 (fun _ _ _ _ _ _ us hl => match us, hl with | [_, _], _ => rfl)
  have x_taken_at := df_of X G c (x := "taken_at") (st := st_taken_at) (ps := ["attribute", "level"]) 34 34 (fun _ _ _ _ _ _ us hl => match us, hl with | [_, _], _ => rfl)
  have x_answer_of := df_of X G c (x := "answer_of") (st := st_answer_of) (ps := ["scheme", "stored", "wanted"]) 35 35 (fun _ _ _ _ _ _ us hl => match us, hl with | [_, _, _], _ => rfl)
  have x_answer := df_of X G c (x := "answer") (st := st_answer) (ps := ["scheme", "stored", "wanted"]) 36 36 (fun _ _ _ _ _ _ us hl => match us, hl with | [_, _, _], _ => rfl)
  have x_are_alike := df_of X G c (x := "are_alike") (st := st_are_alike) (ps := ["scheme", "stored", "one", "other"]) 37 37 (fun _ _ _ _ _ _ us hl => match us, hl with | [_, _, _, _], _ => rfl)
  have x_is_from := df_of X G c (x := "is_from") (st := st_is_from) (ps := ["stored", "wanted", "place"]) 38 38 (fun _ _ _ _ _ _ us hl => match us, hl with | [_, _, _], _ => rfl)
  have x_shows_answer := df_of X G c (x := "shows_answer") (st := st_shows_answer) (ps := ["scheme", "stored", "wanted", "thing"]) 39 39 (fun _ _ _ _ _ _ us hl => match us, hl with | [_, _, _, _], _ => rfl)
  have x_own_group := df_of X G c (x := "own_group") (st := st_own_group) (ps := ["attribute", "level", "group"]) 40 40 (fun _ _ _ _ _ _ us hl => match us, hl with | [_, _, _], _ => rfl)
  have x_own_of := df_of X G c (x := "own_of") (st := st_own_of) (ps := ["scheme", "rollup", "cell"]) 41 41 (fun _ _ _ _ _ _ us hl => match us, hl with | [_, _, _], _ => rfl)
  have x_own_cell := df_of X G c (x := "own_cell") (st := st_own_cell) (ps := ["scheme", "rollup", "cell"]) 42 42 (fun _ _ _ _ _ _ us hl => match us, hl with | [_, _, _], _ => rfl)
  have x_taken_in := df_of X G c (x := "taken_in") (st := st_taken_in) (ps := ["attribute", "level", "group"]) 43 43 (fun _ _ _ _ _ _ us hl => match us, hl with | [_, _, _], _ => rfl)
  have x_answer_at := df_of X G c (x := "answer_at") (st := st_answer_at) (ps := ["scheme", "stored", "wanted", "cell"]) 44 44 (fun _ _ _ _ _ _ us hl => match us, hl with | [_, _, _, _], _ => rfl)
  have x_answer_cell := df_of X G c (x := "answer_cell") (st := st_answer_cell) (ps := ["scheme", "stored", "wanted", "cell"]) 45 45 (fun _ _ _ _ _ _ us hl => match us, hl with | [_, _, _, _], _ => rfl)
  have x_sum_at := df_of X G c (x := "sum_at") (st := st_sum_at) (ps := ["scheme", "table", "wanted", "cell"]) 46 46 (fun _ _ _ _ _ _ us hl => match us, hl with | [_, _, _, _], _ => rfl)
  have x_shows_answer_cell := df_of X G c (x := "shows_answer_cell") (st := st_shows_answer_cell) (ps := ["scheme", "stored", "wanted", "cell", "thing"]) 47 47 (fun _ _ _ _ _ _ us hl => match us, hl with | [_, _, _, _, _], _ => rfl)
  have x_law_cell_at := df_of X G c (x := "_law_cell_at") (st := st_law_cell_at) (ps := ["_law_script", "_law_k"]) 48 48 (fun _ _ _ _ _ _ us hl => match us, hl with | [_, _], _ => rfl)
  have x_law_pen := df_of X G c (x := "_law_pen") (st := st_law_pen) (ps := ["_law_cell"]) 49 49 (fun _ _ _ _ _ _ us hl => match us, hl with | [_], _ => rfl)
  have x_law_draw := df_of X G c (x := "_law_draw") (st := st_law_draw) (ps := ["_law_pen_here", "_law_many"]) 50 50 (fun _ _ _ _ _ _ us hl => match us, hl with | [_, _], _ => rfl)
  have x_law_pick := df_of X G c (x := "_law_pick") (st := st_law_pick) (ps := ["_law_pen_here", "_law_things"]) 51 51 (fun _ _ _ _ _ _ us hl => match us, hl with | [_, _], _ => rfl)
  have x_law_mixed := df_of X G c (x := "_law_mixed") (st := st_law_mixed) (ps := ["_law_pen_here", "_law_things"]) 52 52 (fun _ _ _ _ _ _ us hl => match us, hl with | [_, _], _ => rfl)
  have x_law_attribute := df_of X G c (x := "_law_attribute") (st := st_law_attribute) (ps := ["_law_pen_here", "_law_most"]) 53 53 (fun _ _ _ _ _ _ us hl => match us, hl with | [_, _], _ => rfl)
  have x_law_scheme := df_of X G c (x := "_law_scheme") (st := st_law_scheme) (ps := ["_law_pen_here"]) 54 54 (fun _ _ _ _ _ _ us hl => match us, hl with | [_], _ => rfl)
  have x_law_rows := df_of X G c (x := "_law_rows") (st := st_law_rows) (ps := ["_law_attribute_here"]) 55 55 (fun _ _ _ _ _ _ us hl => match us, hl with | [_], _ => rfl)
  have x_law_tuples := df_of X G c (x := "_law_tuples") (st := st_law_tuples) (ps := ["_law_numbers"]) 56 56 (fun _ _ _ _ _ _ us hl => match us, hl with | [_], _ => rfl)
  have x_law_groups := df_of X G c (x := "_law_groups") (st := st_law_groups) (ps := ["_law_scheme_here", "_law_rollup_here"]) 57 57 (fun _ _ _ _ _ _ us hl => match us, hl with | [_, _], _ => rfl)
  have x_law_all_cells := df_of X G c (x := "_law_all_cells") (st := st_law_all_cells) (ps := ["_law_scheme_here", "_law_rollup_here"]) 58 58 (fun _ _ _ _ _ _ us hl => match us, hl with | [_, _], _ => rfl)
  have x_law_rollup := df_of X G c (x := "_law_rollup") (st := st_law_rollup) (ps := ["_law_pen_here", "_law_scheme_here"]) 59 59 (fun _ _ _ _ _ _ us hl => match us, hl with | [_, _], _ => rfl)
  have x_law_table := df_of X G c (x := "_law_table") (st := st_law_table) (ps := ["_law_pen_here", "_law_scheme_here"]) 60 60 (fun _ _ _ _ _ _ us hl => match us, hl with | [_, _], _ => rfl)
  have x_law_stored := df_of X G c (x := "_law_stored") (st := st_law_stored) (ps := ["_law_pen_here", "_law_scheme_here", "_law_most"]) 61 61 (fun _ _ _ _ _ _ us hl => match us, hl with | [_, _, _], _ => rfl)
  have x_law_cell_right := df_of X G c (x := "_law_cell_right") (st := st_law_cell_right) (ps := ["_law_scheme_here", "_law_stored_here", "_law_wanted", "_law_cell", "_law_table_here"]) 62 62 (fun _ _ _ _ _ _ us hl => match us, hl with | [_, _, _, _, _], _ => rfl)
  have x_law := df_of X G c (x := "law") (st := st_law) (ps := ["_law_script"]) 63 63 (fun _ _ _ _ _ _ us hl => match us, hl with | [_], _ => rfl)
  have c_MOST_ATTRIBUTES : Ci mg "MOST_ATTRIBUTES" 3 := He.int_ok X G (c.fact 64 rfl)
  have c_MOST_VALUES : Ci mg "MOST_VALUES" 6 := He.int_ok X G (c.fact 65 rfl)
  have c_MOST_STEPS : Ci mg "MOST_STEPS" 3 := He.int_ok X G (c.fact 66 rfl)
  have c_MOST_CELLS : Ci mg "MOST_CELLS" 60 := He.int_ok X G (c.fact 67 rfl)
  have c_FROM : Cs mg "FROM" (Str.ofString "from") := He.str_ok X G (c.fact 68 rfl)
  have c_TABLES : Cs mg "TABLES" (Str.ofString "tables") := He.str_ok X G (c.fact 69 rfl)
  have c_MOST_STORED : Ci mg "MOST_STORED" 8 := He.int_ok X G (c.fact 70 rfl)
  have B : Bts mg := bts_of X G c (fun x hx => List.mem_append_right _ (List.mem_map.mpr ⟨x, hx, rfl⟩))
  obtain ⟨f, fd, x_law, bd⟩ := x_law
  have e := hfa.symm.trans x_law.g
  cases e
  refine ⟨fd, fun s u => bd s [u] rfl, fun base _ _ => ?_⟩
  have C_is_integer : Cl P w K mg base "is_integer" 1 ["thing"] s_is_integer := ok_is_integer B (df_ex x_is_integer)
  have C_is_between : Cl P w K mg base "is_between" 2 ["thing", "low", "high"] s_is_between := ok_is_between B (df_ex x_is_between) C_is_integer
  have C_groups_behind : Cl P w K mg base "groups_behind" 3 ["step", "groups"] s_groups_behind := ok_groups_behind B (df_ex x_groups_behind) C_is_between
  have C_is_attribute : Cl P w K mg base "is_attribute" 4 ["thing"] s_is_attribute := ok_is_attribute B (df_ex x_is_attribute) c_MOST_VALUES c_MOST_STEPS C_groups_behind C_is_between
  have C_product_of : Cl P w K mg base "product_of" 1 ["numbers"] s_product_of := ok_product_of B (df_ex x_product_of)
  have C_is_scheme : Cl P w K mg base "is_scheme" 5 ["thing"] s_is_scheme := ok_is_scheme B (df_ex x_is_scheme) c_MOST_ATTRIBUTES c_MOST_CELLS C_product_of C_is_attribute
  have C_is_rollup : Cl P w K mg base "is_rollup" 3 ["scheme", "thing"] s_is_rollup := ok_is_rollup B (df_ex x_is_rollup) C_is_between
  have C_groups_at : Cl P w K mg base "groups_at" 1 ["attribute", "level"] s_groups_at := ok_groups_at B (df_ex x_groups_at)
  have C_group_above : Cl P w K mg base "group_above" 1 ["attribute", "group", "low", "high"] s_group_above := ok_group_above B (df_ex x_group_above)
  have C_tuples_below : Cl P w K mg base "tuples_below" 1 ["numbers"] s_tuples_below := ok_tuples_below B (df_ex x_tuples_below)
  have C_sizes_at : Cl P w K mg base "sizes_at" 2 ["scheme", "rollup"] s_sizes_at := ok_sizes_at B (df_ex x_sizes_at) C_groups_at
  have C_cells_of : Cl P w K mg base "cells_of" 3 ["scheme", "rollup"] s_cells_of := ok_cells_of B (df_ex x_cells_of) C_tuples_below C_sizes_at
  have C_size_of : Cl P w K mg base "size_of" 3 ["scheme", "rollup"] s_size_of := ok_size_of B (df_ex x_size_of) C_product_of C_sizes_at
  have C_finest : Cl P w K mg base "finest" 1 ["scheme"] s_finest := ok_finest B (df_ex x_finest)
  have C_are_fine : Cl P w K mg base "are_fine" 1 ["one", "other"] s_are_fine := ok_are_fine B (df_ex x_are_fine)
  have C_is_cell : Cl P w K mg base "is_cell" 3 ["scheme", "rollup", "thing"] s_is_cell := ok_is_cell B (df_ex x_is_cell) C_is_between C_sizes_at
  have C_cell_above : Cl P w K mg base "cell_above" 2 ["scheme", "rollup", "cell", "other"] s_cell_above := ok_cell_above B (df_ex x_cell_above) C_group_above
  have C_need_scheme : Cl P w K mg base "need_scheme" 6 ["thing"] s_need_scheme := ok_need_scheme B (df_ex x_need_scheme) C_is_scheme
  have C_need_rollup : Cl P w K mg base "need_rollup" 4 ["scheme", "thing"] s_need_rollup := ok_need_rollup B (df_ex x_need_rollup) C_is_rollup
  have C_need_cell : Cl P w K mg base "need_cell" 4 ["scheme", "rollup", "thing"] s_need_cell := ok_need_cell B (df_ex x_need_cell) C_is_cell
  have C_need_two : Cl P w K mg base "need_two" 7 ["scheme", "one", "other"] s_need_two := ok_need_two B (df_ex x_need_two) C_need_scheme C_need_rollup
  have C_cells : Cl P w K mg base "cells" 7 ["scheme", "rollup"] s_cells := ok_cells B (df_ex x_cells) C_need_scheme C_need_rollup C_cells_of
  have C_is_fine : Cl P w K mg base "is_fine" 8 ["scheme", "one", "other"] s_is_fine := ok_is_fine B (df_ex x_is_fine) C_need_two C_are_fine
  have C_are_amounts : Cl P w K mg base "are_amounts" 4 ["scheme", "rollup", "thing"] s_are_amounts := ok_are_amounts B (df_ex x_are_amounts) C_size_of C_is_integer
  have C_is_table_of : Cl P w K mg base "is_table_of" 5 ["scheme", "thing"] s_is_table_of := ok_is_table_of B (df_ex x_is_table_of) C_are_amounts C_finest
  have C_rolled_of : Cl P w K mg base "rolled_of" 4 ["scheme", "rollup", "amounts", "other"] s_rolled_of := ok_rolled_of B (df_ex x_rolled_of) C_cells_of C_cell_above
  have C_sums_of : Cl P w K mg base "sums_of" 5 ["scheme", "table", "rollup"] s_sums_of := ok_sums_of B (df_ex x_sums_of) C_rolled_of C_finest
  have C_need_table : Cl P w K mg base "need_table" 6 ["scheme", "thing"] s_need_table := ok_need_table B (df_ex x_need_table) C_is_table_of
  have C_sums : Cl P w K mg base "sums" 7 ["scheme", "table", "rollup"] s_sums := ok_sums B (df_ex x_sums) C_need_scheme C_need_table C_need_rollup C_sums_of
  have C_are_rollups : Cl P w K mg base "are_rollups" 4 ["scheme", "thing"] s_are_rollups := ok_are_rollups B (df_ex x_are_rollups) c_MOST_STORED C_is_rollup
  have C_need_stored : Cl P w K mg base "need_stored" 5 ["scheme", "thing"] s_need_stored := ok_need_stored B (df_ex x_need_stored) C_are_rollups
  have C_need_wanted : Cl P w K mg base "need_wanted" 7 ["scheme", "stored", "wanted"] s_need_wanted := ok_need_wanted B (df_ex x_need_wanted) C_need_scheme C_need_stored C_need_rollup
  have C_place_of : Cl P w K mg base "place_of" 2 ["stored", "wanted"] s_place_of := ok_place_of B (df_ex x_place_of) C_are_fine
  have C_two_tables : Cl P w K mg base "two_tables" 4 ["scheme", "taken"] s_two_tables := ok_two_tables B (df_ex x_two_tables) C_cells_of C_finest
  have C_taken_at : Cl P w K mg base "taken_at" 2 ["attribute", "level"] s_taken_at := ok_taken_at B (df_ex x_taken_at) C_group_above
  have C_answer_of : Cl P w K mg base "answer_of" 5 ["scheme", "stored", "wanted"] s_answer_of := ok_answer_of B (df_ex x_answer_of) c_FROM c_TABLES C_place_of C_two_tables C_taken_at
  have C_answer : Cl P w K mg base "answer" 8 ["scheme", "stored", "wanted"] s_answer := ok_answer B (df_ex x_answer) C_need_wanted C_answer_of
  have C_are_alike : Cl P w K mg base "are_alike" 6 ["scheme", "stored", "one", "other"] s_are_alike := ok_are_alike B (df_ex x_are_alike) C_is_table_of C_sums_of
  have C_is_from : Cl P w K mg base "is_from" 3 ["stored", "wanted", "place"] s_is_from := ok_is_from B (df_ex x_is_from) C_is_between C_are_fine
  have C_shows_answer : Cl P w K mg base "shows_answer" 8 ["scheme", "stored", "wanted", "thing"] s_shows_answer := ok_shows_answer B (df_ex x_shows_answer) C_need_wanted C_is_from C_are_alike C_sums_of
  have C_own_group : Cl P w K mg base "own_group" 1 ["attribute", "level", "group"] s_own_group := ok_own_group B (df_ex x_own_group)
  have C_own_of : Cl P w K mg base "own_of" 2 ["scheme", "rollup", "cell"] s_own_of := ok_own_of B (df_ex x_own_of) C_own_group
  have C_own_cell : Cl P w K mg base "own_cell" 7 ["scheme", "rollup", "cell"] s_own_cell := ok_own_cell B (df_ex x_own_cell) C_need_scheme C_need_rollup C_need_cell C_own_of
  have C_taken_in : Cl P w K mg base "taken_in" 2 ["attribute", "level", "group"] s_taken_in := ok_taken_in B (df_ex x_taken_in) C_group_above
  have C_answer_at : Cl P w K mg base "answer_at" 5 ["scheme", "stored", "wanted", "cell"] s_answer_at := ok_answer_at B (df_ex x_answer_at) c_FROM c_TABLES C_own_of C_place_of C_two_tables C_taken_in
  have C_answer_cell : Cl P w K mg base "answer_cell" 8 ["scheme", "stored", "wanted", "cell"] s_answer_cell := ok_answer_cell B (df_ex x_answer_cell) C_need_wanted C_need_cell C_answer_at
  have C_sum_at : Cl P w K mg base "sum_at" 6 ["scheme", "table", "wanted", "cell"] s_sum_at := ok_sum_at B (df_ex x_sum_at) C_sums_of C_cells_of
  have C_shows_answer_cell : Cl P w K mg base "shows_answer_cell" 8 ["scheme", "stored", "wanted", "cell", "thing"] s_shows_answer_cell := ok_shows_answer_cell B (df_ex x_shows_answer_cell) C_need_wanted C_need_cell C_is_from C_are_alike C_sum_at C_own_of
  have C_law_cell_at : Cl P w K mg base "_law_cell_at" 1 ["_law_script", "_law_k"] s_law_cell_at := ok_law_cell_at B (df_ex x_law_cell_at)
  have C_law_pen : Cl P w K mg base "_law_pen" 1 ["_law_cell"] s_law_pen := ok_law_pen B (df_ex x_law_pen)
  have C_law_draw : Cl P w K mg base "_law_draw" 1 ["_law_pen_here", "_law_many"] s_law_draw := ok_law_draw B (df_ex x_law_draw)
  have C_law_pick : Cl P w K mg base "_law_pick" 2 ["_law_pen_here", "_law_things"] s_law_pick := ok_law_pick B (df_ex x_law_pick) C_law_draw
  have C_law_mixed : Cl P w K mg base "_law_mixed" 2 ["_law_pen_here", "_law_things"] s_law_mixed := ok_law_mixed B (df_ex x_law_mixed) C_law_draw
  have C_law_attribute : Cl P w K mg base "_law_attribute" 3 ["_law_pen_here", "_law_most"] s_law_attribute := ok_law_attribute B (df_ex x_law_attribute) C_law_draw C_law_mixed
  have C_law_scheme : Cl P w K mg base "_law_scheme" 4 ["_law_pen_here"] s_law_scheme := ok_law_scheme B (df_ex x_law_scheme) C_law_pick C_law_attribute
  have C_law_rows : Cl P w K mg base "_law_rows" 1 ["_law_attribute_here"] s_law_rows := ok_law_rows B (df_ex x_law_rows)
  have C_law_tuples : Cl P w K mg base "_law_tuples" 1 ["_law_numbers"] s_law_tuples := ok_law_tuples B (df_ex x_law_tuples)
  have C_law_groups : Cl P w K mg base "_law_groups" 2 ["_law_scheme_here", "_law_rollup_here"] s_law_groups := ok_law_groups B (df_ex x_law_groups) C_law_rows
  have C_law_all_cells : Cl P w K mg base "_law_all_cells" 3 ["_law_scheme_here", "_law_rollup_here"] s_law_all_cells := ok_law_all_cells B (df_ex x_law_all_cells) C_law_tuples C_law_groups
  have C_law_rollup : Cl P w K mg base "_law_rollup" 2 ["_law_pen_here", "_law_scheme_here"] s_law_rollup := ok_law_rollup B (df_ex x_law_rollup) C_law_draw
  have C_law_table : Cl P w K mg base "_law_table" 4 ["_law_pen_here", "_law_scheme_here"] s_law_table := ok_law_table B (df_ex x_law_table) C_law_draw C_law_all_cells
  have C_law_stored : Cl P w K mg base "_law_stored" 3 ["_law_pen_here", "_law_scheme_here", "_law_most"] s_law_stored := ok_law_stored B (df_ex x_law_stored) C_law_draw C_law_pick C_law_rollup
  have C_law_cell_right : Cl P w K mg base "_law_cell_right" 9 ["_law_scheme_here", "_law_stored_here", "_law_wanted", "_law_cell", "_law_table_here"] s_law_cell_right := ok_law_cell_right B (df_ex x_law_cell_right) C_own_cell C_answer_cell C_sums C_shows_answer_cell C_is_fine C_shows_answer C_cells
  exact ok_law B x_law C_law_pen C_law_cell_at C_law_scheme C_law_stored C_law_table C_law_rollup C_cells C_law_cell_right C_answer_cell C_answer
end Mn
instance noTbs : Mn.Tbs := ⟨[]⟩
open PySem PySem.W PySem.Calls PyProof.Rows
set_option maxHeartbeats 0 in
set_option maxRecDepth 100000 in
theorem PySem.Challenge.cw_rolluplevels_k19_whole_answers_of_cells_holds : PySem.Challenge.rw_rolluplevels_k19_whole_answers_of_cells.Holds := by
  w_on; o_law
  refine HandSHeadRun.head_any (r := OpenLaw.row PySem.Challenge.rw_rolluplevels_k19_whole_answers_of_cells) (q := view (OpenLaw.row PySem.Challenge.rw_rolluplevels_k19_whole_answers_of_cells).prog [81]) (H := Mn.hk) (ob := Mn.obN) (M := 20000) (loose := Mn.looseN) (d := HandSHeadRun.topDef (OpenLaw.row PySem.Challenge.rw_rolluplevels_k19_whole_answers_of_cells).prog 81) (kwd := []) Mn.ob_eq
    (by kernel_rfl) (fun s => by kernel_rfl) Mn.runN (by kernel_rfl) (by kernel_rfl) (by kernel_rfl) (by rfl) (by first | assumption | decide +kernel) (by decide +kernel) ⟨rfl, rfl, rfl, rfl, rfl, by decide +kernel⟩ ?hw ?hc
  case hw => w_witness2
  case hc =>
    refine Mn.walkDE (l := PySem.Challenge.rw_rolluplevels_k19_whole_answers_of_cells) (n := 63) (k := 10) (x := "_law_script") (d := Mn.s_law) rfl rfl (by decide) (by kernel_rfl) ⟨rfl, by decide, by decide⟩ ?F Mn.s_law_ok
    intro w mg fa h Y G hmg0
    obtain ⟨K, KX, c⟩ := Y
    have hmg : mg ("law" : PySem.Str) = some (.ref fa) := by
      have e : (HandSHeadRun.topDef (OpenLaw.row PySem.Challenge.rw_rolluplevels_k19_whole_answers_of_cells).prog 81).name = ("law" : PySem.Str) := by kernel_rfl
      rw [← e]
      exact hmg0
    obtain ⟨fd, hb, hF⟩ := Mn.factsN (P := (PySem.Challenge.rw_rolluplevels_k19_whole_answers_of_cells).prog) (w := w) KX G hmg c
    exact ⟨K, fd, KX, hb, hF⟩

