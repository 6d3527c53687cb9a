import PyProof.Rows.All
import HandS.ForMost
import HandS.Zip
import HandS.IsInst
import HandS.Deep
import HandS.TupAny
import HandS.TupMul
import HandS.Conv
import HandS.Lambda
import HandS.Exc
import HandS.ExcOwn
import HandS.ExcCtx
import KE.KeyNested
import KE.KDictCopyH
import HandS.SetFor
import KE.DataMinMax
import PyProof.ReprRoads
import KE.GoesNew
import PyProof.Rows.TupTab
import HandS.Star
import HandS.Strs
import HandS.Style
import KE.KDictZip
import HandS.TupSets
import PyProof.RulesMatchSeq
import PyProof.Rows.MatchSeqLen
import HandS.DictComp
import HandS.GenBody
import HandS.GenYield
import HandS.GenCall
import HandS.GenList
import Lean
import KE.KStateDown
import HandS.Words
import HandS.Defaults
import HandS.Head0
import HandS.Head1
import HandS.Head2
import HandS.HeadEnd
import HandS.HeadHook1
import HandS.HeadHook2
import HandS.HeadHook3
import HandS.HeadHook4
import KE.KTupSum
import KE.KUnpack
import KE.KUnpackStar
import PyProof.SeqRoads2
import PySem.Challenge.RW_rolluplevels_k02_rollups_and_cells
set_option Elab.async false
set_option linter.all false
set_option maxRecDepth 100000
set_option maxHeartbeats 4000000
set_option autoImplicit false
namespace Mn
open PySem PySem.Spec PyProof.Rows L2

/-! data without addresses; mutable things by their place -/
inductive D where
  | non
  | bl (b : Bool)
  | int (i : Int)
  | str (x : Str)
  | tup (ds : List D)
  | lst (ds : List D)
  | scr (ds : List D)
  | ref (a : Addr)
  /-- a tuple that zip or enumerate made: unpacked, or read by its place -/
  | pair (ds : List D)
  /-- a dict whose keys are tuples, and that is never changed -/
  | dct (ks : List NestedKey) (ds : List D)
inductive MO where
  | lst (ds : List D)
  /-- a dict whose keys are tuples -/
  | dN (kvs : List (NestedKey × D))
  /-- an empty dict that stays so -/
  | dE
  /-- a dict with one entry, its key an int, that stays so -/
  | dI (k : Int) (d : D)
  /-- an instance of the class of this name; its own dict's place; its fields -/
  | ins (c : Str) (dx : Addr) (fs : List (Str × D))
  /-- the own dict of the instance at a -/
  | own (a : Addr)
  /-- the own dict of an exception: its fields -/
  | xd (fs : List (Str × D))
/-- the tables of code objects that the law's lambdas are kept in, with the lambdas' names -/
class Tbs where
  T : List (Addr × Str)
/-- the written part, the world, the tables -/
structure KF where
  fr : PySem.W.Frag
  wd : World
  tabs : List (Addr × Str)
instance : Coe KF PySem.W.Frag := ⟨KF.fr⟩
variable [Tbs]
abbrev _root_.L2.Cx.kf (X : Cx) : KF := ⟨X.K, X.w, Tbs.T⟩
/-- the class of a name -/
def KF.cls (K : KF) (c : Str) (C : Addr) : Prop := PySem.W.nsIn K.fr mainGlobals c = some (some (.ref C))
/-- a plain tuple, known to its object -/
def TpG (G : Hp) (a : Addr) (vs : List V) : Prop := ∃ o : Obj, o.dict = none ∧ G a = some (.frz o (.tup vs))
theorem TpG.same {G G' : Hp} (e : Same G G') {a : Addr} {vs : List V} (h : TpG G a vs) : TpG G' a vs := let ⟨o, d, q⟩ := h; ⟨o, d, e _ _ q⟩
theorem TpG.sq {G H : Hp} {a : Addr} {vs : List V} (h : TpG G a vs) (e : Same G H) (K : PySem.W.Frag) : SqT K H a vs := let ⟨o, _, q⟩ := h; .inl (.inr ⟨o, e _ _ q⟩)
abbrev Mu := Addr → Option MO
def up (m : Mu) (a : Addr) (o : MO) : Mu := fun b => if b = a then some o else m b
theorem up_same {m : Mu} {a : Addr} {o : MO} : up m a o a = some o := by unfold up; rw [if_pos rfl]
theorem up_ne {m : Mu} {a b : Addr} {o : MO} (h : b ≠ a) : up m a o b = m b := by unfold up; rw [if_neg h]
theorem up_up {m : Mu} {a : Addr} {o u : MO} : up (up m a o) a u = up m a u := by
  funext b; unfold up; split <;> rfl
/-- a place forgotten -/
def er (m : Mu) (a : Addr) : Mu := fun b => if b = a then none else m b
theorem er_same {m : Mu} {a : Addr} : er m a a = none := by unfold er; rw [if_pos rfl]
theorem er_ne {m : Mu} {a b : Addr} (h : b ≠ a) : er m a b = m b := by unfold er; rw [if_neg h]
theorem er_up {m : Mu} {a : Addr} {o : MO} (h : m a = none) : er (up m a o) a = m := by
  funext b; unfold er up
  by_cases e : b = a
  · rw [if_pos e, e, h]
  · rw [if_neg e, if_neg e]

mutual
/-- a key as data -/
def keyD : NestedKey → D
  | .none => .non
  | .num i => .int i
  | .text x => .str x
  | .tup ks => .tup (keyDs ks)
def keyDs : List NestedKey → List D
  | [] => []
  | k :: ks => keyD k :: keyDs ks
end
def entN (wd : World) (x : NestedKey × Addr × Value) : DictEntry := ⟨x.1.hash wd, .ref x.2.1, x.2.2⟩
/-- the dict at a has these entries -/
def dictAt (wd : World) (a : Addr) (xs : List (NestedKey × Addr × V)) (h : Heap) : Prop := ∃ vs : List (NestedKey × Addr × Value), Paired (fun (p : NestedKey × Addr × V) (q : NestedKey × Addr × Value) => p.1 = q.1 ∧ p.2.1 = q.2.1 ∧ RelV p.2.2 q.2.2) xs vs ∧
  ∃ o es ep, h.get? a = some o ∧ o.ExactDict ∧ o.data = .dict es ep ∧ es.toList = vs.map (entN wd)
mutual
inductive Rp (K : KF) (G : Hp) : D → V → Prop
  | non : Rp K G .non .non
  | bl (b : Bool) : Rp K G (.bl b) (.bl b)
  | int (i : Int) : Rp K G (.int i) (.int i)
  | str (x : Str) : Rp K G (.str x) (.str x)
  | tup {a : Addr} {ds : List D} {vs : List V} : TpG G a vs → RpL K G ds vs → ds.length ≤ sizeLine → Rp K G (.tup ds) (.ref a)
  | pair {a : Addr} {ds : List D} {vs : List V} : G a = some (.tup vs) → RpL K G ds vs → ds.length ≤ sizeLine → Rp K G (.pair ds) (.ref a)
  | lst {a : Addr} {ds : List D} {vs : List V} : G a = some (.lst vs) → RpL K G ds vs → ds.length ≤ sizeLine → Rp K G (.lst ds) (.ref a)
  | scr {a : Addr} {ds : List D} {vs : List V} : SqL K G a vs → RpL K G ds vs → ds.length ≤ sizeLine → Rp K G (.scr ds) (.ref a)
  | ref (a : Addr) : Rp K G (.ref a) (.ref a)
  | dct {a : Addr} {o : Obj} {ks : List NestedKey} {ds : List D} {xs : List (NestedKey × Addr × V)} : G a = some (.frz o (.ext (dictAt K.wd a xs))) → (a == sysModules) = false → ks = xs.map (·.1) → ks.Nodup → RpL K G ds (xs.map (·.2.2)) → RpL K G (ks.map keyD) (xs.map fun x => V.ref x.2.1) → (∀ k ∈ ks, k.depth ≤ 8) → ks.length ≤ sizeLine → Rp K G (.dct ks ds) (.ref a)
inductive RpL (K : KF) (G : Hp) : List D → List V → Prop
  | nil : RpL K G [] []
  | cons {d : D} {v : V} {ds : List D} {vs : List V} : Rp K G d v → RpL K G ds vs → RpL K G (d :: ds) (v :: vs)
end
mutual
theorem Rp.same {K : KF} {G G' : Hp} (e : Same G G') : ∀ {d : D} {v : V}, Rp K G d v → Rp K G' d v
  | _, _, .non => .non
  | _, _, .bl b => .bl b
  | _, _, .int i => .int i
  | _, _, .str x => .str x
  | _, _, .tup h r z => .tup (h.same e) (RpL.same e r) z
  | _, _, .pair h r z => .pair (e _ _ h) (RpL.same e r) z
  | _, _, .lst h r z => .lst (e _ _ h) (RpL.same e r) z
  | _, _, .scr h r z => .scr (e.seq h) (RpL.same e r) z
  | _, _, .ref a => .ref a
  | _, _, .dct h1 h2 h3 h4 h5 h6 h7 h8 => .dct (e _ _ h1) h2 h3 h4 (RpL.same e h5) (RpL.same e h6) h7 h8
theorem RpL.same {K : KF} {G G' : Hp} (e : Same G G') : ∀ {ds : List D} {vs : List V}, RpL K G ds vs → RpL K G' ds vs
  | _, _, .nil => .nil
  | _, _, .cons h r => .cons (Rp.same e h) (RpL.same e r)
end
section
variable {K : KF} {G : Hp}
theorem RpL.len : ∀ {ds : List D} {vs : List V}, RpL K G ds vs → ds.length = vs.length
  | _, _, .nil => rfl
  | _, _, .cons _ r => by rw [List.length_cons, List.length_cons, r.len]
theorem RpL.get : ∀ {ds : List D} {vs : List V} {i : Nat} {d : D}, RpL K G ds vs → ds[i]? = some d → ∃ v, vs[i]? = some v ∧ Rp K G d v
  | _, _, _, _, .nil, e => by simp at e
  | _, _, 0, _, .cons h _, e => by simp at e; subst e; exact ⟨_, rfl, h⟩
  | _, _, i + 1, d, .cons _ r, e => by
    obtain ⟨v, h1, h2⟩ := RpL.get (i := i) (d := d) r (by simpa using e)
    exact ⟨v, by simpa using h1, h2⟩
theorem RpL.app : ∀ {ds es : List D} {vs ws : List V}, RpL K G ds vs → RpL K G es ws → RpL K G (ds ++ es) (vs ++ ws)
  | _, _, _, _, .nil, s => s
  | _, _, _, _, .cons h r, s => .cons h (RpL.app r s)
theorem RpL.take : ∀ {ds : List D} {vs : List V} (n : Nat), RpL K G ds vs → RpL K G (ds.take n) (vs.take n)
  | _, _, 0, _ => by simpa using RpL.nil
  | _, _, _ + 1, .nil => .nil
  | _, _, n + 1, .cons h r => .cons h (RpL.take n r)
theorem RpL.drop : ∀ {ds : List D} {vs : List V} (n : Nat), RpL K G ds vs → RpL K G (ds.drop n) (vs.drop n)
  | _, _, 0, r => r
  | _, _, _ + 1, .nil => .nil
  | _, _, n + 1, .cons h r => RpL.drop n r
theorem RpL.set {d : D} {v : V} (h : Rp K G d v) : ∀ {ds : List D} {vs : List V} (n : Nat), RpL K G ds vs → RpL K G (ds.set n d) (vs.set n v)
  | _, _, _, .nil => .nil
  | _, _, 0, .cons _ r => .cons h r
  | _, _, n + 1, .cons q r => .cons q (RpL.set h n r)
theorem RpL.erase : ∀ {ds : List D} {vs : List V} (n : Nat), RpL K G ds vs → RpL K G (ds.eraseIdx n) (vs.eraseIdx n)
  | _, _, _, .nil => .nil
  | _, _, 0, .cons _ r => r
  | _, _, n + 1, .cons q r => .cons q (RpL.erase n r)
theorem RpL.ints : ∀ {ns : List Int} {vs : List V}, RpL K G (ns.map D.int) vs → vs = ns.map V.int
  | [], _, .nil => rfl
  | n :: ns, _, .cons h r => by cases h; rw [RpL.ints r]; rfl
theorem RpL.bls : ∀ {ns : List Bool} {vs : List V}, RpL K G (ns.map D.bl) vs → vs = ns.map V.bl
  | [], _, .nil => rfl
  | n :: ns, _, .cons h r => by cases h; rw [RpL.bls r]; rfl
theorem RpL.ofInts : ∀ (ns : List Int), RpL K G (ns.map D.int) (ns.map V.int)
  | [] => .nil
  | n :: ns => .cons (.int n) (RpL.ofInts ns)
end

/-- what is known of the class of an instance -/
structure InsC (K : PySem.W.Frag) (C : Addr) : Prop where
  cl : Cls K C
  ha : PySem.W.findIn K (.ref C) "__class__" = some (some (.builtin "object.__class__"))
  hn : PySem.W.specialIn K (.builtin "object.__class__") "__get__" = some (some (.builtin "getset_descriptor.__get__"))
  htk : PySem.W.takesIn K (.builtin "object.__class__") = some true
  hm : PySem.W.mroIn K C (.type "object") = some true
  no : ∀ T ∈ ["bool", "int", "str", "tuple", "list", "dict"], PySem.W.kitOne K (.ref C) (.type T) = some false
/-- what a mutable thing is in the abstract heap -/
def RpM (K : KF) (G : Hp) (a : Addr) : MO → HO → Prop
  | .lst ds, o => ∃ vs, o = .lst vs ∧ RpL K G ds vs ∧ ds.length ≤ sizeLine
  | .dN kvs, o => ∃ xs : List (NestedKey × Addr × V), o = .ext (dictAt K.wd a xs) ∧ (a == sysModules) = false ∧ (xs.map (·.1)).Nodup ∧ kvs.map (·.1) = xs.map (·.1) ∧ RpL K G (kvs.map (·.2)) (xs.map (·.2.2)) ∧
      (∀ x ∈ xs, Rp K G (keyD x.1) (.ref x.2.1) ∧ x.1.depth ≤ 8) ∧ kvs.length ≤ sizeLine
  | .dE, o => o = .dT []
  | .dI k d, o => ∃ v, o = .dK [(Sum.inl k, v)] ∧ Rp K G d v
  | .ins c dx fs, o => ∃ C vs, K.cls c C ∧ InsC K C ∧ o = .ins C dx ((fs.map (·.1)).zip vs) ∧ RpL K G (fs.map (·.2)) vs
  | .own y, o => o = .own y
  | .xd fs, o => ∃ vs, o = .xd ((fs.map (·.1)).zip vs) ∧ RpL K G (fs.map (·.2)) vs
theorem RpM.same {K : KF} {G G' : Hp} (e : Same G G') {a : Addr} {m : MO} {o : HO} (h : RpM K G a m o) : RpM K G' a m o := by
  cases m with
  | lst ds => obtain ⟨vs, e1, r, z⟩ := h; exact ⟨vs, e1, r.same e, z⟩
  | dN kvs => obtain ⟨xs, e1, sm, nd, k, r, ky, z⟩ := h; exact ⟨xs, e1, sm, nd, k, r.same e, fun x hx => ⟨(ky x hx).1.same e, (ky x hx).2⟩, z⟩
  | dE => exact h
  | dI k d => obtain ⟨v, e1, r⟩ := h; exact ⟨v, e1, r.same e⟩
  | ins c dx fs => obtain ⟨C, vs, e1, e0, e2, r⟩ := h; exact ⟨C, vs, e1, e0, e2, r.same e⟩
  | own y => exact h
  | xd fs => obtain ⟨vs, e1, r⟩ := h; exact ⟨vs, e1, r.same e⟩

/-- the table at P tells code objects of the name q, which nothing else holds -/
def TbAt (H : Hp) (m : Mu) (P : Addr) (q : Str) : Prop := ∃ ps : Array Value, H P = some (.tbl ps) ∧ TriplesOk ps.toList ∧ ∀ (pos : Pos) (cv : Value), codeAmong pos ps.toList = some cv → ∃ c, cv = .ref c ∧ H c = some (LamX.CodeO c q) ∧ m c = none
/-- G: what never changes; m: what may; both stand in H -/
structure Rl (K : KF) (G H : Hp) (m : Mu) : Prop where
  sub : Same G H
  mu : ∀ a o, m a = some o → G a = none ∧ ∃ u, H a = some u ∧ RpM K G a o u
  tab : ∀ t ∈ K.tabs, G t.1 = none ∧ m t.1 = none ∧ TbAt H m t.1 t.2
  nt : ∀ a ps, G a ≠ some (.tbl ps)
  tt : ∀ a ps, H a = some (.tbl ps) → ∃ q, (a, q) ∈ K.tabs
theorem RpM.nt {K : KF} {G : Hp} {a : Addr} {m : MO} {o : HO} (h : RpM K G a m o) (ps : Array Value) : o ≠ .tbl ps := by
  cases m with
  | lst ds => obtain ⟨vs, e1, _⟩ := h; subst e1; intro z; cases z
  | dN kvs => obtain ⟨xs, e1, _⟩ := h; subst e1; intro z; cases z
  | dE => have e : o = .dT [] := h; subst e; intro z; cases z
  | dI k d => obtain ⟨v, e1, _⟩ := h; subst e1; intro z; cases z
  | ins c dx fs => obtain ⟨C, vs, _, _, e2, _⟩ := h; subst e2; intro z; cases z
  | own y => have e : o = .own y := h; subst e; intro z; cases z
  | xd fs => obtain ⟨vs, e1, _⟩ := h; subst e1; intro z; cases z
theorem Rl.ttU {K : KF} {G H : Hp} {m : Mu} (r : Rl K G H m) {p : Addr} {o : HO} (hn : ∀ ps, o ≠ .tbl ps) (a : Addr) (ps : Array Value) (e : upd H p o a = some (.tbl ps)) : ∃ q, (a, q) ∈ K.tabs := by
  by_cases ha : a = p
  · subst ha; rw [upd_same] at e; exact absurd (Option.some.inj e) (hn ps)
  · rw [upd_ne ha] at e; exact r.tt a ps e
theorem Rl.free {K : KF} {G H : Hp} {m : Mu} (r : Rl K G H m) {p : Addr} (h : H p = none) : G p = none ∧ m p = none := by
  constructor
  · exact r.sub.free h
  · cases e : m p with
    | none => rfl
    | some o => obtain ⟨_, u, q, _⟩ := r.mu p o e; rw [h] at q; cases q
structure Stp (G H : Hp) (m : Mu) (G' H' : Hp) (m' : Mu) : Prop where
  g : Same G G'
  fr : ∀ b o, H b = some o → G b = none → m b = none → (∀ ps, o ≠ .tbl ps) → H' b = some o ∧ G' b = none ∧ m' b = none
  up : ∀ b o, H b = some o → ∃ o', H' b = some o'
theorem Stp.refl {G H : Hp} {m : Mu} : Stp G H m G H m := ⟨Same.refl _, fun b o h g m _ => ⟨h, g, m⟩, fun b o h => ⟨o, h⟩⟩
theorem Stp.trans {G H G1 H1 G2 H2 : Hp} {m m1 m2 : Mu} (a : Stp G H m G1 H1 m1) (b : Stp G1 H1 m1 G2 H2 m2) : Stp G H m G2 H2 m2 :=
  ⟨a.g.trans b.g, fun c o h g q n => let ⟨h1, g1, q1⟩ := a.fr c o h g q n; b.fr c o h1 g1 q1 n, fun c o h => let ⟨o1, h1⟩ := a.up c o h; b.up c o1 h1⟩
theorem Stp.free {G H G' H' : Hp} {m m' : Mu} (s : Stp G H m G' H' m') {p : Addr} (h : H' p = none) : H p = none := by
  cases e : H p with
  | none => rfl
  | some o => obtain ⟨o', q⟩ := s.up p o e; rw [h] at q; cases q

/-! slots -/
abbrev Ro := List (Option D)
structure RpS (K : KF) (G : Hp) (r : Ro) (s : L2.St) : Prop where
  len : r.length = s.length
  get : ∀ (i : Nat) (d : D), r[i]? = some (some d) → ∃ v, s[i]? = some (some v) ∧ Rp K G d v
theorem RpS.same {K : KF} {G G' : Hp} (e : Same G G') {r : Ro} {s : L2.St} (h : RpS K G r s) : RpS K G' r s :=
  ⟨h.len, fun i d q => let ⟨v, a, b⟩ := h.get i d q; ⟨v, a, b.same e⟩⟩
theorem RpS.set {K : KF} {G : Hp} {r : Ro} {s : L2.St} {d : D} {v : V} (h : RpS K G r s) (q : Rp K G d v) (i : Nat) : RpS K G (r.set i (some d)) (s.set i (some v)) := by
  refine ⟨by rw [List.length_set, List.length_set, h.len], fun j e hj => ?_⟩
  by_cases hi : i = j
  · subst hi
    by_cases hl : i < r.length
    · rw [List.getElem?_set_self hl] at hj
      cases hj
      exact ⟨v, by rw [List.getElem?_set_self (by rw [← h.len]; exact hl)], q⟩
    · rw [List.getElem?_eq_none (by rw [List.length_set]; omega)] at hj; cases hj
  · rw [List.getElem?_set_ne hi] at hj ⊢
    exact h.get j e hj
theorem RpS.forget {K : KF} {G : Hp} {r : Ro} {s : L2.St} (h : RpS K G r s) (i : Nat) (x : Option V) : RpS K G (r.set i none) (s.set i x) := by
  refine ⟨by rw [List.length_set, List.length_set, h.len], fun j e hj => ?_⟩
  by_cases hi : i = j
  · subst hi
    by_cases hl : i < r.length
    · rw [List.getElem?_set_self hl] at hj; cases hj
    · rw [List.getElem?_eq_none (by rw [List.length_set]; omega)] at hj; cases hj
  · rw [List.getElem?_set_ne hi] at hj ⊢
    exact h.get j e hj

/-! readings over data -/
abbrev DK := D → Mu → Prop
abbrev DT := Ro → Mu → DK → Prop
abbrev DB := Ro → Mu → (Bool → Mu → Prop) → Prop
abbrev DA := Ro → Mu → (List D → Mu → Prop) → Prop
/-- an exception: its class, its fields -/
structure XD where
  c : Str
  fs : List (Str × D)
structure DE where
  nx : Ro → Mu → Prop
  rt : DK
  bk : Ro → Mu → Prop := fun _ _ => False
  ct : Ro → Mu → Prop := fun _ _ => False
  ex : XD → Mu → Prop := fun _ _ => False
abbrev DS := DE → Ro → Mu → Prop

/-- the wish at the heap's level, from one over data -/
def WV (K : KF) (G H : Hp) (m : Mu) (Q : DK) (Qv : VK) : Prop :=
  ∀ v H' G' m' d, Stp G H m G' H' m' → Rl K G' H' m' → Rp K G' d v → Q d m' → Qv v H'
def lf (K : KF) (t : DT) : TE := fun s H Qv => ∃ G r m Q, RpS K G r s ∧ Rl K G H m ∧ t r m Q ∧ WV K G H m Q Qv
def lfB (K : KF) (t : DB) : TT := fun s H Qv => ∃ G r m Q, RpS K G r s ∧ Rl K G H m ∧ t r m Q ∧
  ∀ b H' G' m', Stp G H m G' H' m' → Rl K G' H' m' → Q b m' → Qv b H'
def lfA (K : KF) (t : DA) : TA := fun s H Qv => ∃ G r m Q, RpS K G r s ∧ Rl K G H m ∧ t r m Q ∧
  ∀ vs H' G' m' ds, Stp G H m G' H' m' → Rl K G' H' m' → RpL K G' ds vs → Q ds m' → Qv vs H'
/-- where the fields of an exception stand: its dict, under no name -/
def xfs (dx : Addr) : List (Str × D) := [(("" : Str), D.ref dx)]
/-- the exception x: its class, its dict -/
def RX (K : KF) (x : XD) (cls : Value) (d : Option Addr) : Prop := ∃ C, cls = .ref C ∧ K.cls x.c C ∧ ((x.fs = [] ∧ d = none) ∨ ∃ dx : Addr, x.fs = xfs dx ∧ d = some dx)
/-- what a context takes -/
def _root_.L2.Cx.wx (X : Cx) : WX := fun cls d σ H => ∀ u s', L2.XE X (fun c' d' σ' H' => c' = cls ∧ d' = d ∧ σ' = σ ∧ H' = H) u s' → X.xe u s'
structure WS (K : KF) (xw : WX) (G H : Hp) (m : Mu) (De : DE) (E : Ends) : Prop where
  nx : ∀ s' H' G' r' m', Stp G H m G' H' m' → RpS K G' r' s' → Rl K G' H' m' → De.nx r' m' → E.nx s' H'
  rt : WV K G H m De.rt E.rt
  bk : ∀ s' H' G' r' m', Stp G H m G' H' m' → RpS K G' r' s' → Rl K G' H' m' → De.bk r' m' → E.bk s' H'
  ct : ∀ s' H' G' r' m', Stp G H m G' H' m' → RpS K G' r' s' → Rl K G' H' m' → De.ct r' m' → E.ct s' H'
  ex : ∀ s' H' G' r' m' x cls d, Stp G H m G' H' m' → RpS K G' r' s' → Rl K G' H' m' → RX K x cls d → De.ex x m' → xw cls d s' H'
def lfS (K : KF) (xw : WX) (t : DS) : TS := fun E s H => ∃ G r m De, RpS K G r s ∧ Rl K G H m ∧ t De r m ∧ WS K xw G H m De E

def PD (X : Cx) (e : Expr) (t : DT) : Prop := PE X e (lf X.kf t)
def PDT (X : Cx) (e : Expr) (t : DB) : Prop := PT X e (lfB X.kf t)
def PDA (X : Cx) (es : List Expr) (t : DA) : Prop := PA X es (lfA X.kf t)
def PDS (X : Cx) (s : Stmt) (t : DS) : Prop := PS X s (lfS X.kf X.wx t)
def PDSs (X : Cx) (s : List Stmt) (t : DS) : Prop := PSs X s (lfS X.kf X.wx t)

section
variable {X : Cx} {e : Expr} {es : List Expr}
theorem peM {t t' : TE} (h : PE X e t) (i : ∀ s H Q, t' s H Q → t s H Q) : PE X e t' := ⟨fun pins s σ H Q I q => h.run pins s σ H Q I (i _ _ _ q)⟩
theorem ptM {t t' : TT} (h : PT X e t) (i : ∀ s H Q, t' s H Q → t s H Q) : PT X e t' := ⟨fun pins s σ H Q I q => h.run pins s σ H Q I (i _ _ _ q)⟩
theorem paM {t t' : TA} (h : PA X es t) (i : ∀ s H Q, t' s H Q → t s H Q) : PA X es t' := ⟨fun pos pins s σ H Q I q => h.run pos pins s σ H Q I (i _ _ _ q)⟩
theorem psM {st : Stmt} {t t' : TS} (h : PS X st t) (i : ∀ E s H, t' E s H → t E s H) : PS X st t' := ⟨fun pins s σ H D I q => h.run pins s σ H D I (i _ _ _ q)⟩
theorem pssM {st : List Stmt} {t t' : TS} (h : PSs X st t) (i : ∀ E s H, t' E s H → t E s H) : PSs X st t' := ⟨fun pins s σ H D I q => h.run pins s σ H D I (i _ _ _ q)⟩
end
section
variable {K : KF} {G H : Hp} {m : Mu}
/-- a wish behind a step -/
theorem WV.after {G1 H1 : Hp} {m1 : Mu} {Q : DK} {Qv : VK} (w : WV K G H m Q Qv) (s : Stp G H m G1 H1 m1) : WV K G1 H1 m1 Q Qv :=
  fun v H' G' m' d s' r h q => w v H' G' m' d (s.trans s') r h q
theorem WV.now {Q : DK} {Qv : VK} (w : WV K G H m Q Qv) {d : D} {v : V} (r : Rl K G H m) (h : Rp K G d v) (q : Q d m) : Qv v H := w v H G m d Stp.refl r h q
theorem WS.after {xw : WX} {G1 H1 : Hp} {m1 : Mu} {De : DE} {E : Ends} (w : WS K xw G H m De E) (s : Stp G H m G1 H1 m1) : WS K xw G1 H1 m1 De E :=
  ⟨fun s' H' G' r' m' a b c d => w.nx s' H' G' r' m' (s.trans a) b c d, w.rt.after s, fun s' H' G' r' m' a b c d => w.bk s' H' G' r' m' (s.trans a) b c d, fun s' H' G' r' m' a b c d => w.ct s' H' G' r' m' (s.trans a) b c d, fun s' H' G' r' m' x cl dd a b c d e => w.ex s' H' G' r' m' x cl dd (s.trans a) b c d e⟩
theorem TbAt.of {H H' : Hp} {m m' : Mu} {P : Addr} {q : Str} (t : TbAt H m P q) (hP : ∀ o, H P = some o → H' P = some o) (hc : ∀ c, H c = some (LamX.CodeO c q) → m c = none → H' c = some (LamX.CodeO c q) ∧ m' c = none) : TbAt H' m' P q := by
  obtain ⟨ps, h1, h2, h3⟩ := t
  refine ⟨ps, hP _ h1, h2, fun pos cv e => ?_⟩
  obtain ⟨c, e1, e2, e3⟩ := h3 pos cv e
  exact ⟨c, e1, (hc c e2 e3).1, (hc c e2 e3).2⟩
theorem TbAt.at_ {H : Hp} {m : Mu} {P : Addr} {q : Str} (t : TbAt H m P q) : ∃ o, H P = some o := let ⟨_, h, _⟩ := t; ⟨_, h⟩
/-- a new place is told -/
theorem TbAt.new {H : Hp} {m : Mu} {P p : Addr} {q : Str} {o : HO} (t : TbAt H m P q) (h : H p = none) : TbAt (upd H p o) m P q :=
  t.of (fun u e => by rw [upd_ne (ne_of_none e h)]; exact e) fun c e1 e2 => ⟨by rw [upd_ne (ne_of_none e1 h)]; exact e1, e2⟩
/-- a new thing that never changes -/
theorem Rl.new (r : Rl K G H m) {p : Addr} (h : H p = none) (o : HO) (hn : ∀ ps, o ≠ .tbl ps := by intro _ z; cases z) : Rl K (upd G p o) (upd H p o) m ∧ Stp G H m (upd G p o) (upd H p o) m := by
  obtain ⟨g, q⟩ := r.free h
  refine ⟨⟨fun b u e => ?_, fun a u e => ?_, fun t ht => ?_, fun b ps e => ?_, fun b ps e => ?_⟩, ⟨fun b u e => ?_, fun b u e1 e2 e3 _ => ?_, fun b u e => ?_⟩⟩
  · by_cases hb : b = p
    · subst hb; rw [upd_same] at e ⊢; exact e
    · rw [upd_ne hb] at e ⊢; exact r.sub b u e
  · obtain ⟨ga, w, hw, rw'⟩ := r.mu a u e
    have na : a ≠ p := fun z => by subst z; rw [q] at e; cases e
    refine ⟨by rw [upd_ne na]; exact ga, w, by rw [upd_ne na]; exact hw, rw'.same fun b z ez => ?_⟩
    rw [upd_ne (ne_of_none ez g)]; exact ez
  · obtain ⟨t1, t2, t3⟩ := r.tab t ht
    obtain ⟨o2, e2⟩ := t3.at_
    exact ⟨by rw [upd_ne (ne_of_none e2 h)]; exact t1, t2, t3.new h⟩
  · by_cases hb : b = p
    · subst hb; rw [upd_same] at e; exact hn ps (Option.some.inj e)
    · rw [upd_ne hb] at e; exact r.nt b ps e
  · exact r.ttU hn b ps e
  · rw [upd_ne (ne_of_none e g)]; exact e
  · have nb : b ≠ p := ne_of_none e1 h
    rw [upd_ne nb, upd_ne nb]; exact ⟨e1, e2, e3⟩
  · exact ⟨u, by rw [upd_ne (ne_of_none e h)]; exact e⟩
/-- a new mutable thing -/
theorem Rl.newM (r : Rl K G H m) {p : Addr} (h : H p = none) {o : HO} {u : MO} (q : RpM K G p u o) : Rl K G (upd H p o) (up m p u) ∧ Stp G H m G (upd H p o) (up m p u) := by
  obtain ⟨g, z⟩ := r.free h
  refine ⟨⟨fun b w e => ?_, fun a w e => ?_, fun t ht => ?_, r.nt, r.ttU q.nt⟩, ⟨Same.refl _, fun b w e1 e2 e3 _ => ?_, fun b w e => ?_⟩⟩
  · rw [upd_ne (ne_of_none e g)]; exact r.sub b w e
  · by_cases ha : a = p
    · subst ha; rw [up_same] at e; cases e; exact ⟨g, o, upd_same, q⟩
    · rw [up_ne ha] at e
      obtain ⟨ga, x, hx, rx⟩ := r.mu a w e
      exact ⟨ga, x, by rw [upd_ne ha]; exact hx, rx⟩
  · obtain ⟨t1, t2, t3⟩ := r.tab t ht
    obtain ⟨o2, e2⟩ := t3.at_
    exact ⟨t1, by rw [up_ne (ne_of_none e2 h)]; exact t2, t3.of (fun u e => by rw [upd_ne (ne_of_none e h)]; exact e) fun c e1 e2 => ⟨by rw [upd_ne (ne_of_none e1 h)]; exact e1, by rw [up_ne (ne_of_none e1 h)]; exact e2⟩⟩
  · have nb : b ≠ p := ne_of_none e1 h
    rw [upd_ne nb, up_ne nb]; exact ⟨e1, e2, e3⟩
  · exact ⟨w, by rw [upd_ne (ne_of_none e h)]; exact e⟩
/-- a mutable thing changed -/
theorem Rl.put (r : Rl K G H m) {p : Addr} {u0 : MO} (h : m p = some u0) {o : HO} {u : MO} (q : RpM K G p u o) : Rl K G (upd H p o) (up m p u) ∧ Stp G H m G (upd H p o) (up m p u) := by
  obtain ⟨g, x0, hx0, _⟩ := r.mu p u0 h
  refine ⟨⟨fun b w e => ?_, fun a w e => ?_, fun t ht => ?_, r.nt, r.ttU q.nt⟩, ⟨Same.refl _, fun b w e1 e2 e3 _ => ?_, fun b w e => ?_⟩⟩
  · rw [upd_ne (ne_of_none e g)]; exact r.sub b w e
  · by_cases ha : a = p
    · subst ha; rw [up_same] at e; cases e; exact ⟨g, o, upd_same, q⟩
    · rw [up_ne ha] at e
      obtain ⟨ga, x, hx, rx⟩ := r.mu a w e
      exact ⟨ga, x, by rw [upd_ne ha]; exact hx, rx⟩
  · obtain ⟨t1, t2, t3⟩ := r.tab t ht
    have ne : ∀ c, m c = none → c ≠ p := fun c e z => by subst z; rw [h] at e; cases e
    exact ⟨t1, by rw [up_ne (ne _ t2)]; exact t2, t3.of (fun u e => by rw [upd_ne (ne _ t2)]; exact e) fun c e1 e2 => ⟨by rw [upd_ne (ne _ e2)]; exact e1, by rw [up_ne (ne _ e2)]; exact e2⟩⟩
  · have nb : b ≠ p := fun z => by subst z; rw [h] at e3; cases e3
    rw [upd_ne nb, up_ne nb]; exact ⟨e1, e2, e3⟩
  · by_cases hb : b = p
    · exact ⟨o, by rw [hb]; exact upd_same⟩
    · exact ⟨w, by rw [upd_ne hb]; exact e⟩
/-- a mutable thing that is never changed again -/
theorem Rl.fix (r : Rl K G H m) {p : Addr} {u0 : MO} (h : m p = some u0) : ∃ x0, H p = some x0 ∧ RpM K G p u0 x0 ∧ Same G (upd G p x0) ∧ Rl K (upd G p x0) H (er m p) ∧ Stp G H m (upd G p x0) H (er m p) := by
  obtain ⟨g, x0, hx0, rp⟩ := r.mu p _ h
  have sm : Same G (upd G p x0) := fun b w e => by rw [upd_ne (ne_of_none e g)]; exact e
  refine ⟨x0, hx0, rp, sm, ⟨fun b w e => ?_, fun a w e => ?_, fun t ht => ?_, fun b ps e => by
    by_cases hb : b = p
    · subst hb; rw [upd_same] at e; exact rp.nt ps (Option.some.inj e)
    · rw [upd_ne hb] at e; exact r.nt b ps e, r.tt⟩, ⟨sm, fun b w e1 e2 e3 _ => ?_, fun b w e => ⟨w, e⟩⟩⟩
  · by_cases hb : b = p
    · subst hb; rw [upd_same] at e; cases e; exact hx0
    · rw [upd_ne hb] at e; exact r.sub b w e
  · have ha : a ≠ p := fun z => by subst z; rw [er_same] at e; cases e
    rw [er_ne ha] at e
    obtain ⟨ga, x, hx, rx⟩ := r.mu a w e
    exact ⟨by rw [upd_ne ha]; exact ga, x, hx, rx.same sm⟩
  · obtain ⟨t1, t2, t3⟩ := r.tab t ht
    have ne : ∀ c, m c = none → c ≠ p := fun c e z => by subst z; rw [h] at e; cases e
    exact ⟨by rw [upd_ne (ne _ t2)]; exact t1, by rw [er_ne (ne _ t2)]; exact t2, t3.of (fun u e => e) fun c e1 e2 => ⟨e1, by rw [er_ne (ne _ e2)]; exact e2⟩⟩
  · have nb : b ≠ p := fun z => by subst z; rw [h] at e3; cases e3
    rw [upd_ne nb, er_ne nb]; exact ⟨e1, e2, e3⟩
/-- a mutable list that is never changed again -/
theorem Rl.freeze (r : Rl K G H m) {p : Addr} {ds : List D} (h : m p = some (.lst ds)) : ∃ G', Rl K G' H (er m p) ∧ Stp G H m G' H (er m p) ∧ Rp K G' (.lst ds) (.ref p) := by
  obtain ⟨x0, hx0, ⟨vs, e0, rv, z⟩, sm, rl, st⟩ := r.fix h
  subst e0
  exact ⟨_, rl, st, .lst upd_same (rv.same sm) z⟩
theorem RpL.refs {K : KF} {G : Hp} : ∀ {xs : List (NestedKey × Addr × V)}, (∀ x ∈ xs, Rp K G (keyD x.1) (.ref x.2.1)) → RpL K G ((xs.map (·.1)).map keyD) (xs.map fun x => V.ref x.2.1)
  | [], _ => .nil
  | x :: xs, h => .cons (h x List.mem_cons_self) (RpL.refs fun y hy => h y (List.mem_cons_of_mem _ hy))
/-- a list that nothing tells -/
theorem Rl.hid (r : Rl K G H m) {p : Addr} (g : G p = none) (q : m p = none) (h : H p = none ∨ ∃ us, H p = some (.lst us)) (o : HO) (hn : ∀ ps, o ≠ .tbl ps := by intro _ z; cases z) : Rl K G (upd H p o) m := by
  refine ⟨fun b w e => ?_, fun a w e => ?_, fun t ht => ?_, r.nt, r.ttU hn⟩
  · rw [upd_ne (ne_of_none e g)]; exact r.sub b w e
  · obtain ⟨ga, x, hx, rx⟩ := r.mu a w e
    exact ⟨ga, x, by rw [upd_ne (fun z => by subst z; rw [q] at e; cases e)]; exact hx, rx⟩
  · obtain ⟨t1, t2, t3⟩ := r.tab t ht
    have nT : t.1 ≠ p := fun z => by
      obtain ⟨ps, e, _⟩ := t3
      rw [z] at e
      rcases h with h | ⟨us, h⟩ <;> rw [h] at e <;> cases e
    have nC : ∀ c q', H c = some (LamX.CodeO c q') → c ≠ p := fun c q' e z => by
      rw [z] at e
      rcases h with h | ⟨us, h⟩ <;> rw [h] at e <;> cases e
    exact ⟨t1, t2, t3.of (fun u e => by rw [upd_ne nT]; exact e) fun c e1 e2 => ⟨by rw [upd_ne (nC _ _ e1)]; exact e1, e2⟩⟩
theorem tab_ne {P : Addr} {q : Str} {D : Addr} {us : List V} (t : TbAt H m P q) (h : H D = some (.lst us)) : P ≠ D ∧ ∀ c, H c = some (LamX.CodeO c q) → c ≠ D := by
  obtain ⟨ps, e, _⟩ := t
  refine ⟨fun z => ?_, fun c e2 z => ?_⟩
  · rw [z, h] at e; cases e
  · rw [z, h] at e2; cases e2
theorem Rl.hidG (r : Rl K G H m) {D : Addr} {us : List V} (h : H D = some (.lst us)) (g : G D = none) (q : m D = none) : Rl K (upd G D (.lst us)) H m := by
  have sm : Same G (upd G D (.lst us)) := fun b o e => by rw [upd_ne (ne_of_none e g)]; exact e
  refine ⟨fun b o e => ?_, fun a o e => ?_, fun t ht => ?_, fun b ps e => by
    by_cases hb : b = D
    · subst hb; rw [upd_same] at e; cases e
    · rw [upd_ne hb] at e; exact r.nt b ps e, r.tt⟩
  · by_cases hb : b = D
    · subst hb; rw [upd_same] at e; cases e; exact h
    · rw [upd_ne hb] at e; exact r.sub b o e
  · obtain ⟨h1, u, h2, h3⟩ := r.mu a o e
    have na : a ≠ D := fun z => by subst z; rw [q] at e; cases e
    exact ⟨by rw [upd_ne na]; exact h1, u, h2, h3.same sm⟩
  · obtain ⟨t1, t2, t3⟩ := r.tab t ht
    exact ⟨by rw [upd_ne (tab_ne t3 h).1]; exact t1, t2, t3⟩
/-- fewer mutable things are told -/
theorem Rl.less (r : Rl K G H m) {m' : Mu} (h : ∀ a o, m' a = some o → m a = some o) : Rl K G H m' := by
  have no : ∀ a, m a = none → m' a = none := fun a e => by
    cases q : m' a with
    | none => rfl
    | some u => rw [h a u q] at e; cases e
  exact ⟨r.sub, fun a o e => r.mu a o (h a o e), fun t ht => let ⟨t1, t2, t3⟩ := r.tab t ht; ⟨t1, no _ t2, t3.of (fun _ e => e) fun c e1 e2 => ⟨e1, no c e2⟩⟩, r.nt, r.tt⟩
theorem Stp.less {G' H' : Hp} {m1 m' : Mu} (s : Stp G H m G' H' m1) (h : ∀ a o, m' a = some o → m1 a = some o) : Stp G H m G' H' m' := by
  refine ⟨s.g, fun b o e1 e2 e3 n => ?_, s.up⟩
  obtain ⟨h1, h2, h3⟩ := s.fr b o e1 e2 e3 n
  refine ⟨h1, h2, ?_⟩
  cases e : m' b with
  | none => rfl
  | some u => rw [h b u e] at h3; cases h3
end
end Mn

set_option Elab.async false
set_option linter.all false
set_option maxRecDepth 100000
set_option maxHeartbeats 4000000
set_option autoImplicit false
namespace Mn
open PySem PySem.Spec PyProof.Rows L2
variable [Tbs]
/-! new tuples, known to their objects -/
section
variable {X : Cx} {es : List Expr} {pos : Pos}
def NewT (H : Hp) (xs : List V) (Q : VK) : Prop := ∀ (p : Addr) (o : Obj), o.dict = none → H p = none → Q (.ref p) (upd H p (.frz o (.tup xs)))
def tTupF (t : TA) : TE := fun σ H Q => t σ H fun xs H1 => xs.length ≤ sizeLine ∧ NewT H1 xs Q
theorem pe_tupF {x1} {t : TA} (h : PA X es t) : PE X (.Tuple es x1 pos) (tTupF t) := by
  refine ⟨fun pins s σ H Q I hq => ?_⟩
  refine wpAny_Tuple_spliced (thn (h.run pos pins s σ H _ I hq) fun us s1 ⟨xs, H1, I1, r, z, q⟩ => ⟨by rw [← r.length]; exact z, ?_⟩)
  have hf : H1 s1.heap.objs.size = none := I1.hok.fresh (Nat.le_refl _)
  refine ⟨.ref s1.heap.objs.size, _, I1.laid (o := .frz { cls := .type "tuple", data := .seq us.toArray } (.tup xs)) (t' := s1.toks) (fun b u e => Heap.get?_push_of_some _ e) (Nat.le_refl _) ?_, rfl, q _ _ rfl hf⟩
  exact ⟨Heap.get?_push_size _ rfl, z, us, r, ⟨_, Heap.get?_push_size _ rfl, rfl, _, rfl⟩⟩
theorem call_tuple_ofF : CallR X (.type "tuple") (fun xs H Q => ∃ p ys, xs = [.ref p] ∧ ((SqL X.K H p ys ∧ NewT H ys Q) ∨ (SqT X.K H p ys ∧ Q (.ref p) H))) := by
  intro pins s σ H xs us Q I r h
  obtain ⟨p, ys, rfl, h⟩ := h
  obtain ⟨u, rfl, rx⟩ := vals1 r
  cases rx
  rcases h with ⟨hq, q⟩ | ⟨hq, q⟩
  · obtain ⟨its, r', pl, hz⟩ := I.list hq
    have hlen := r'.length
    refine call_tuple_list pl.isList (fun h' kp => ?_) (by simp only [List.size_toArray] <;> omega)
    have I1 : Inv X pins σ H { s with heap := h' } := I.kept (t' := s.toks) kp
    have I2 : Inv X pins σ (upd H h'.objs.size (.frz { cls := .type "tuple", data := .seq its.toArray } (.tup ys))) { s with heap := h'.push { cls := .type "tuple", data := .seq its.toArray } } :=
      I1.laid (t' := s.toks) (fun b o e => Heap.get?_push_of_some _ e) (Nat.le_refl _) (show ObjOk X.prog X.w _ _ _ (.frz _ (.tup ys)) from ⟨Heap.get?_push_size _ rfl, hz, its, r', IsTup.new _ _⟩)
    exact ⟨.ref h'.objs.size, _, I2, rfl, q _ _ rfl (I1.hok.fresh (Nat.le_refl _))⟩
  · exact call_tupleT pins s σ H _ _ Q I r ⟨p, ys, rfl, hq, q⟩
/-- t + u -/
def rCatF (K : PySem.W.Frag) : R2 := fun x y H Q => ∃ a b xs ys, x = .ref a ∧ y = .ref b ∧ SqT K H a xs ∧ SqT K H b ys ∧ xs.length + ys.length ≤ sizeLine ∧
  (xs = [] → Q (.ref b) H) ∧ (xs ≠ [] → ys = [] → Q (.ref a) H) ∧ (xs ≠ [] → ys ≠ [] → NewT H (xs ++ ys) Q)
theorem op_catF : OpR X (binaryOp .Add) (rCatF X.K) := by
  intro pins s σ H x y v u Q I rx ry h
  obtain ⟨a, b, xs, ys, rfl, rfl, ha, hb, hz, q0, q1, q2⟩ := h
  cases rx
  cases ry
  obtain ⟨its, r1, p1, _⟩ := I.tuple ha
  obtain ⟨its2, r2, p2, _⟩ := I.tuple hb
  by_cases hx : xs = []
  · subst hx
    cases r1
    exact cat_tup0 p1 p2 ⟨.ref b, H, I, rfl, q0 rfl⟩
  · refine HT.cat_tup p1 p2 (fun z => hx (r1.nil_iff.mp z)) (fun z => ⟨.ref a, H, I, rfl, q1 hx (r2.nil_iff.mp z)⟩) (fun z => ?_) (by rw [← r1.length, ← r2.length]; exact hz)
    refine ⟨.ref s.heap.objs.size, _, I.laid (t' := s.toks) (o := .frz { cls := .type "tuple", data := .seq (its ++ its2).toArray } (.tup (xs ++ ys))) (fun b ob q => Heap.get?_push_of_some _ q) (Nat.le_refl _) ?_, rfl, q2 hx (fun w => z (r2.nil_iff.mpr w)) _ _ rfl (I.hok.fresh (Nat.le_refl _))⟩
    exact ⟨by first | exact Heap.get?_push_size _ rfl | (rw [List.append_toArray]; exact Heap.get?_push_size _ rfl), by rw [List.length_append]; exact hz, _, r1.append r2, IsTup.new _ _⟩
/-- t * k -/
def rRepF (K : PySem.W.Frag) : R2 := fun x y H Q => ∃ l k xs, x = .ref l ∧ y = .int k ∧ SqT K H l xs ∧ xs ≠ [] ∧ 2 ≤ k ∧ k ≤ 1000 ∧ xs.length ≤ 1000 ∧ NewT H (List.replicate k.toNat xs).flatten Q
theorem op_repF : OpR X (binaryOp .Mult) (rRepF X.K) := by
  intro pins s σ H x y v u Q I rx ry h
  obtain ⟨l, k, xs, rfl, rfl, hT, hne, h1, h2, hz, q⟩ := h
  cases rx
  obtain ⟨t, rfl⟩ := ry
  obtain ⟨its, r, ⟨⟨cls, dd, data, sl⟩, ho, hc, n, hd⟩, hs⟩ := I.tuple hT
  simp only at hc hd
  subst hc hd
  have hle : its.length = xs.length := r.length.symm
  have hn : its ≠ [] := fun e => hne (by
    rw [e] at hle
    exact List.eq_nil_of_length_eq_zero hle.symm)
  have hi : its.toArray.isEmpty = false := by
    cases its with
    | nil => exact absurd rfl hn
    | cons a b => rfl
  have hsz0 : its.toArray.size = xs.length := by rw [List.size_toArray, hle]
  have hm : ((its.toArray.size : Nat) : Int) * k ≤ 1000000 := by
    rw [hsz0]
    have a1 : ((xs.length : Nat) : Int) * k ≤ 1000 * k := Int.mul_le_mul_of_nonneg_right (by omega) (by omega)
    omega
  have flen : (List.replicate k.toNat its).flatten.length ≤ sizeLine := by
    rw [PyProof.Rows.lm_len_rep_flat, hle, sizeLine_eq]
    have a1 : k.toNat * xs.length ≤ 1000 * 1000 := Nat.mul_le_mul (by omega) hz
    omega
  have c0 : (decide (k < -(2 ^ 63)) || decide (k ≥ 2 ^ 63)) = false := by
    rw [decide_eq_false (by omega), decide_eq_false (by omega)] <;> rfl
  have c1 : (its.toArray.isEmpty || k == 1) = false := by
    rw [hi, Bool.false_or]
    exact beq_eq_false_iff_ne.mpr (by omega)
  have c2 : (decide (k ≤ 0) || its.toArray.isEmpty) = false := by
    rw [hi, Bool.or_false]
    exact decide_eq_false (by omega)
  have c4 : Builtin.Tuple.tupleTooMany (((its.toArray.size : Nat) : Int) * k) = false := by
    unfold Builtin.Tuple.tupleTooMany
    rw [sizeLine_eq]
    exact decide_eq_false (by omega)
  refine wpAny_binaryOp_repeat_ref (T := "tuple") (U := "int") (by decide) ⟨_, ho, rfl⟩ (fun s' => typeIs_int s' k t) noFill_tuple_mul F.fills_int_mul F.slot_int_rmul repeat_tuple F.slot_int_index.lookup
    (call_meets F.slot_int_rmul (typeIs_int s k t) F.entry_int_rmul (F.args_int_rmul_2 _ _) (int_rmul_tuple k t l its.toArray n dd sl)
      ⟨ho, rfl, ⟨_, ho, rfl⟩, call_meets F.slot_tuple_mul ⟨_, ho, rfl⟩ F.entry_tuple_mul (F.args_tuple_mul_2 _ _) (tuple_mulW l its.toArray n dd sl k t c0 c1 c2 (by omega) c4 (by rw [size_rep, List.size_toArray]; exact flen)) ⟨ho, ?_⟩⟩)
  rw [size_rep]
  refine ⟨.ref s.heap.objs.size, _, I.laid (t' := s.toks) (o := .frz { cls := .type "tuple", data := .seq (List.replicate k.toNat its).flatten.toArray } (.tup (List.replicate k.toNat xs).flatten)) (fun b ob q => Heap.get?_push_of_some _ q) (Nat.le_refl _) ?_, rfl, q _ _ rfl (I.hok.fresh (Nat.le_refl _))⟩
  exact ⟨Heap.get?_push_size _ rfl, by rw [PyProof.Rows.lm_len_rep_flat, sizeLine_eq]; have a1 : k.toNat * xs.length ≤ 1000 * 1000 := Nat.mul_le_mul (by omega) hz; omega, _, r.rep k.toNat, IsTup.new _ _⟩
end
end Mn

set_option Elab.async false
set_option linter.all false
set_option maxRecDepth 100000
set_option maxHeartbeats 4000000
set_option autoImplicit false
namespace Mn
open PySem PySem.Spec PyProof.Rows L2
variable [Tbs]

/-! expressions -/
def dVar (i : Nat) : DT := fun r m Q => ∃ d, r[i]? = some (some d) ∧ Q d m
def dC (d : D) : DT := fun _ m Q => Q d m
section
variable {X : Cx} {a b c : Expr} {es : List Expr} {ta tb tc : DT} {pos : Pos}
/-- a value that is the same whatever the state -/
theorem pd_of {e : Expr} {v : V} {d : D} (h : PE X e (tC v)) (r : ∀ G, Rp X.kf G d v) : PD X e (dC d) :=
  peM h fun s H Q ⟨G, ro, m, Qd, hs, hr, q, w⟩ => w.now hr (r G) q
theorem pd_var {i : Nat} {x : Str} (h : PE X (.Name x pos) (tVar i)) : PD X (.Name x pos) (dVar i) :=
  peM h fun s H Q ⟨G, ro, m, Qd, hs, hr, ⟨d, e, q⟩, w⟩ => let ⟨v, e1, rv⟩ := hs.get i d e; ⟨v, e1, w.now hr rv q⟩
theorem pd_int {i j} : PD X (.Constant (.int i) j pos) (dC (.int i)) := pd_of pe_int fun _ => .int i
theorem pd_bl {k j} : PD X (.Constant (.bool k) j pos) (dC (.bl k)) := pd_of pe_bl fun _ => .bl k
/-! two in a row -/
theorem lf2 {K : KF} {s : L2.St} {H : Hp} {R : V → V → Hp → Prop} {G : Hp} {r : Ro} {m : Mu} {P : D → D → Mu → Prop} (hs : RpS K G r s) (hr : Rl K G H m)
    (h : ta r m fun x m1 => tb r m1 fun y m2 => P x y m2)
    (w : ∀ x y dx dy H' G' m', Stp G H m G' H' m' → Rl K G' H' m' → Rp K G' dx x → Rp K G' dy y → P dx dy m' → R x y H') :
    lf K ta s H fun x H1 => lf K tb s H1 fun y H2 => R x y H2 := by
  refine ⟨G, r, m, _, hs, hr, h, fun v H1 G1 m1 d s1 r1 h1 q1 => ?_⟩
  refine ⟨G1, r, m1, _, hs.same s1.g, r1, q1, fun u H2 G2 m2 d2 s2 r2 h2 q2 => ?_⟩
  exact w v u d d2 H2 G2 m2 (s1.trans s2) r2 (h1.same s2.g) h2 q2
abbrev DR2 := D → D → Mu → DK → Prop
def C2 (K : KF) (r : R2) (dr : DR2) : Prop := ∀ (G H : Hp) (m : Mu) (x y : V) (dx dy : D) (Q : DK) (Qv : VK), Rl K G H m → Rp K G dx x → Rp K G dy y → dr dx dy m Q → WV K G H m Q Qv → r x y H Qv
def dOp (dr : DR2) (ta tb : DT) : DT := fun r m Q => ta r m fun x m1 => tb r m1 fun y m2 => dr x y m2 Q
theorem lfOp {r : R2} {dr : DR2} (hc : C2 X.kf r dr) {s : L2.St} {H : Hp} {Q : VK} (h : lf X.kf (dOp dr ta tb) s H Q) : tOp r (lf X.kf ta) (lf X.kf tb) s H Q := by
  obtain ⟨G, ro, m, Qd, hs, hr, q, w⟩ := h
  exact lf2 hs hr q fun x y dx dy H' G' m' st rl rx ry p => hc G' H' m' x y dx dy Qd Q rl rx ry p (w.after st)
theorem pd_op {op : Operator} {r : R2} {dr : DR2} (ho : OpR X (binaryOp op) r) (hc : C2 X.kf r dr) (ha : PD X a ta) (hb : PD X b tb) : PD X (.BinOp a op b pos) (dOp dr ta tb) :=
  peM (pe_op ho ha hb) fun _ _ _ h => lfOp hc h
theorem pd_cmp {op : CmpOp} {r : R2} {dr : DR2} (ho : OpR X (compareOp op) r) (hc : C2 X.kf r dr) (ha : PD X a ta) (hb : PD X b tb) (hm : behindInMarks op b = false) : PD X (.Compare a [op] [b] pos) (dOp dr ta tb) :=
  peM (pe_cmpR ho ha hb hm) fun _ _ _ h => lfOp hc h
/-- tests from values -/
def dTest (t : DT) : DB := fun r m Q => t r m fun d m1 => ∃ k, d = .bl k ∧ Q k m1
theorem lfTest {t : DT} {s : L2.St} {H : Hp} {Q : Bool → Hp → Prop} (h : lfB X.kf (dTest t) s H Q) : lf X.kf t s H fun x H1 => ∃ k, x = .bl k ∧ Q k H1 := by
  obtain ⟨G, ro, m, Qd, hs, hr, q, w⟩ := h
  refine ⟨G, ro, m, _, hs, hr, q, fun v H1 G1 m1 d s1 r1 h1 ⟨k, e, q1⟩ => ?_⟩
  subst e
  cases h1
  exact ⟨k, rfl, w k H1 G1 m1 s1 r1 q1⟩
theorem pdt_val {t : DT} (h : PD X a t) (he : ∀ whole, isTrue a X.env whole = (do let v ← whole; standAt a.pos; holding [v] (truthy v)) := by intro _; rfl) : PDT X a (dTest t) :=
  ptM (pt_val h he) fun _ _ _ h => lfTest h
theorem pdt_cmp {op : CmpOp} {r : R2} {dr : DR2} (ho : OpR X (compareOp op) r) (hc : C2 X.kf r dr) (ha : PD X a ta) (hb : PD X b tb) (hm : behindInMarks op b = false) : PDT X (.Compare a [op] [b] pos) (dTest (dOp dr ta tb)) := by
  refine ptM (pt_cmpR ho ha hb hm) fun s H Q h => ?_
  have h2 := lfTest h
  exact lfOp hc h2
/-- x op y op' z -/
def dChain (dr dr' : DR2) (ta tb tc : DT) : DT := fun r m Q => ta r m fun x m1 => tb r m1 fun y m2 => dr x y m2 fun k m3 => ∃ c, k = .bl c ∧ if c = true then tc r m3 fun z m4 => dr' y z m4 Q else Q (.bl false) m3
theorem lfChain {r r' : R2} {dr dr' : DR2} (hc : C2 X.kf r dr) (hc' : C2 X.kf r' dr') {s : L2.St} {H : Hp} {Q : VK} (h : lf X.kf (dChain dr dr' ta tb tc) s H Q) : tChain r r' (lf X.kf ta) (lf X.kf tb) (lf X.kf tc) s H Q := by
  obtain ⟨G, ro, m, Qd, hs, hr, q, w⟩ := h
  refine lf2 hs hr q fun x y dx dy H' G' m' st rl rx ry p => ?_
  refine hc G' H' m' x y dx dy _ _ rl rx ry p fun v H2 G2 m2 d s2 r2 h2 ⟨c, e, q2⟩ => ?_
  subst e
  cases h2
  refine ⟨c, rfl, ?_⟩
  cases c with
  | false => exact w _ _ _ _ _ (st.trans s2) r2 (.bl false) q2
  | true =>
    refine ⟨G2, ro, m2, _, (hs.same st.g).same s2.g, r2, q2, fun v3 H3 G3 m3 d3 s3 r3 h3 q3 => ?_⟩
    exact hc' G3 H3 m3 y v3 dy d3 Qd Q r3 ((ry.same s2.g).same s3.g) h3 q3 (w.after ((st.trans s2).trans s3))
theorem pd_chain {op op' : CmpOp} {r r' : R2} {dr dr' : DR2} (ho : OpR X (compareOp op) r) (ho' : OpR X (compareOp op') r') (hc : C2 X.kf r dr) (hc' : C2 X.kf r' dr') (ha : PD X a ta) (hb : PD X b tb) (hz : PD X c tc)
    (h1 : lastMarks [op, op'] [b, c] = false := by rfl) : PD X (.Compare a [op, op'] [b, c] pos) (dChain dr dr' ta tb tc) :=
  peM (pe_chain ho ho' ha hb hz h1) fun _ _ _ h => lfChain hc hc' h
theorem pdt_chain {op op' : CmpOp} {r r' : R2} {dr dr' : DR2} (ho : OpR X (compareOp op) r) (ho' : OpR X (compareOp op') r') (hc : C2 X.kf r dr) (hc' : C2 X.kf r' dr') (ha : PD X a ta) (hb : PD X b tb) (hz : PD X c tc)
    (h1 : lastMarks [op, op'] [b, c] = false := by rfl) : PDT X (.Compare a [op, op'] [b, c] pos) (dTest (dChain dr dr' ta tb tc)) := by
  refine ptM (pt_chain ho ho' ha hb hz h1) fun s H Q h => ?_
  have h2 := lfTest h
  exact lfChain hc hc' h2

/-! and, or, not -/
def dAndV (ta tb : DT) : DT := fun r m Q => ta r m fun x m1 => ∃ k, x = .bl k ∧ if k = true then tb r m1 Q else Q (.bl false) m1
def dOrV (ta tb : DT) : DT := fun r m Q => ta r m fun x m1 => ∃ k, x = .bl k ∧ if k = true then Q (.bl true) m1 else tb r m1 Q
def dNotV (ta : DT) : DT := fun r m Q => ta r m fun x m1 => ∃ k, x = .bl k ∧ Q (.bl (!k)) m1
variable {rest : List Expr}
theorem pd_one {op} (h : PD X a ta) : PD X (.BoolOp op [a] pos) ta := pe_one h
theorem pd_and (ha : PD X a ta) (hb : PD X (.BoolOp .And (b :: rest) pos) tb) : PD X (.BoolOp .And (a :: b :: rest) pos) (dAndV ta tb) := by
  refine peM (pe_and ha hb) fun s H Q ⟨G, ro, m, Qd, hs, hr, q, w⟩ => ?_
  refine ⟨G, ro, m, _, hs, hr, q, fun v H1 G1 m1 d s1 r1 h1 ⟨k, e, q1⟩ => ?_⟩
  subst e
  cases h1
  refine ⟨k, rfl, ?_⟩
  cases k with
  | true => exact ⟨G1, ro, m1, Qd, hs.same s1.g, r1, q1, w.after s1⟩
  | false => exact w _ _ _ _ _ s1 r1 (.bl false) q1
theorem pd_not (ha : PD X a ta) : PD X (.UnaryOp .Not a pos) (dNotV ta) := by
  refine peM (pe_not ha) fun s H Q ⟨G, ro, m, Qd, hs, hr, q, w⟩ => ?_
  refine ⟨G, ro, m, _, hs, hr, q, fun v H1 G1 m1 d s1 r1 h1 ⟨k, e, q1⟩ => ?_⟩
  subst e
  cases h1
  exact ⟨k, rfl, w _ _ _ _ _ s1 r1 (.bl (!k)) q1⟩
def dAnd (ta tb : DB) : DB := fun r m Q => ta r m fun k m1 => if k = true then tb r m1 Q else Q false m1
def dOr (ta tb : DB) : DB := fun r m Q => ta r m fun k m1 => if k = true then Q true m1 else tb r m1 Q
def dNot (ta : DB) : DB := fun r m Q => ta r m fun k m1 => Q (!k) m1
variable {ua ub : DB}
def PDW (X : Cx) (e : Expr) (t : DB) : Prop := PW X e (lfB X.kf t)
theorem pwM {e : Expr} {t t' : TT} (h : PW X e t) (i : ∀ s H Q, t' s H Q → t s H Q) : PW X e t' := ⟨fun wh pins s σ H Q I q => h.run wh pins s σ H Q I (i _ _ _ q)⟩
theorem pdt_w {e : Expr} {t : DB} (h : PDW X e t) : PDT X e t := PW.pt h
theorem pdw_or1 (h : PDT X a ua) : PDW X (.BoolOp .Or [a] pos) ua := pw_or1 h
theorem pdw_or (ha : PDT X a ua) (hb : PDW X (.BoolOp .Or (b :: rest) pos) ub) : PDW X (.BoolOp .Or (a :: b :: rest) pos) (dOr ua ub) := by
  refine pwM (pw_or ha hb) fun s H Q ⟨G, ro, m, Qd, hs, hr, q, w⟩ => ?_
  refine ⟨G, ro, m, _, hs, hr, q, fun k H1 G1 m1 s1 r1 q1 => ?_⟩
  cases k with
  | false => exact ⟨G1, ro, m1, Qd, hs.same s1.g, r1, q1, fun b H' G' m' s' r' q' => w b H' G' m' (s1.trans s') r' q'⟩
  | true => exact w _ _ _ _ s1 r1 q1
theorem pdt_not (ha : PDT X a ua) : PDT X (.UnaryOp .Not a pos) (dNot ua) := by
  refine ptM (pt_not ha) fun s H Q ⟨G, ro, m, Qd, hs, hr, q, w⟩ => ?_
  exact ⟨G, ro, m, _, hs, hr, q, fun k H1 G1 m1 s1 r1 q1 => w _ _ _ _ s1 r1 q1⟩
/-- a if t else b -/
def dIf (t : DB) (ta tb : DT) : DT := fun r m Q => t r m fun k m1 => if k = true then ta r m1 Q else tb r m1 Q
theorem pd_if (hc : PDT X c ua) (ha : PD X a ta) (hb : PD X b tb) : PD X (.IfExp c a b pos) (dIf ua ta tb) := by
  refine peM (pe_ifExp hc ha hb) fun s H Q ⟨G, ro, m, Qd, hs, hr, q, w⟩ => ?_
  refine ⟨G, ro, m, _, hs, hr, q, fun k H1 G1 m1 s1 r1 q1 => ?_⟩
  cases k with
  | true => exact ⟨G1, ro, m1, Qd, hs.same s1.g, r1, q1, w.after s1⟩
  | false => exact ⟨G1, ro, m1, Qd, hs.same s1.g, r1, q1, w.after s1⟩

/-! argument lists, displays -/
def dNil : DA := fun _ m Q => Q [] m
def dCons (ta : DT) (tr : DA) : DA := fun r m Q => ta r m fun x m1 => tr r m1 fun xs m2 => Q (x :: xs) m2
variable {tr : DA}
theorem pda_nil : PDA X [] dNil := paM pa_nil fun s H Q ⟨G, ro, m, Qd, hs, hr, q, w⟩ => w _ _ _ _ _ Stp.refl hr .nil q
theorem pda_cons (ha : PD X a ta) (hr : PDA X es tr) (hs : starEach (a :: es) X.env = (false, eval a X.env) :: starEach es X.env := by rfl) : PDA X (a :: es) (dCons ta tr) := by
  refine paM (pa_cons ha hr hs) fun s H Q ⟨G, ro, m, Qd, hs, hr, q, w⟩ => ?_
  refine ⟨G, ro, m, _, hs, hr, q, fun v H1 G1 m1 d s1 r1 h1 q1 => ?_⟩
  exact ⟨G1, ro, m1, _, hs.same s1.g, r1, q1, fun vs H2 G2 m2 ds s2 r2 h2 q2 => w _ _ _ _ _ (s1.trans s2) r2 (.cons (h1.same s2.g) h2) q2⟩
def dTup (t : DA) : DT := fun r m Q => t r m fun ds m1 => ds.length ≤ sizeLine ∧ Q (.tup ds) m1
def dLst (t : DA) : DT := fun r m Q => t r m fun ds m1 => ds.length ≤ sizeLine ∧ Q (.lst ds) m1
/-- a display whose list is to change -/
def dLstM (t : DA) : DT := fun r m Q => t r m fun ds m1 => ds.length ≤ sizeLine ∧ ∀ p, m1 p = none → Q (.ref p) (up m1 p (.lst ds))
theorem Rl.newTup {K : KF} {G H : Hp} {m : Mu} {Q : DK} {Qv : VK} {vs : List V} {ds : List D} (w : WV K G H m Q Qv) (r : Rl K G H m) (h : RpL K G ds vs) (z : ds.length ≤ sizeLine) (q : Q (.tup ds) m) : NewT H vs Qv := fun p o ho hp => by
  obtain ⟨r2, s2⟩ := r.new hp (.frz o (.tup vs))
  exact w _ _ _ _ _ s2 r2 (.tup ⟨o, ho, upd_same⟩ (h.same s2.g) z) q
theorem Rl.newLst {K : KF} {G H : Hp} {m : Mu} {Q : DK} {Qv : VK} {vs : List V} {ds : List D} (w : WV K G H m Q Qv) (r : Rl K G H m) (h : RpL K G ds vs) (z : ds.length ≤ sizeLine) (q : Q (.lst ds) m) : ∀ p, H p = none → Qv (.ref p) (upd H p (.lst vs)) := fun p hp => by
  obtain ⟨r2, s2⟩ := r.new hp (.lst vs)
  exact w _ _ _ _ _ s2 r2 (.lst upd_same (h.same s2.g) z) q
theorem Rl.newLstM {K : KF} {G H : Hp} {m : Mu} {Q : DK} {Qv : VK} {vs : List V} {ds : List D} (w : WV K G H m Q Qv) (r : Rl K G H m) (h : RpL K G ds vs) (z : ds.length ≤ sizeLine) (q : ∀ p, m p = none → Q (.ref p) (up m p (.lst ds))) : ∀ p, H p = none → Qv (.ref p) (upd H p (.lst vs)) := fun p hp => by
  obtain ⟨r2, s2⟩ := r.newM hp (o := .lst vs) (u := .lst ds) ⟨vs, rfl, h, z⟩
  exact w _ _ _ _ _ s2 r2 (.ref p) (q p (r.free hp).2)
theorem pd_tup {x1} (h : PDA X es tr) : PD X (.Tuple es x1 pos) (dTup tr) := by
  refine peM (pe_tupF h) fun s H Q ⟨G, ro, m, Qd, hs, hr, q, w⟩ => ?_
  exact ⟨G, ro, m, _, hs, hr, q, fun vs H1 G1 m1 ds s1 r1 h1 ⟨z, q1⟩ => ⟨by rw [← h1.len]; exact z, Rl.newTup (w.after s1) r1 h1 z q1⟩⟩
theorem pd_lst (h : PDA X es tr) : PD X (.List es pos) (dLst tr) := by
  refine peM (pe_lst h) fun s H Q ⟨G, ro, m, Qd, hs, hr, q, w⟩ => ?_
  exact ⟨G, ro, m, _, hs, hr, q, fun vs H1 G1 m1 ds s1 r1 h1 ⟨z, q1⟩ => ⟨by rw [← h1.len]; exact z, Rl.newLst (w.after s1) r1 h1 z q1⟩⟩
theorem pd_lstM (h : PDA X es tr) : PD X (.List es pos) (dLstM tr) := by
  refine peM (pe_lst h) fun s H Q ⟨G, ro, m, Qd, hs, hr, q, w⟩ => ?_
  exact ⟨G, ro, m, _, hs, hr, q, fun vs H1 G1 m1 ds s1 r1 h1 ⟨z, q1⟩ => ⟨by rw [← h1.len]; exact z, Rl.newLstM (w.after s1) r1 h1 z q1⟩⟩

/-! calls of what is built in -/
abbrev DRL := List D → Mu → DK → Prop
def CL (K : KF) (r : List V → Hp → VK → Prop) (dr : DRL) : Prop := ∀ (G H : Hp) (m : Mu) (vs : List V) (ds : List D) (Q : DK) (Qv : VK), Rl K G H m → RpL K G ds vs → dr ds m Q → WV K G H m Q Qv → r vs H Qv
def dCB (dr : DRL) (t : DA) : DT := fun r m Q => t r m fun ds m1 => dr ds m1 Q
theorem lfCB {r : List V → Hp → VK → Prop} {dr : DRL} (hc : CL X.kf r dr) {s : L2.St} {H : Hp} {Q : VK} (h : lf X.kf (dCB dr tr) s H Q) : tCB r (lfA X.kf tr) s H Q := by
  obtain ⟨G, ro, m, Qd, hs, hr, q, w⟩ := h
  exact ⟨G, ro, m, _, hs, hr, q, fun vs H1 G1 m1 ds s1 r1 h1 q1 => hc G1 H1 m1 vs ds Qd Q r1 h1 q1 (w.after s1)⟩
theorem pd_callB {x : Str} {id : String} {r : List V → Hp → VK → Prop} {dr : DRL} {p : Pos} (hcr : CallR X (.builtin id) r) (hc : CL X.kf r dr) (hg : Gl X x) (hm : X.mg x = none) (hv : bootBuiltins x = some (.builtin id)) (ha : PDA X (a :: es) tr) (hn : x ≠ "__name__" := by decide) (hdb : (x == ("__debug__" : Str)) = false := by decide)
    (he : starEach (a :: es) X.env = (false, eval a X.env) :: starEach es X.env := by rfl) (hpl : (backTo pos (starEach es X.env)).any (·.1) = false := by rfl) : PD X (.Call (.Name x p) (a :: es) [] pos) (dCB dr tr) :=
  peM (pe_callB hcr hg hm hv ha hn hdb he hpl) fun _ _ _ h => lfCB hc h
theorem pd_callTy {x : Str} {T : String} {r : List V → Hp → VK → Prop} {dr : DRL} {p : Pos} (hcr : CallR X (.type T) r) (hc : CL X.kf r dr) (hg : Gl X x) (hm : X.mg x = none) (hv : bootBuiltins x = some (.type T)) (ha : PDA X (a :: es) tr) (hn : x ≠ "__name__" := by decide) (hdb : (x == ("__debug__" : Str)) = false := by decide)
    (he : starEach (a :: es) X.env = (false, eval a X.env) :: starEach es X.env := by rfl) (hpl : (backTo pos (starEach es X.env)).any (·.1) = false := by rfl) : PD X (.Call (.Name x p) (a :: es) [] pos) (dCB dr tr) :=
  peM (pe_callTy hcr hg hm hv ha hn hdb he hpl) fun _ _ _ h => lfCB hc h
theorem callR_or {f : Value} {r r' : List V → Hp → VK → Prop} (h : CallR X f r) (h' : CallR X f r') : CallR X f (fun xs H Q => r xs H Q ∨ r' xs H Q) := by
  intro pins s σ H xs us Q I rv q
  rcases q with q | q
  · exact h pins s σ H xs us Q I rv q
  · exact h' pins s σ H xs us Q I rv q
end

/-! what a value is as a sequence -/
def seqOf (d : D) (m : Mu) : Option (List D) :=
  match d with
  | .lst ds => some ds
  | .tup ds => some ds
  | .pair ds => some ds
  | .scr ds => some ds
  | .ref a => match m a with
    | some (.lst ds) => some ds
    | _ => none
  | _ => none
def lstOf (d : D) (m : Mu) : Option (List D) :=
  match d with
  | .lst ds => some ds
  | .scr ds => some ds
  | .ref a => match m a with
    | some (.lst ds) => some ds
    | _ => none
  | _ => none
section
variable {K : KF} {G H : Hp} {m : Mu}
theorem lst_is {d : D} {v : V} {ds : List D} (r : Rl K G H m) (h : Rp K G d v) (e : lstOf d m = some ds) : ∃ a vs, v = .ref a ∧ SqL K H a vs ∧ RpL K G ds vs ∧ ds.length ≤ sizeLine := by
  cases h with
  | lst hq hr z => cases e; exact ⟨_, _, rfl, .inl (.inl (r.sub _ _ hq)), hr, z⟩
  | scr hq hr z => cases e; exact ⟨_, _, rfl, r.sub.seq hq, hr, z⟩
  | ref a =>
    simp only [lstOf] at e
    cases em : m a with
    | none => rw [em] at e; cases e
    | some o =>
      rw [em] at e
      cases o with
      | dN kvs => cases e
      | dE => cases e
      | dI k d => cases e
      | ins c dx fs => cases e
      | own y => cases e
      | xd fs => cases e
      | lst es =>
        cases e
        obtain ⟨_, u, hu, vs, e1, rv, z⟩ := r.mu a _ em
        subst e1
        exact ⟨a, vs, rfl, .inl (.inl hu), rv, z⟩
  | non => cases e
  | bl b => cases e
  | int i => cases e
  | str x => cases e
  | tup hq hr z => cases e
  | pair hq hr z => cases e
  | dct => cases e
theorem seq_is {d : D} {v : V} {ds : List D} (r : Rl K G H m) (h : Rp K G d v) (e : seqOf d m = some ds) : ∃ a vs, v = .ref a ∧ (SqL K H a vs ∨ SqT K H a vs) ∧ RpL K G ds vs ∧ ds.length ≤ sizeLine := by
  cases h with
  | tup hq hr z => cases e; exact ⟨_, _, rfl, .inr (hq.sq r.sub _), hr, z⟩
  | pair hq hr z => cases e; exact ⟨_, _, rfl, .inr (.inl (.inl (r.sub _ _ hq))), hr, z⟩
  | lst hq hr z => cases e; exact ⟨_, _, rfl, .inl (.inl (.inl (r.sub _ _ hq))), hr, z⟩
  | scr hq hr z => cases e; exact ⟨_, _, rfl, .inl (r.sub.seq hq), hr, z⟩
  | ref a =>
    obtain ⟨b, vs, e1, h1, h2, h3⟩ := lst_is r (Rp.ref a) (show lstOf (.ref a) m = some ds from e)
    exact ⟨b, vs, e1, .inl h1, h2, h3⟩
  | non => cases e
  | bl b => cases e
  | int i => cases e
  | str x => cases e
  | dct => cases e
end
end Mn

set_option Elab.async false
set_option linter.all false
set_option maxRecDepth 100000
set_option maxHeartbeats 4000000
set_option autoImplicit false
namespace Mn
open PySem PySem.Spec PyProof.Rows L2
variable [Tbs]

/-! data as the library's -/
mutual
def py : D → PyData
  | .non => .none
  | .bl b => .bool b
  | .int i => .int i
  | .str x => .str x
  | .tup ds => .tuple (pyL ds)
  | .pair ds => .tuple (pyL ds)
  | .lst ds => .list (pyL ds)
  | .scr ds => .list (pyL ds)
  | .ref _ => .none
  | .dct _ _ => .none
def pyL : List D → List PyData
  | [] => []
  | d :: ds => py d :: pyL ds
end
mutual
def pur : D → Bool
  | .non => true
  | .bl _ => true
  | .int _ => true
  | .str _ => true
  | .tup ds => purL ds
  | .pair ds => purL ds
  | .lst ds => purL ds
  | .scr ds => purL ds
  | .ref _ => false
  | .dct _ _ => false
def purL : List D → Bool
  | [] => true
  | d :: ds => pur d && purL ds
end
section
variable {K : KF} {G H : Hp} {m : Mu}
mutual
theorem Rp.dp (r : Same G H) : ∀ {d : D} {v : V}, Rp K G d v → pur d = true → Dp K H v (py d)
  | _, _, .non, _ => by rw [py]; exact .non
  | _, _, .bl b, _ => by rw [py]; exact .bl b
  | _, _, .int i, _ => by rw [py]; exact .int i
  | _, _, .str x, _ => by rw [py]; exact .str x
  | _, _, .tup h q z, p => by rw [py]; rw [pur] at p; exact .tup (h.sq r _) (RpL.dp r q p)
  | _, _, .pair h q z, p => by rw [py]; rw [pur] at p; exact .tup (.inl (.inl (r _ _ h))) (RpL.dp r q p)
  | _, _, .lst h q z, p => by rw [py]; rw [pur] at p; exact .lst (.inl (.inl (r _ _ h))) (RpL.dp r q p)
  | _, _, .scr h q z, p => by rw [py]; rw [pur] at p; exact .lst (r.seq h) (RpL.dp r q p)
  | _, _, .ref a, p => by rw [pur] at p; cases p
  | _, _, .dct _ _ _ _ _ _ _ _, p => by rw [pur] at p; cases p
theorem RpL.dp (r : Same G H) : ∀ {ds : List D} {vs : List V}, RpL K G ds vs → purL ds = true → DpAll K H vs (pyL ds)
  | _, _, .nil, _ => by rw [pyL]; exact .nil
  | _, _, .cons h q, p => by
    rw [purL, Bool.and_eq_true] at p
    rw [pyL]
    exact .cons (Rp.dp r h p.1) (RpL.dp r q p.2)
end
end
/-- a mutable list is looked through -/
def pyM (d : D) (m : Mu) : PyData := match d with
  | .ref a => match m a with
    | some (.lst ds) => .list (pyL ds)
    | _ => .none
  | d => py d
def purM (d : D) (m : Mu) : Bool := match d with
  | .ref a => match m a with
    | some (.lst ds) => purL ds
    | _ => false
  | d => pur d
theorem Rp.dpM {K : KF} {G H : Hp} {m : Mu} (r : Rl K G H m) {d : D} {v : V} (h : Rp K G d v) (p : purM d m = true) : Dp K H v (pyM d m) := by
  cases d with
  | ref a =>
    cases h
    simp only [purM, pyM] at p ⊢
    cases e : m a with
    | none => rw [e] at p; cases p
    | some o =>
      rw [e] at p
      cases o with
      | dN kvs => cases p
      | dE => cases p
      | dI k d => cases p
      | ins c dx fs => cases p
      | own y => cases p
      | xd fs => cases p
      | lst ds =>
        obtain ⟨_, u, hu, vs, e1, rv, z⟩ := r.mu a _ e
        subst e1
        exact .lst (.inl (.inl hu)) (rv.dp r.sub p)
  | non => exact h.dp r.sub p
  | bl b => exact h.dp r.sub p
  | int i => exact h.dp r.sub p
  | str x => exact h.dp r.sub p
  | tup ds => exact h.dp r.sub p
  | pair ds => exact h.dp r.sub p
  | lst ds => exact h.dp r.sub p
  | scr ds => exact h.dp r.sub p
  | dct ks ds => exact h.dp r.sub p

/-! operators -/
/-- a list that is one of the heap's own -/
def lst1 (d : D) (m : Mu) : Option (List D) :=
  match d with
  | .lst ds => some ds
  | .ref a => match m a with
    | some (.lst ds) => some ds
    | _ => none
  | _ => none
theorem lst1_is {K : KF} {G H : Hp} {m : Mu} {d : D} {v : V} {ds : List D} (r : Rl K G H m) (h : Rp K G d v) (e : lst1 d m = some ds) : ∃ a vs, v = .ref a ∧ H a = some (.lst vs) ∧ RpL K G ds vs ∧ ds.length ≤ sizeLine := by
  cases h with
  | lst hq hr z => cases e; exact ⟨_, _, rfl, r.sub _ _ hq, hr, z⟩
  | ref a =>
    simp only [lst1] at e
    cases em : m a with
    | none => rw [em] at e; cases e
    | some o =>
      rw [em] at e
      cases o with
      | dN kvs => cases e
      | dE => cases e
      | dI k d => cases e
      | ins c dx fs => cases e
      | own y => cases e
      | xd fs => cases e
      | lst es =>
        cases e
        obtain ⟨_, u, hu, vs, e1, rv, z⟩ := r.mu a _ em
        subst e1
        exact ⟨a, vs, rfl, hu, rv, z⟩
  | non => cases e
  | bl b => cases e
  | int i => cases e
  | str x => cases e
  | tup hq hr z => cases e
  | pair hq hr z => cases e
  | dct => cases e
  | scr hq hr z => cases e
def aAdd : DR2 := fun x y m Q => match x, y with
  | .int i, .int j => Q (.int (i + j)) m
  | .str a, .str b => a.length + b.length ≤ sizeLine ∧ Q (.str (a ++ b)) m
  | .tup a, .tup b => a.length + b.length ≤ sizeLine ∧ Q (.tup (a ++ b)) m
  | x, y => ∃ a b, lst1 x m = some a ∧ lst1 y m = some b ∧ a.length + b.length ≤ sizeLine ∧ Q (.lst (a ++ b)) m
def aSub : DR2 := fun x y m Q => match x, y with
  | .int i, .int j => Q (.int (i - j)) m
  | _, _ => False
def aMul : DR2 := fun x y m Q => match x, y with
  | .int i, .int j => CMul i j ∧ Q (.int (i * j)) m
  | _, _ => False
def aDiv : DR2 := fun x y m Q => match x, y with
  | .int i, .int j => CDiv i j ∧ Q (.int (i / j)) m
  | _, _ => False
def aMod : DR2 := fun x y m Q => match x, y with
  | .int i, .int j => 0 < j ∧ Q (.int (i % j)) m
  | _, _ => False
def aPow : DR2 := fun x y m Q => match x, y with
  | .int i, .int j => CPow i j ∧ Q (.int (i ^ j.toNat)) m
  | _, _ => False
def okD (d : D) (m : Mu) : Prop := purM d m = true ∧ SeqAt.shaped (pyM d m) = true
def aEq : DR2 := fun x y m Q => match x, y with
  | .str a, .str b => Q (.bl (decide (a = b))) m
  | x, y => okD x m ∧ okD y m ∧ Q (.bl (PyData.eqv (pyM x m) (pyM y m))) m
def aNe : DR2 := fun x y m Q => match x, y with
  | .str a, .str b => Q (.bl (!decide (a = b))) m
  | x, y => okD x m ∧ okD y m ∧ Q (.bl (!PyData.eqv (pyM x m) (pyM y m))) m
def aCmp (p : Int → Int → Bool) : DR2 := fun x y m Q => match x, y with
  | .int i, .int j => Q (.bl (p i j)) m
  | _, _ => False
abbrev aLt := aCmp fun i j => decide (i < j)
abbrev aLe := aCmp fun i j => decide (i ≤ j)
abbrev aGt := aCmp fun i j => decide (j < i)
section
variable {X : Cx} {K : KF}
/-- two ints under a condition -/
theorem c2I {C : Int → Int → Prop} {g : Int → Int → V} {gd : Int → Int → D} {dr : DR2} (hd : ∀ x y m Q, dr x y m Q → ∃ i j, x = .int i ∧ y = .int j ∧ C i j ∧ Q (gd i j) m) (hg : ∀ G i j, Rp K G (gd i j) (g i j)) : C2 K (rI C g) dr := by
  intro G H m x y dx dy Q Qv r rx ry q w
  obtain ⟨i, j, rfl, rfl, hc, q2⟩ := hd _ _ _ _ q
  cases rx
  cases ry
  exact ⟨i, j, rfl, rfl, hc, w.now r (hg G i j) q2⟩
theorem c2I0 {g : Int → Int → V} {gd : Int → Int → D} {dr : DR2} (hd : ∀ x y m Q, dr x y m Q → ∃ i j, x = .int i ∧ y = .int j ∧ Q (gd i j) m) (hg : ∀ G i j, Rp K G (gd i j) (g i j)) : C2 K (rI0 g) dr := by
  intro G H m x y dx dy Q Qv r rx ry q w
  obtain ⟨i, j, rfl, rfl, q2⟩ := hd _ _ _ _ q
  cases rx
  cases ry
  exact ⟨i, j, rfl, rfl, w.now r (hg G i j) q2⟩
theorem c2_sub : C2 K (rI0 fun i j => .int (i - j)) aSub := c2I0 (gd := fun i j => .int (i - j)) (fun x y m Q h => by cases x <;> cases y <;> first | exact ⟨_, _, rfl, rfl, h⟩ | exact False.elim h) fun _ _ _ => .int _
theorem c2_mul : C2 K (rI CMul fun i j => .int (i * j)) aMul := c2I (gd := fun i j => .int (i * j)) (fun x y m Q h => by cases x <;> cases y <;> first | exact ⟨_, _, rfl, rfl, h.1, h.2⟩ | exact False.elim h) fun _ _ _ => .int _
theorem c2_div : C2 K (rI CDiv fun i j => .int (i / j)) aDiv := c2I (gd := fun i j => .int (i / j)) (fun x y m Q h => by cases x <;> cases y <;> first | exact ⟨_, _, rfl, rfl, h.1, h.2⟩ | exact False.elim h) fun _ _ _ => .int _
theorem c2_mod : C2 K (rI (fun _ j => 0 < j) fun i j => .int (i % j)) aMod := c2I (gd := fun i j => .int (i % j)) (fun x y m Q h => by cases x <;> cases y <;> first | exact ⟨_, _, rfl, rfl, h.1, h.2⟩ | exact False.elim h) fun _ _ _ => .int _
theorem c2_pow : C2 K (rI CPow fun i j => .int (i ^ j.toNat)) aPow := c2I (gd := fun i j => .int (i ^ j.toNat)) (fun x y m Q h => by cases x <;> cases y <;> first | exact ⟨_, _, rfl, rfl, h.1, h.2⟩ | exact False.elim h) fun _ _ _ => .int _
theorem c2_cmp (p : Int → Int → Bool) : C2 K (rI0 fun i j => .bl (p i j)) (aCmp p) := c2I0 (gd := fun i j => .bl (p i j)) (fun x y m Q h => by cases x <;> cases y <;> first | exact ⟨_, _, rfl, rfl, h⟩ | exact False.elim h) fun _ _ _ => .bl _
def rAddA (K : KF) : R2 := fun x y H Q => rI0 (fun i j => .int (i + j)) x y H Q ∨ (∃ i j, x = .str i ∧ y = .str j ∧ i.length + j.length ≤ sizeLine ∧ Q (.str (i ++ j)) H) ∨ rCatF K x y H Q ∨ rCat x y H Q
theorem op_addA : OpR X (binaryOp .Add) (rAddA X.kf) := op_add.or (op_add_str.or (op_catF.or op_cat))
theorem rp_len {G : Hp} {ds : List D} {vs : List V} (h : RpL K G ds vs) : vs = [] ↔ ds = [] := by
  cases h with
  | nil => simp
  | cons a b => simp
theorem add_lsts {G H : Hp} {m : Mu} {x y : V} {dx dy : D} {Q : DK} {Qv : VK} (r : Rl K G H m) (rx : Rp K G dx x) (ry : Rp K G dy y) (q : ∃ a b, lst1 dx m = some a ∧ lst1 dy m = some b ∧ a.length + b.length ≤ sizeLine ∧ Q (.lst (a ++ b)) m) (w : WV K G H m Q Qv) : rCat x y H Qv := by
  obtain ⟨a, b, ea, eb, z, q⟩ := q
  obtain ⟨p1, v1, e1, h1, r1, z1⟩ := lst1_is r rx ea
  obtain ⟨p2, v2, e2, h2, r2, z2⟩ := lst1_is r ry eb
  exact ⟨p1, p2, v1, v2, e1, e2, h1, h2, by rw [← r1.len, ← r2.len]; exact z, Rl.newLst w r (r1.app r2) (by rw [List.length_append]; exact z) q⟩
theorem c2_add : C2 K (rAddA K) aAdd := by
  intro G H m x y dx dy Q Qv r rx ry q w
  have gen : (∃ a b, lst1 dx m = some a ∧ lst1 dy m = some b ∧ a.length + b.length ≤ sizeLine ∧ Q (.lst (a ++ b)) m) → rAddA K x y H Qv := fun h => .inr (.inr (.inr (add_lsts r rx ry h w)))
  cases rx with
  | int i =>
    cases ry with
    | int j => exact .inl ⟨i, j, rfl, rfl, w.now r (.int _) q⟩
    | _ => exact gen q
  | str i =>
    cases ry with
    | str j => exact .inr (.inl ⟨i, j, rfl, rfl, q.1, w.now r (.str _) q.2⟩)
    | _ => exact gen q
  | tup h1 r1 z1 =>
    cases ry with
    | tup h2 r2 z2 =>
      refine .inr (.inr (.inl ⟨_, _, _, _, rfl, rfl, h1.sq r.sub _, h2.sq r.sub _, by rw [← r1.len, ← r2.len]; exact q.1, fun e => ?_, fun _ e => ?_, fun _ _ => Rl.newTup w r (r1.app r2) (by rw [List.length_append]; exact q.1) q.2⟩))
      · have e' := (rp_len r1).mp e
        have q2 := q.2
        rw [e', List.nil_append] at q2
        exact w.now r (.tup h2 r2 z2) q2
      · have e' := (rp_len r2).mp e
        have q2 := q.2
        rw [e', List.append_nil] at q2
        exact w.now r (.tup h1 r1 z1) q2
    | _ => exact gen q
  | _ => exact gen q
def rEqA (K : KF) : R2 := fun x y H Q => rEq x y H Q ∨ rEqD K x y H Q
def rNeA (K : KF) : R2 := fun x y H Q => rNe x y H Q ∨ rNeD K x y H Q
theorem op_eqA (hu : X.A.units + 64 < cLine) : OpR X (compareOp .Eq) (rEqA X.kf) := op_eq.or (op_eqD hu)
theorem op_neA (hu : X.A.units + 64 < cLine) : OpR X (compareOp .NotEq) (rNeA X.kf) := op_ne.or (op_neD hu)
theorem decV (a b : Str) : decide (V.str a = V.str b) = decide (a = b) := by
  by_cases h : a = b
  · subst h; simp
  · rw [decide_eq_false h, decide_eq_false fun e => h (V.str.inj e)]
theorem c2_eq : C2 K (rEqA K) aEq := by
  intro G H m x y dx dy Q Qv r rx ry q w
  have gen : (okD dx m ∧ okD dy m ∧ Q (.bl (PyData.eqv (pyM dx m) (pyM dy m))) m) → rEqA K x y H Qv := fun ⟨o1, o2, q⟩ => .inr ⟨_, _, rx.dpM r o1.1, ry.dpM r o2.1, o1.2, o2.2, w.now r (.bl _) q⟩
  cases dx with
  | str a =>
    cases dy with
    | str b =>
      cases rx; cases ry
      refine .inl ⟨rfl, ?_⟩
      rw [decV]
      exact w.now r (.bl _) q
    | _ => exact gen q
  | _ => exact gen q
theorem c2_ne : C2 K (rNeA K) aNe := by
  intro G H m x y dx dy Q Qv r rx ry q w
  have gen : (okD dx m ∧ okD dy m ∧ Q (.bl (!PyData.eqv (pyM dx m) (pyM dy m))) m) → rNeA K x y H Qv := fun ⟨o1, o2, q⟩ => .inr ⟨_, _, rx.dpM r o1.1, ry.dpM r o2.1, o1.2, o2.2, w.now r (.bl _) q⟩
  cases dx with
  | str a =>
    cases dy with
    | str b =>
      cases rx; cases ry
      refine .inl ⟨rfl, ?_⟩
      rw [decV]
      exact w.now r (.bl _) q
    | _ => exact gen q
  | _ => exact gen q
end

/-! isinstance -/
def tyN (d : D) (m : Mu) : Option String := match d with
  | .non => some "NoneType"
  | .bl _ => some "bool"
  | .int _ => some "int"
  | .str _ => some "str"
  | .tup _ => some "tuple"
  | .pair _ => none
  | .lst _ => some "list"
  | .scr _ => some "list"
  | .ref a => match m a with
    | some (.lst _) => some "list"
    | some .dE => some "dict"
    | some (.dI _ _) => some "dict"
    | some (.dN _) => some "dict"
    | some (.ins _ _ _) => some "object"
    | _ => none
  | .dct _ _ => some "dict"
def isiB (t T : String) : Bool := t == T || (t == "bool" && T == "int")
def tyNs : List String := ["NoneType", "bool", "int", "str", "tuple", "list", "dict"]
theorem kit_all : (tyNs.all fun t => ["bool", "int", "str", "tuple", "list", "dict"].all fun T => decide (kitB t T = some (isiB t T))) = true := by decide +kernel
theorem kit_is {t T : String} (ht : t ∈ tyNs) (hT : T ∈ ["bool", "int", "str", "tuple", "list", "dict"]) : kitB t T = some (isiB t T) := by
  have h := kit_all
  rw [List.all_eq_true] at h
  have h2 := h t ht
  rw [List.all_eq_true] at h2
  exact of_decide_eq_true (h2 T hT)
def isTs : List String := ["bool", "int", "str", "tuple", "list", "dict"]
/-- a thing whose object is known: a dict -/
theorem kit_ext {X : Cx} {pins : List (Addr × Obj)} {σ : L2.St} {H : Hp} {s : Shared} {a : Addr} {xs : List (NestedKey × Addr × V)} (I : Inv X pins σ H s) (e : H a = some (.ext (dictAt X.w a xs)) ∨ ∃ o, H a = some (.frz o (.ext (dictAt X.w a xs)))) : ∃ P : Heap → Prop, PySem.W.KitX X.K (.ref a) (.type "dict") P ∧ P s.heap ∧ Value.ref a ≠ .builtin "__main__.__loader__#opaque" := by
  obtain ⟨vs, r, o, es, ep, ho, hx, hd, he⟩ : dictAt X.w a xs s.heap := by
    rcases e with e | ⟨o, e⟩
    · exact (I.hok a _ e).1
    · exact (I.hok a _ e).2.1
  exact ⟨_, PySem.W.kitx_dict, ⟨o, ho, hx.1⟩, fun z => nomatch z⟩
inductive TyD (K : KF) (H : Hp) : V → Value → Prop
  | x {v : V} {c : Value} : TyX K H v c → TyD K H v c
  | d {a : Addr} {xs : List (NestedKey × Addr × V)} : (H a = some (.ext (dictAt K.wd a xs)) ∨ ∃ o, H a = some (.frz o (.ext (dictAt K.wd a xs)))) → TyD K H (.ref a) (.type "dict")
theorem ty_is {K : KF} {G H : Hp} {m : Mu} {d : D} {v : V} {t : String} (r : Rl K G H m) (h : Rp K G d v) (e : tyN d m = some t) : ∃ c, TyD K H v c ∧ ∀ T ∈ isTs, PySem.W.kitOne K c (.type T) = some (isiB t T) := by
  have go : ∀ t ∈ tyNs, ∀ T ∈ isTs, PySem.W.kitOne K (.type t) (.type T) = some (isiB t T) := fun t ht T hT => kit_ty (kit_is ht hT)
  cases h with
  | non => cases e; exact ⟨_, .x (.base .non), go _ (by decide)⟩
  | bl b => cases e; exact ⟨_, .x (.base (.bl b)), go _ (by decide)⟩
  | int i => cases e; exact ⟨_, .x (.base (.int i)), go _ (by decide)⟩
  | str x => cases e; exact ⟨_, .x (.base (.str x)), go _ (by decide)⟩
  | tup hq hr z => cases e; obtain ⟨o, _, hq⟩ := hq; exact ⟨_, .x (.fTuple (r.sub _ _ hq)), go _ (by decide)⟩
  | pair hq hr z => cases e
  | dct h1 => cases e; exact ⟨_, .d (.inr ⟨_, r.sub _ _ h1⟩), go _ (by decide)⟩
  | lst hq hr z => cases e; exact ⟨_, .x (.base (.lst (r.sub _ _ hq))), go _ (by decide)⟩
  | scr hq hr z =>
    cases e
    rcases r.sub.seq hq with (h | ⟨o, h⟩) | ⟨o, its, n, h1, h2, _⟩
    · exact ⟨_, .x (.base (.lst h)), go _ (by decide)⟩
    · exact ⟨_, .x (.base (.frz h)), go _ (by decide)⟩
    · exact ⟨_, .x (.kList h1 h2), go _ (by decide)⟩
  | ref a =>
    simp only [tyN] at e
    cases em : m a with
    | none => rw [em] at e; cases e
    | some o =>
      rw [em] at e
      obtain ⟨_, u, hu, ru⟩ := r.mu a _ em
      cases o with
      | lst es =>
        cases e
        obtain ⟨vs, e1, _⟩ := ru
        subst e1
        exact ⟨_, .x (.base (.lst hu)), go _ (by decide)⟩
      | dN kvs =>
        cases e
        obtain ⟨xs, e1, _⟩ := ru
        subst e1
        exact ⟨_, .d (.inl hu), go _ (by decide)⟩
      | dE =>
        cases e
        have e1 : u = .dT [] := ru
        subst e1
        exact ⟨_, .x (.base (.dT hu)), go _ (by decide)⟩
      | dI k d =>
        cases e
        obtain ⟨v, e1, _⟩ := ru
        subst e1
        exact ⟨_, .x (.base (.dK hu)), go _ (by decide)⟩
      | ins c dx fs =>
        cases e
        obtain ⟨C, vs, _, ic, e1, _⟩ := ru
        subst e1
        refine ⟨_, .x (.base (.ins hu ic.cl ic.ha ic.hn ic.htk ic.hm)), fun T hT => ?_⟩
        rw [ic.no T hT]
        have : ∀ T ∈ isTs, isiB "object" T = false := by decide
        rw [this T hT]
      | own y => cases e
      | xd fs => cases e
def rIsiD (K : KF) : List V → Hp → VK → Prop := fun xs H Q => ∃ (x c : V) (t u : Value) (b : Bool), xs = [x, c] ∧ ClsV c u ∧ TyD K H x t ∧ PySem.W.kitOne K t u = some b ∧ Q (.bl b) H
theorem call_isiD {X : Cx} : CallR X (.builtin "isinstance") (rIsiD X.kf) := by
  intro pins s σ H xs us Q I r h
  obtain ⟨x, c, t, u, b, rfl, k, ty, e, q⟩ := h
  cases ty with
  | x ty => exact call_isi pins s σ H _ us Q I r ⟨x, c, t, u, b, rfl, k, ty, e, q⟩
  | d hq =>
    obtain ⟨u1, u2, rfl, r1, r2⟩ := vals2 r
    have e2 := k.eq r2
    subst e2
    cases (show u1 = Value.ref _ from r1)
    obtain ⟨P, Z, p, hx⟩ := kit_ext I hq
    exact PySem.W.kia_one Z I.kIn p e hx fun tk => ⟨.bl b, H, I.tok tk, rfl, q⟩
def dIsi (T : String) (ta : DT) : DT := fun r m Q => ta r m fun d m1 => ∃ t, tyN d m1 = some t ∧ Q (.bl (isiB t T)) m1
section
variable {X : Cx} {a b : Expr} {ta tb : DT} {pos p p2 : Pos}
theorem pd_isi {x : Str} {T : String} (ha : PD X a ta) (hg : Gl X "isinstance") (hm : X.mg "isinstance" = none) (hg2 : Gl X x) (hm2 : X.mg x = none) (hv2 : bootBuiltins x = some (.type T)) (hT : T ∈ ["bool", "int", "str", "tuple", "list", "dict"])
    (hs : starEach [a, .Name x p2] X.env = (false, eval a X.env) :: starEach [.Name x p2] X.env := by rfl) (hn : x ≠ "__name__" := by decide) (hdb : (x == ("__debug__" : Str)) = false := by decide) :
    PD X (.Call (.Name "isinstance" p) [a, .Name x p2] [] pos) (dIsi T ta) := by
  refine peM (pe_callB call_isiD hg hm (by decide +kernel) (pa_cons ha (pa_cons (pe_bltn (v := .ty T) hg2 hm2 hv2 rfl hn hdb) pa_nil) hs) (by decide) (by decide) hs) fun s H Q ⟨G, ro, m, Qd, hs, hr, q, w⟩ => ?_
  refine ⟨G, ro, m, _, hs, hr, q, fun v H1 G1 m1 d s1 r1 h1 ⟨t, e, q1⟩ => ?_⟩
  obtain ⟨c, h2, h3⟩ := ty_is r1 h1 e
  exact ⟨v, .ty T, c, .type T, isiB t T, rfl, .ty T, h2, h3 T hT, w _ _ _ _ _ s1 r1 (.bl _) q1⟩

/-! items, slices -/
def at_ (ds : List D) (i : Int) : Option D := if 0 ≤ i then ds[i.toNat]? else if -(ds.length : Int) ≤ i then ds[(i + ds.length).toNat]? else none
theorem at_V {K : KF} {G : Hp} {ds : List D} {vs : List V} {i : Int} {d : D} (h : RpL K G ds vs) (e : at_ ds i = some d) : ∃ v, atI vs i = some v ∧ Rp K G d v := by
  have hl := h.len
  unfold at_ at e
  by_cases h0 : 0 ≤ i
  · rw [if_pos h0] at e
    obtain ⟨v, ev, rv⟩ := h.get e
    refine ⟨v, ?_, rv⟩
    have : atI vs ((i.toNat : Nat) : Int) = some v := atI_nat ev
    rwa [Int.toNat_of_nonneg h0] at this
  · rw [if_neg h0] at e
    by_cases h1 : -(ds.length : Int) ≤ i
    · rw [if_pos h1] at e
      obtain ⟨v, ev, rv⟩ := h.get e
      refine ⟨v, ?_, rv⟩
      unfold atI ixN
      rw [if_neg h0, if_pos (by omega), ← hl]
      exact ev
    · rw [if_neg h1] at e; cases e
end
end Mn

set_option Elab.async false
set_option linter.all false
set_option maxRecDepth 100000
set_option maxHeartbeats 4000000
set_option autoImplicit false
namespace Mn
open PySem PySem.Spec PyProof.Rows L2
variable [Tbs]
section
variable {X : Cx} {K : KF}
/-! len -/
def aLen : DRL := fun ds m Q => match ds with
  | [.str x] => x.length ≤ sizeLine ∧ Q (.int x.length) m
  | [d] => ∃ es, seqOf d m = some es ∧ Q (.int es.length) m
  | _ => False
theorem callR_len : CallR X (.builtin "len") (fun xs H Q => (∃ p ys, xs = [.ref p] ∧ (SqL X.kf H p ys ∨ SqT X.kf H p ys) ∧ Q (.int ys.length) H) ∨ ∃ z, xs = [.str z] ∧ z.length ≤ sizeLine ∧ Q (.int z.length) H) := callR_or call_len_seq call_len_str
theorem RpL.one {G : Hp} {d : D} {vs : List V} (h : RpL K G [d] vs) : ∃ v, vs = [v] ∧ Rp K G d v := by
  cases h with
  | cons a b => cases b; exact ⟨_, rfl, a⟩
theorem RpL.two {G : Hp} {d e : D} {vs : List V} (h : RpL K G [d, e] vs) : ∃ v u, vs = [v, u] ∧ Rp K G d v ∧ Rp K G e u := by
  cases h with
  | cons a b => obtain ⟨u, e, r⟩ := b.one; subst e; exact ⟨_, _, rfl, a, r⟩
theorem cl_len : CL K (fun xs H Q => (∃ p ys, xs = [.ref p] ∧ (SqL K H p ys ∨ SqT K H p ys) ∧ Q (.int ys.length) H) ∨ ∃ z, xs = [.str z] ∧ z.length ≤ sizeLine ∧ Q (.int z.length) H) aLen := by
  intro G H m vs ds Q Qv r h q w
  match ds, h, q with
  | [.str x], h, q =>
    obtain ⟨v, e, rv⟩ := h.one
    subst e
    cases rv
    exact .inr ⟨x, rfl, q.1, w.now r (.int _) q.2⟩
  | [.non], h, ⟨es, e, q⟩ => cases e
  | [.bl b], h, ⟨es, e, q⟩ => cases e
  | [.int i], h, ⟨es, e, q⟩ => cases e
  | [.dct ks es0], h, ⟨es, e, q⟩ => cases e
  | [.tup t], h, ⟨es, e, q⟩ =>
    obtain ⟨v, e1, rv⟩ := h.one
    obtain ⟨p, us, e2, hq, hr, z⟩ := seq_is r rv e
    subst e1; subst e2
    exact .inl ⟨p, us, rfl, hq, by rw [← hr.len]; exact w.now r (.int _) q⟩
  | [.lst t], h, ⟨es, e, q⟩ =>
    obtain ⟨v, e1, rv⟩ := h.one
    obtain ⟨p, us, e2, hq, hr, z⟩ := seq_is r rv e
    subst e1; subst e2
    exact .inl ⟨p, us, rfl, hq, by rw [← hr.len]; exact w.now r (.int _) q⟩
  | [.scr t], h, ⟨es, e, q⟩ =>
    obtain ⟨v, e1, rv⟩ := h.one
    obtain ⟨p, us, e2, hq, hr, z⟩ := seq_is r rv e
    subst e1; subst e2
    exact .inl ⟨p, us, rfl, hq, by rw [← hr.len]; exact w.now r (.int _) q⟩
  | [.pair t], h, ⟨es, e, q⟩ =>
    obtain ⟨v, e1, rv⟩ := h.one
    obtain ⟨p, us, e2, hq, hr, z⟩ := seq_is r rv e
    subst e1; subst e2
    exact .inl ⟨p, us, rfl, hq, by rw [← hr.len]; exact w.now r (.int _) q⟩
  | [.ref t], h, ⟨es, e, q⟩ =>
    obtain ⟨v, e1, rv⟩ := h.one
    obtain ⟨p, us, e2, hq, hr, z⟩ := seq_is r rv e
    subst e1; subst e2
    exact .inl ⟨p, us, rfl, hq, by rw [← hr.len]; exact w.now r (.int _) q⟩
/-! all, any, sum over lists -/
def aAll : DRL := fun ds m Q => ∃ (d : D) (bs : List Bool), ds = [d] ∧ lstOf d m = some (bs.map D.bl) ∧ Q (.bl (bs.all id)) m
theorem cl_all : CL K (rAll K) aAll := by
  intro G H m vs ds Q Qv r h ⟨d, bs, e, el, q⟩ w
  subst e
  obtain ⟨v, e1, rv⟩ := h.one
  obtain ⟨p, us, e2, hq, hr, z⟩ := lst_is r rv el
  rw [hr.bls] at hq
  subst e1; subst e2
  exact ⟨p, bs, rfl, hq, w.now r (.bl _) q⟩
/-! max, min -/
theorem alike_ints (ns : List Int) : PySem.W.AlikeAll (ns.map PyData.int) := by
  refine ⟨fun x hx y hy => ?_, fun x hx => ?_⟩
  · obtain ⟨i, _, rfl⟩ := List.mem_map.mp hx
    obtain ⟨j, _, rfl⟩ := List.mem_map.mp hy
    rfl
  · obtain ⟨i, _, rfl⟩ := List.mem_map.mp hx
    exact fun z => nomatch z
theorem depth_ints : ∀ ns : List Int, PyData.depthAll (ns.map PyData.int) ≤ 1
  | [] => by simp [PyData.depthAll]
  | n :: ns => by
    have := depth_ints ns
    simp only [List.map_cons, PyData.depthAll, PyData.depth]
    omega
theorem dp_ints {K : PySem.W.Frag} {H : Hp} : ∀ ns : List Int, DpAll K H (ns.map V.int) (ns.map PyData.int)
  | [] => .nil
  | n :: ns => .cons (.int n) (dp_ints ns)
def rMaxT (K : KF) : List V → Hp → VK → Prop := fun vs H Q => ∃ (a : Addr) (n : Int) (ns : List Int), vs = [V.ref a] ∧ (SqL K H a ((n :: ns).map V.int) ∨ SqT K H a ((n :: ns).map V.int)) ∧ Q (.int (ns.foldl max n)) H
def rMinT (K : KF) : List V → Hp → VK → Prop := fun vs H Q => ∃ (a : Addr) (n : Int) (ns : List Int), vs = [V.ref a] ∧ (SqL K H a ((n :: ns).map V.int) ∨ SqT K H a ((n :: ns).map V.int)) ∧ Q (.int (ns.foldl min n)) H
theorem cr_maxT (hc : X.calm = true) (hu : X.A.units + 64 < cLine) : CallR X (.builtin "max") (rMaxT X.kf) := by
  intro pins s σ H vs us Q I r h
  obtain ⟨a, n, ns, rfl, hs, q⟩ := h
  rw [Vals.ref1 r]
  have hd : X.A.units + 1 + PyData.depthAll (PyData.int n :: ns.map PyData.int) < cLine := by
    have := depth_ints (n :: ns)
    rw [List.map_cons] at this
    omega
  have al : PySem.W.AlikeAll (PyData.int n :: ns.map PyData.int) := alike_ints (n :: ns)
  rcases hs with hs | hs
  · obtain ⟨its, rv, hl, _⟩ := I.list hs
    obtain ⟨as, hr⟩ := Dp.readsAll I _ _ its (dp_ints (n :: ns)) rv
    refine PySem.W.max_list_data (I.ok.hd hc) hl.isList hr al hd fun i v h' tk bs hv rd hk => ?_
    rw [PySem.W.maxD_ints] at rd
    cases rd
    exact ⟨.int _, H, I.kept hk, ⟨_, rfl⟩, q⟩
  · obtain ⟨its, rv, hl, _⟩ := I.tuple hs
    obtain ⟨as, hr⟩ := Dp.readsAll I _ _ its (dp_ints (n :: ns)) rv
    refine PySem.W.max_tuple_data (I.ok.hd hc) (show s.heap.IsTuple a its.toArray from hl) hr al hd fun i v h' tk bs hv rd hk => ?_
    rw [PySem.W.maxD_ints] at rd
    cases rd
    exact ⟨.int _, H, I.kept hk, ⟨_, rfl⟩, q⟩
theorem cr_minT (hc : X.calm = true) (hu : X.A.units + 64 < cLine) : CallR X (.builtin "min") (rMinT X.kf) := by
  intro pins s σ H vs us Q I r h
  obtain ⟨a, n, ns, rfl, hs, q⟩ := h
  rw [Vals.ref1 r]
  have hd : X.A.units + 1 + PyData.depthAll (PyData.int n :: ns.map PyData.int) < cLine := by
    have := depth_ints (n :: ns)
    rw [List.map_cons] at this
    omega
  have al : PySem.W.AlikeAll (PyData.int n :: ns.map PyData.int) := alike_ints (n :: ns)
  rcases hs with hs | hs
  · obtain ⟨its, rv, hl, _⟩ := I.list hs
    obtain ⟨as, hr⟩ := Dp.readsAll I _ _ its (dp_ints (n :: ns)) rv
    refine PySem.W.min_list_data (I.ok.hd hc) hl.isList hr al hd fun i v h' tk bs hv rd hk => ?_
    rw [PySem.W.minD_ints] at rd
    cases rd
    exact ⟨.int _, H, I.kept hk, ⟨_, rfl⟩, q⟩
  · obtain ⟨its, rv, hl, _⟩ := I.tuple hs
    obtain ⟨as, hr⟩ := Dp.readsAll I _ _ its (dp_ints (n :: ns)) rv
    refine PySem.W.min_tuple_data (I.ok.hd hc) (show s.heap.IsTuple a its.toArray from hl) hr al hd fun i v h' tk bs hv rd hk => ?_
    rw [PySem.W.minD_ints] at rd
    cases rd
    exact ⟨.int _, H, I.kept hk, ⟨_, rfl⟩, q⟩
def aMax : DRL := fun ds m Q => match ds with
  | [.int i, .int j] => Q (.int (max i j)) m
  | [d] => ∃ (n : Int) (ns : List Int), seqOf d m = some (D.int n :: ns.map D.int) ∧ Q (.int (ns.foldl max n)) m
  | _ => False
def aMin : DRL := fun ds m Q => match ds with
  | [.int i, .int j] => Q (.int (min i j)) m
  | [d] => ∃ (n : Int) (ns : List Int), seqOf d m = some (D.int n :: ns.map D.int) ∧ Q (.int (ns.foldl min n)) m
  | _ => False
theorem callR_max (hc : X.calm = true) (hu : X.A.units + 64 < cLine) : CallR X (.builtin "max") (fun xs H Q => (∃ i j, xs = [.int i, .int j] ∧ Q (.int (if j > i then j else i)) H) ∨ rMaxT X.kf xs H Q) := callR_or (call_max2 hc) (cr_maxT hc hu)
theorem callR_min (hc : X.calm = true) (hu : X.A.units + 64 < cLine) : CallR X (.builtin "min") (fun xs H Q => (∃ i j, xs = [.int i, .int j] ∧ Q (.int (if j < i then j else i)) H) ∨ rMinT X.kf xs H Q) := callR_or (call_min2 hc) (cr_minT hc hu)
theorem cl_max : CL K (fun xs H Q => (∃ i j, xs = [.int i, .int j] ∧ Q (.int (if j > i then j else i)) H) ∨ rMaxT K xs H Q) aMax := by
  intro G H m vs ds Q Qv r h q w
  match ds, h, q with
  | [.int i, .int j], h, q =>
    obtain ⟨v, u, e, r1, r2⟩ := h.two
    subst e; cases r1; cases r2
    refine .inl ⟨i, j, rfl, ?_⟩
    have e : (if j > i then j else i) = max i j := by split <;> omega
    rw [e]
    exact w.now r (.int _) q
  | [d], h, q =>
    have q' : ∃ (n : Int) (ns : List Int), seqOf d m = some (D.int n :: ns.map D.int) ∧ Q (.int (ns.foldl max n)) m := by
      cases d <;> exact q
    obtain ⟨n, ns, es, q⟩ := q'
    obtain ⟨v, e1, rv⟩ := h.one
    obtain ⟨p, us, e2, hq, hr, z⟩ := seq_is r rv es
    have e3 : us = (n :: ns).map V.int := RpL.ints (ns := n :: ns) hr
    subst e1; subst e2; subst e3
    exact .inr ⟨p, n, ns, rfl, hq, w.now r (.int _) q⟩
theorem cl_min : CL K (fun xs H Q => (∃ i j, xs = [.int i, .int j] ∧ Q (.int (if j < i then j else i)) H) ∨ rMinT K xs H Q) aMin := by
  intro G H m vs ds Q Qv r h q w
  match ds, h, q with
  | [.int i, .int j], h, q =>
    obtain ⟨v, u, e, r1, r2⟩ := h.two
    subst e; cases r1; cases r2
    refine .inl ⟨i, j, rfl, ?_⟩
    have e : (if j < i then j else i) = min i j := by split <;> omega
    rw [e]
    exact w.now r (.int _) q
  | [d], h, q =>
    have q' : ∃ (n : Int) (ns : List Int), seqOf d m = some (D.int n :: ns.map D.int) ∧ Q (.int (ns.foldl min n)) m := by
      cases d <;> exact q
    obtain ⟨n, ns, es, q⟩ := q'
    obtain ⟨v, e1, rv⟩ := h.one
    obtain ⟨p, us, e2, hq, hr, z⟩ := seq_is r rv es
    have e3 : us = (n :: ns).map V.int := RpL.ints (ns := n :: ns) hr
    subst e1; subst e2; subst e3
    exact .inr ⟨p, n, ns, rfl, hq, w.now r (.int _) q⟩
/-! tuple(x), list(x), int(x) -/
def aTuple : DRL := fun ds m Q => match ds with
  | [.tup es] => Q (.tup es) m
  | [d] => ∃ es, lstOf d m = some es ∧ Q (.tup es) m
  | _ => False
theorem cl_tuple : CL K (fun xs H Q => ∃ p ys, xs = [.ref p] ∧ ((SqL K H p ys ∧ NewT H ys Q) ∨ (SqT K H p ys ∧ Q (.ref p) H))) aTuple := by
  intro G H m vs ds Q Qv r h q w
  match ds, h, q with
  | [d], h, q =>
    obtain ⟨v, e1, rv⟩ := h.one
    subst e1
    have gen : (∃ es, lstOf d m = some es ∧ Q (.tup es) m) → ∃ p ys, [v] = [V.ref p] ∧ ((SqL K H p ys ∧ NewT H ys Qv) ∨ (SqT K H p ys ∧ Qv (.ref p) H)) := fun ⟨es, el, q⟩ => by
      obtain ⟨p, us, e2, hq, hr, z⟩ := lst_is r rv el
      subst e2
      exact ⟨p, us, rfl, .inl ⟨hq, Rl.newTup w r hr z q⟩⟩
    cases d with
    | tup es => cases rv with
      | tup h1 h2 h3 => exact ⟨_, _, rfl, .inr ⟨h1.sq r.sub _, w.now r (.tup h1 h2 h3) q⟩⟩
    | _ => exact gen q
  | a :: b :: c, h, q => exact False.elim (by cases a <;> exact q)
def aListM : DRL := fun ds m Q => ∃ d es, ds = [d] ∧ seqOf d m = some es ∧ ∀ p, m p = none → Q (.ref p) (up m p (.lst es))
theorem cl_listM : CL K (fun xs H Q => ∃ p ys, xs = [.ref p] ∧ (SqL K H p ys ∨ SqT K H p ys) ∧ ∀ l, H l = none → Q (.ref l) (upd H l (.lst ys))) aListM := by
  intro G H m vs ds Q Qv r h ⟨d, es, e, el, q⟩ w
  subst e
  obtain ⟨v, e1, rv⟩ := h.one
  obtain ⟨p, us, e2, hq, hr, z⟩ := seq_is r rv el
  subst e1; subst e2
  exact ⟨p, us, rfl, hq, Rl.newLstM w r hr z q⟩
def aInt : DRL := fun ds m Q => match ds with
  | [.int i] => Q (.int i) m
  | [.bl b] => Q (.int (if b then 1 else 0)) m
  | _ => False
/-! repr -/
def Shows (d : PyData) : Prop := d.showable = true ∧ d.hasDict = false ∧ d.depth ≤ 60 ∧ d.shown.length ≤ sizeLine
def rRepr (K : KF) : List V → Hp → VK → Prop := fun vs H Q => ∃ x d, vs = [x] ∧ Dp K H x d ∧ Shows d ∧ Q (.str d.shown) H
theorem cr_repr (hg : X.A.guards = some []) (hu : X.A.units + 64 < cLine) : CallR X (.builtin "repr") (rRepr X.kf) := by
  intro pins s σ H vs us Q I r h
  obtain ⟨x, d, rfl, hd, ⟨h1, h2, h3, h4⟩, q⟩ := h
  obtain ⟨u, rfl, ru⟩ := r.one
  obtain ⟨as, rd⟩ := Dp.reads I d x u hd ru
  have fin : ∀ h' tk t, (∀ b o, s.heap.get? b = some o → h'.get? b = some o) → EP X pins σ Q (.str d.shown t) { s with heap := h', toks := tk } := fun h' tk t hk => ⟨.str _, H, I.kept hk, ⟨_, rfl⟩, q⟩
  cases hd with
  | non =>
    cases ru
    simp only [PyData.shown] at fin
    exact PySem.P.repr_of_none (fin s.heap _ _ fun _ _ e => e)
  | bl b =>
    cases ru
    simp only [PyData.shown] at fin
    exact PySem.P.repr_of_bool (fin s.heap _ _ fun _ _ e => e)
  | int i =>
    obtain ⟨t, rfl⟩ := ru
    simp only [PyData.shown] at fin
    simp only [PyData.showable, decide_eq_true_eq] at h1
    exact PySem.P.repr_of_int h1 (fin s.heap _ _ fun _ _ e => e)
  | str y =>
    obtain ⟨t, rfl⟩ := ru
    simp only [PyData.shown] at fin h4
    exact PySem.P.repr_of_str (fin s.heap _ _ fun _ _ e => e) h4
  | lst h5 h6 =>
    cases ru
    exact repr_of_reads' rd h1 (PyData.noDict_hsm h2) hg (by omega) (fun _ _ e => e) (fun h' u tk hk => fin h' tk u hk) h4
  | tup h5 h6 =>
    cases ru
    exact repr_of_reads' rd h1 (PyData.noDict_hsm h2) hg (by omega) (fun _ _ e => e) (fun h' u tk hk => fin h' tk u hk) h4
def aRepr : DRL := fun ds m Q => ∃ d, ds = [d] ∧ purM d m = true ∧ Shows (pyM d m) ∧ Q (.str (pyM d m).shown) m
theorem cl_repr : CL K (rRepr K) aRepr := by
  intro G H m vs ds Q Qv r h ⟨d, e, p, z, q⟩ w
  subst e
  obtain ⟨v, e1, rv⟩ := h.one
  subst e1
  exact ⟨v, _, rfl, rv.dpM r p, z, w.now r (.str _) q⟩
/-! len(set(t)), t a tuple of ints -/
def tLenSetT (K : KF) (ta : TE) : TE := fun σ H Q => ta σ H fun x H1 => ∃ (p : Addr) (ns : List Int), x = .ref p ∧ SqT K H1 p (ns.map V.int) ∧ ns.length ≤ 1000 ∧ ∀ out : List Int, out.Nodup → (∀ k, k ∈ out ↔ k ∈ ns) → Q (.int out.length) H1
theorem pe_lenSetT {a : Expr} {ta : TE} {p p2 q pos : Pos} (hg : Gl X "len") (hm : X.mg "len" = none) (hg2 : Gl X "set") (hm2 : X.mg "set" = none) (ha : PE X a ta) (hc : X.calm = true := by rfl)
    (na : starEach [a] X.env = (false, eval a X.env) :: starEach [] X.env := by rfl) : PE X (.Call (.Name "len" p) [.Call (.Name "set" p2) [a] [] q] [] pos) (tLenSetT X.kf ta) := by
  refine ⟨fun pins s σ H Q I h => ?_⟩
  refine Call_ (ld_blt I hg hm boot_len ?_)
  refine PyProof.Rows.callWith_builtin1 (PyProof.Rows.args_cons ?_ rfl) rfl rfl
  refine Call_ (ld_blt I hg2 hm2 boot_set ?_)
  refine PyProof.Rows.callWith_type1 (PyProof.Rows.args_cons (thn (ha.run pins s σ H _ I h) fun v s1 ⟨x, H1, I1, r1, q1⟩ => PyProof.Rows.args_nil ?_) na) na rfl
  obtain ⟨l, ns, rfl, hq, hl, q1⟩ := q1
  cases r1
  obtain ⟨its, r, pt, hz⟩ := I1.tuple hq
  have hi : IntsAre its.toArray.toList ns := ints_of_vals r
  refine call_set_tupI ns (I1.ok.hd hc) (show s1.heap.IsTuple l its.toArray from pt) hi (by unfold scanBound; omega) fun h' tk c R1 hcn k => ?_
  obtain ⟨o, es, ep, t, ho, hex, hdt, g, nd, hm3, hb, hf, hn, hr, hl2⟩ := R1
  refine PyProof.Rows.args_nil ?_
  have I2 : Inv X pins σ H1 { s1 with heap := h', toks := tk } := I1.kept k
  refine call_len_set ho hex hdt hf (by omega) ⟨.int es.size, H1, I2.tok _, ⟨_, rfl⟩, ?_⟩
  have z := q1 (es.toList.map keyOf) nd fun j => by rw [← hm3 j, decide_eq_true_eq]
  rw [List.length_map, Array.length_toList] at z
  exact z
def dLenSet (ta : DT) : DT := fun r m Q => ta r m fun d m1 => ∃ ns : List Int, d = .tup (ns.map D.int) ∧ ns.length ≤ 1000 ∧ ∀ out : List Int, out.Nodup → (∀ k, k ∈ out ↔ k ∈ ns) → Q (.int out.length) m1
theorem pd_lenSet {a : Expr} {ta : DT} {p p2 q pos : Pos} (hg : Gl X "len") (hm : X.mg "len" = none) (hg2 : Gl X "set") (hm2 : X.mg "set" = none) (ha : PD X a ta) (hc : X.calm = true := by rfl)
    (na : starEach [a] X.env = (false, eval a X.env) :: starEach [] X.env := by rfl) : PD X (.Call (.Name "len" p) [.Call (.Name "set" p2) [a] [] q] [] pos) (dLenSet ta) := by
  refine peM (pe_lenSetT hg hm hg2 hm2 ha hc na) fun s H Q ⟨G, ro, m, Qd, hs, hr, q, w⟩ => ?_
  refine ⟨G, ro, m, _, hs, hr, q, fun v H1 G1 m1 d s1 r1 h1 ⟨ns, e, hl, q1⟩ => ?_⟩
  subst e
  cases h1 with
  | tup h2 h3 h4 =>
    rw [h3.ints] at h2
    exact ⟨_, ns, rfl, h2.sq r1.sub _, hl, fun out h5 h6 => w _ _ _ _ _ s1 r1 (.int _) (q1 out h5 h6)⟩
/-! list(range(n)) -/
def rgD (a b : Int) : List D := (List.range (b - a).toNat).map fun i => D.int (a + (i : Nat))
theorem rg_rp {G : Hp} (a b : Int) : RpL K G (rgD a b) (rgV a b) := by
  unfold rgD rgV
  generalize (List.range (b - a).toNat) = l
  induction l with
  | nil => exact .nil
  | cons n l ih => exact .cons (.int _) ih
theorem rgD_len (a b : Int) : (rgD a b).length = (b - a).toNat := by unfold rgD; rw [List.length_map, List.length_range]
def dListRg (ta : DT) : DT := fun r m Q => ta r m fun d m1 => ∃ n : Int, d = .int n ∧ 0 ≤ n ∧ n ≤ 16777216 ∧ Q (.lst (rgD 0 n)) m1
theorem pd_listRg {a : Expr} {ta : DT} {p p2 q pos : Pos} (hg : Gl X "list") (hm : X.mg "list" = none) (hg2 : Gl X "range") (hm2 : X.mg "range" = none) (ha : PD X a ta) (hc : X.calm = true := by rfl)
    (na : starEach [a] X.env = (false, eval a X.env) :: starEach [] X.env := by rfl) : PD X (.Call (.Name "list" p) [.Call (.Name "range" p2) [a] [] q] [] pos) (dListRg ta) := by
  refine ⟨fun pins s σ H Q I h => ?_⟩
  obtain ⟨G, ro, m, Qd, hs, hr, qq, w⟩ := h
  refine (pe_listRg hc hg hm (prg_1 hg2 hm2 ha na) rfl).run pins s σ H Q I ⟨G, ro, m, _, hs, hr, qq, fun v H1 G1 m1 d s1 r1 h1 ⟨n, e, h0, hl, q1⟩ => ?_⟩
  subst e
  cases h1
  exact ⟨n, rfl, RgOk.of_le (by omega) hl (by omega) h0, Rl.newLst (w.after s1) r1 (rg_rp 0 n) (by rw [rgD_len, sizeLine_eq]; omega) q1⟩
end
end Mn

set_option Elab.async false
set_option linter.all false
set_option maxRecDepth 100000
set_option maxHeartbeats 4000000
set_option autoImplicit false
namespace Mn
open PySem PySem.Spec PyProof.Rows L2
variable [Tbs]

/-! targets -/
abbrev DG := D → Ro → (Ro → Prop) → Prop
abbrev DGs := List D → Ro → (Ro → Prop) → Prop
def gV (i : Nat) : DG := fun d r P => P (r.set i (some d))
def gN : DGs := fun ds r P => ds = [] ∧ P r
def gC (g : DG) (gs : DGs) : DGs := fun ds r P => ∃ d ds', ds = d :: ds' ∧ g d r fun r' => gs ds' r' P
def tupOf (d : D) : Option (List D) := match d with
  | .tup ds => some ds
  | .pair ds => some ds
  | _ => none
theorem tupOf_tup (ds : List D) : tupOf (.tup ds) = some ds := rfl
theorem tupOf_pair (ds : List D) : tupOf (.pair ds) = some ds := rfl
def gT (n : Nat) (gs : DGs) : DG := fun d r P => ∃ ds, tupOf d = some ds ∧ ds.length = n ∧ gs ds r P
def GC (K : KF) (g : TG) (dg : DG) (vs : List Nat) : Prop := ∀ (G H : Hp) (m : Mu) (s : L2.St) (r : Ro) (x : V) (d : D) (P : Ro → Prop) (Pv : L2.St → Hp → Prop),
  Rl K G H m → RpS K G r s → Rp K G d x → dg d r P → (∀ s' r', RpS K G r' s' → wipe s' vs = wipe s vs → P r' → Pv s' H) → g x s H Pv
def GCs (K : KF) (g : TGs) (dg : DGs) (vs : List Nat) : Prop := ∀ (G H : Hp) (m : Mu) (s : L2.St) (r : Ro) (xs : List V) (ds : List D) (P : Ro → Prop) (Pv : L2.St → Hp → Prop),
  Rl K G H m → RpS K G r s → RpL K G ds xs → dg ds r P → (∀ s' r', RpS K G r' s' → wipe s' vs = wipe s vs → P r' → Pv s' H) → g xs s H Pv
theorem wipe_get (s : L2.St) (j : Nat) : ∀ vs : List Nat, (wipe s vs)[j]? = if j ∈ vs then (if j < s.length then some none else none) else s[j]?
  | [] => by simp [wipe]
  | v :: vs => by
    unfold wipe
    by_cases h : v = j
    · subst h
      rw [if_pos List.mem_cons_self]
      by_cases hl : v < s.length
      · rw [List.getElem?_set_self (by rw [wipe_length]; exact hl), if_pos hl]
      · rw [List.getElem?_eq_none (by rw [List.length_set, wipe_length]; omega), if_neg hl]
    · rw [List.getElem?_set_ne h, wipe_get s j vs]
      have e : j ∈ v :: vs ↔ j ∈ vs := by simp [Ne.symm h]
      simp only [e]
theorem wipe_set {s : L2.St} {i : Nat} {x : Option V} {vs : List Nat} (h : i ∈ vs) : wipe (s.set i x) vs = wipe s vs := by
  apply List.ext_getElem?
  intro j
  rw [wipe_get, wipe_get, List.length_set]
  by_cases hj : j ∈ vs
  · rw [if_pos hj, if_pos hj]
  · rw [if_neg hj, if_neg hj, List.getElem?_set_ne (fun e : i = j => hj (by rw [← e]; exact h))]
theorem wipe_wipe (s : L2.St) (vs : List Nat) : wipe (wipe s vs) vs = wipe s vs := by
  apply List.ext_getElem?
  intro j
  rw [wipe_get, wipe_get, wipe_length]
  by_cases hj : j ∈ vs
  · rw [if_pos hj, if_pos hj]
  · rw [if_neg hj, if_neg hj]
section
variable {X : Cx} {K : KF} {vs : List Nat}
theorem gc_name {i : Nat} (h : i ∈ vs) : GC K (gName i) (gV i) vs := fun G H m s r x d P Pv rl rs rx q k => k _ _ (rs.set rx i) (wipe_set h) q
theorem gcs_nil : GCs K gNil gN vs := by
  intro G H m s r xs ds P Pv rl rs rx ⟨e, q⟩ k
  subst e
  cases rx
  exact ⟨rfl, k _ _ rs rfl q⟩
theorem gcs_cons {g : TG} {gs : TGs} {dg : DG} {dgs : DGs} (h1 : GC K g dg vs) (h2 : GCs K gs dgs vs) : GCs K (gCons g gs) (gC dg dgs) vs := by
  intro G H m s r xs ds P Pv rl rs rx ⟨d, ds', e, q⟩ k
  subst e
  cases rx with
  | cons ra rb =>
    refine ⟨_, _, rfl, h1 G H m s r _ d _ _ rl rs ra q fun s' r' rs' hw q' => ?_⟩
    exact h2 G H m s' r' _ ds' P Pv rl rs' rb q' fun s2 r2 rs2 hw2 q2 => k s2 r2 rs2 (hw2.trans hw) q2
theorem gc_tup {n : Nat} {gs : TGs} {dgs : DGs} (h : GCs K gs dgs vs) : GC K (gTup K n gs) (gT n dgs) vs := by
  intro G H m s r x d P Pv rl rs rx ⟨ds, e, hl, q⟩ k
  cases rx with
  | tup h1 h2 h3 => cases e; exact ⟨_, _, rfl, h1.sq rl.sub _, by rw [← h2.len]; exact hl, h G H m s r _ ds P Pv rl rs h2 q k⟩
  | pair h1 h2 h3 => cases e; exact ⟨_, _, rfl, .inl (.inl (rl.sub _ _ h1)), by rw [← h2.len]; exact hl, h G H m s r _ ds P Pv rl rs h2 q k⟩
  | _ => cases e

/-! what is walked -/
structure Wk (K : KF) (G0 : Hp) (J : It) (items : List D) : Prop where
  go : ∀ (G H : Hp) (m : Mu) (i : Nat) (d : D), Same G0 G → Rl K G H m → items[i]? = some d → J.go i H ∧ ∀ x H', J.yld i H x H' → ∃ G', Rl K G' H' m ∧ Stp G H m G' H' m ∧ Rp K G' d x
  stop : ∀ (G H : Hp) (m : Mu), Same G0 G → Rl K G H m → J.stop items.length H
abbrev DI := Ro → Mu → (List D → Mu → Prop) → Prop
def lfI (K : KF) (src : DI) : TI := fun s H R => ∃ G r m Q, RpS K G r s ∧ Rl K G H m ∧ src r m Q ∧
  ∀ J H' G' m' items, Stp G H m G' H' m' → Rl K G' H' m' → Wk K G' J items → Q items m' → R J H'
def PDI (X : Cx) (tg iter : Expr) (src : DI) : Prop := PI X tg iter (lfI X.kf src)
theorem piM {tg iter : Expr} {w w' : TI} (h : PI X tg iter w) (i : ∀ s H R, w' s H R → w s H R) : PI X tg iter w' := ⟨fun pins s σ H R I q => h.run pins s σ H R I (i _ _ _ q)⟩
/-- a list or a tuple that does not change -/
def sSeq (t : DT) : DI := fun r m Q => t r m fun d m1 => ∃ ds, (d = .lst ds ∨ d = .tup ds) ∧ Q ds m1
theorem wk_list {G : Hp} {a : Addr} {ds : List D} {us : List V} (h : G a = some (.lst us)) (hr : RpL K G ds us) : Wk K G (Itl K a) ds := by
  refine ⟨fun G1 H m i d sm rl e => ?_, fun G1 H m sm rl => ?_⟩
  · obtain ⟨v, ev, rv⟩ := hr.get e
    have hq : SqL K H a us := .inl (.inl (rl.sub _ _ (sm _ _ h)))
    refine ⟨⟨us, v, hq, ev⟩, fun x H' ⟨eH, y⟩ => ?_⟩
    subst eH
    have ex := y us hq
    rw [ev] at ex
    cases ex
    exact ⟨G1, rl, Stp.refl, rv.same sm⟩
  · exact ⟨us, .inl (.inl (rl.sub _ _ (sm _ _ h))), by rw [hr.len]; exact Nat.le_refl _⟩
theorem wk_tup {G : Hp} {a : Addr} {ds : List D} {us : List V} (h : TpG G a us) (hr : RpL K G ds us) : Wk K G (Itt K a) ds := by
  refine ⟨fun G1 H m i d sm rl e => ?_, fun G1 H m sm rl => ?_⟩
  · obtain ⟨v, ev, rv⟩ := hr.get e
    have hq : SqT K H a us := (h.same sm).sq rl.sub _
    refine ⟨⟨us, v, hq, ev⟩, fun x H' ⟨eH, y⟩ => ?_⟩
    subst eH
    have ex := y us hq
    rw [ev] at ex
    cases ex
    exact ⟨G1, rl, Stp.refl, rv.same sm⟩
  · exact ⟨us, (h.same sm).sq rl.sub _, by rw [hr.len]; exact Nat.le_refl _⟩
theorem pe_split {e : Expr} {t : DT} (h : PD X e t) {tg : Expr} : PI X tg e (fun s H R => lf X.kf t s H fun x H1 => ∃ a, x = .ref a ∧ (((∃ us, SqL X.kf H1 a us) ∧ R (Itl X.kf a) H1) ∨ ((∃ us, SqT X.kf H1 a us) ∧ R (Itt X.kf a) H1))) := by
  refine ⟨fun pins s σ H R I q => ?_⟩
  refine thn (PE.run h pins s σ H _ I q) fun v s1 ⟨x, H1, I1, r1, q1⟩ => ?_
  obtain ⟨a, e1, q1⟩ := q1
  subst e1
  cases r1
  rcases q1 with ⟨⟨us, hq⟩, q2⟩ | ⟨⟨us, hq⟩, q2⟩
  · obtain ⟨its, rv, p, hz⟩ := I1.list hq
    refine wpAny_pyIter_list p.isList ?_
    refine ⟨s1.heap.objs.size, [s1.heap.objs.size], _, _, H1, rfl, I1.kept (t' := s1.toks) fun b o e => Heap.get?_push_of_some _ e, turn_list a _, ⟨_, Heap.get?_push_size _ rfl, rfl, rfl⟩, fun b hb => ?_, q2⟩
    obtain rfl : b = s1.heap.objs.size := by simpa using hb
    exact I1.fpOk (Nat.le_refl _) (I1.hok.fresh (Nat.le_refl _))
  · obtain ⟨its, rv, p, hz⟩ := I1.tuple hq
    refine wpAny_pyIter_tuple (show s1.heap.IsTuple a its.toArray from p) ?_
    refine ⟨s1.heap.objs.size, [s1.heap.objs.size], _, _, H1, rfl, I1.kept (t' := s1.toks) fun b o e => Heap.get?_push_of_some _ e, turn_tuple a _, ⟨_, Heap.get?_push_size _ rfl, rfl, rfl⟩, fun b hb => ?_, q2⟩
    obtain rfl : b = s1.heap.objs.size := by simpa using hb
    exact I1.fpOk (Nat.le_refl _) (I1.hok.fresh (Nat.le_refl _))
theorem pdi_seq {tg e : Expr} {t : DT} (h : PD X e t) : PDI X tg e (sSeq t) := by
  refine piM (pe_split h) fun s H R ⟨G, r, m, Q, hs, hr, q, w⟩ => ?_
  refine ⟨G, r, m, _, hs, hr, q, fun v H1 G1 m1 d s1 r1 h1 ⟨ds, e, q1⟩ => ?_⟩
  rcases e with e | e
  · subst e
    cases h1 with
    | lst h2 h3 h4 => exact ⟨_, rfl, .inl ⟨⟨_, .inl (.inl (r1.sub _ _ h2))⟩, w _ _ _ _ _ s1 r1 (wk_list h2 h3) q1⟩⟩
  · subst e
    cases h1 with
    | tup h2 h3 h4 => exact ⟨_, rfl, .inr ⟨⟨_, h2.sq r1.sub _⟩, w _ _ _ _ _ s1 r1 (wk_tup h2 h3) q1⟩⟩
/-- range(n), range(a, b) -/
def sRg1 (t : DT) : DI := fun r m Q => t r m fun d m1 => ∃ n : Int, d = .int n ∧ -(2 ^ 62) ≤ n ∧ n < 2 ^ 62 ∧ Q (rgD 0 n) m1
def sRg2 (t u : DT) : DI := fun r m Q => t r m fun d m1 => u r m1 fun e m2 => ∃ a b : Int, d = .int a ∧ e = .int b ∧ (-(2 ^ 62) ≤ a ∧ a < 2 ^ 62 ∧ -(2 ^ 62) ≤ b ∧ b < 2 ^ 62) ∧ Q (rgD a b) m2
theorem wk_rg {G : Hp} (a b : Int) : Wk K G (Itr a (b - a).toNat) (rgD a b) := by
  refine ⟨fun G1 H m i d sm rl e => ?_, fun G1 H m sm rl => ?_⟩
  · unfold rgD at e
    rw [List.getElem?_map] at e
    by_cases hi : i < (b - a).toNat
    · rw [List.getElem?_range hi] at e
      cases e
      refine ⟨hi, fun x H' ⟨eH, ex⟩ => ?_⟩
      subst eH; subst ex
      exact ⟨G1, rl, Stp.refl, .int _⟩
    · rw [List.getElem?_eq_none (by rw [List.length_range]; omega)] at e
      cases e
  · rw [rgD_len]; exact Nat.le_refl _
theorem pdi_rg1 {tg a : Expr} {t : DT} {p pos : Pos} (h : PD X a t) (hg : Gl X "range") (hm : X.mg "range" = none) (hs : starEach [a] X.env = [(false, eval a X.env)] := by rfl) (na : starEach [a] X.env = (false, eval a X.env) :: starEach [] X.env := by rfl) : PDI X tg (.Call (.Name "range" p) [a] [] pos) (sRg1 t) := by
  refine piM (pi_range1 hg hm (pa_cons h pa_nil na) hs) fun s H R ⟨G, r, m, Q, hs, hr, q, w⟩ => ?_
  refine ⟨G, r, m, _, hs, hr, q, fun v H1 G1 m1 d s1 r1 h1 ⟨n, e, l1, l2, q1⟩ => ?_⟩
  subst e
  cases h1
  have z := w (Itr 0 (n - 0).toNat) H1 G1 m1 _ s1 r1 (wk_rg 0 n) q1
  rw [Int.sub_zero] at z
  exact ⟨n, rfl, l1, l2, z⟩
end

/-! list comprehensions -/
def lcGo (g : DG) (tt : DB) (te : DT) (r : Ro) : List D → List D → Mu → (List D → Mu → Prop) → Prop
  | [], acc, m, Q => Q acc m
  | d :: ds, acc, m, Q => g d r fun r1 => tt r1 m fun b m1 => if b = true then te r1 m1 fun y m2 => lcGo g tt te r ds (acc ++ [y]) m2 Q else lcGo g tt te r ds acc m1 Q
def wipeD (r : Ro) : List Nat → Ro
  | [] => r
  | v :: vs => (wipeD r vs).set v none
theorem RpS.wipe {K : KF} {G : Hp} {r : Ro} {s : L2.St} (h : RpS K G r s) : ∀ vs : List Nat, RpS K G (wipeD r vs) (L2.wipe s vs)
  | [] => h
  | v :: vs => (RpS.wipe h vs).forget v none
def dYes : DB := fun _ m Q => Q true m
def dLc (src : DI) (vs : List Nat) (g : DG) (tt : DB) (te : DT) : DT := fun r m Q => src r m fun items m1 => items.length ≤ sizeLine ∧ lcGo g tt te (wipeD r vs) items [] m1 fun acc m2 => Q (.lst acc) m2
def dLcM (src : DI) (vs : List Nat) (g : DG) (tt : DB) (te : DT) : DT := fun r m Q => src r m fun items m1 => items.length ≤ sizeLine ∧ lcGo g tt te (wipeD r vs) items [] m1 fun acc m2 => ∀ p, m2 p = none → Q (.ref p) (up m2 p (.lst acc))
section
variable {X : Cx} {elt tg iter : Expr} {ifs : List Expr} {scope : Scope} {own : List (Str × Nat)} {pos : Pos} {src : DI} {g : TG} {dg : DG} {tt : DB} {te : DT}
/-- the loop behind what is walked -/
theorem lc_loop {vs : List Nat} (gc : GC X.kf g dg vs) {s : L2.St} {H : Hp} {Q : VK} {QL : List D → Mu → Prop} {G : Hp} {r : Ro} {m : Mu} (hs : RpS X.kf G r s) {J : It} {H1 G1 : Hp} {m1 : Mu} {items : List D} (s1 : Stp G H m G1 H1 m1) (r1 : Rl X.kf G1 H1 m1) (wk : Wk X.kf G1 J items) (hl : items.length ≤ sizeLine) (q1 : lcGo dg tt te (wipeD r vs) items [] m1 QL)
    (fin : ∀ D us acc H' G' m', H D = none → Stp G H m G' H' m' → Rl X.kf G' H' m' → H' D = some (.lst us) → G' D = none → m' D = none → RpL X.kf G' acc us → acc.length ≤ sizeLine → QL acc m' → Q (.ref D) H') :
    ∀ D, H1 D = none → ∃ W : Nat → Nat → Hp → Prop, (∃ m, W 0 m (upd H1 D (.lst []))) ∧ ∀ i m H, W i m H →
  (J.stop i H ∧ Q (.ref D) H) ∨ (J.go i H ∧ ∃ Nx : Hp → Prop, (∀ H', Nx H' → ∃ m', m' < m ∧ W (i + 1) m' H') ∧ ∀ x H', J.yld i H x H' → g x (wipe s vs) H' fun σ2 H2 => wipe σ2 vs = wipe s vs ∧ lfB X.kf tt σ2 H2 fun b H3 =>
    if b = true then lf X.kf te σ2 H3 fun y H4 => ∃ acc, H4 D = some (.lst acc) ∧ acc.length < sizeLine ∧ Nx (upd H4 D (.lst (acc ++ [y]))) else Nx H3) := by
  intro D hD
  obtain ⟨gD, mD⟩ := r1.free hD
  -- G, m as they stand at each turn; the list at D is neither
  refine ⟨fun i k H' => i + k = items.length ∧ ∃ G' m' us acc, Stp G1 H1 m1 G' H' m' ∧ Rl X.kf G' H' m' ∧ H' D = some (.lst us) ∧ G' D = none ∧ m' D = none ∧ RpL X.kf G' acc us ∧ acc.length ≤ i ∧ lcGo dg tt te (wipeD r vs) (items.drop i) acc m' QL,
    ⟨items.length, by omega, G1, m1, [], [], ⟨Same.refl _, fun b o e1 e2 e3 _ => by rw [upd_ne (ne_of_none e1 hD)]; exact ⟨e1, e2, e3⟩, fun b o e => ⟨o, by rw [upd_ne (ne_of_none e hD)]; exact e⟩⟩, ?_, upd_same, gD, mD, .nil, Nat.le_refl _, by rw [List.drop_zero]; exact q1⟩, fun i k H' hW => ?_⟩
  · exact r1.hid gD mD (.inl hD) _
  · obtain ⟨ek, G', m', us, acc, st, rl, hD', gD', mD', ra, la, qq⟩ := hW
    by_cases hi : i < items.length
    · have ed : items[i]? = some items[i] := List.getElem?_eq_getElem hi
      rw [List.drop_eq_getElem_cons hi] at qq
      obtain ⟨go, yl⟩ := wk.go G' H' m' i _ st.g rl ed
      refine .inr ⟨go, fun H2 => (i + 1) + (k - 1) = items.length ∧ ∃ G' m' us acc, Stp G1 H1 m1 G' H2 m' ∧ Rl X.kf G' H2 m' ∧ H2 D = some (.lst us) ∧ G' D = none ∧ m' D = none ∧ RpL X.kf G' acc us ∧ acc.length ≤ i + 1 ∧ lcGo dg tt te (wipeD r vs) (items.drop (i + 1)) acc m' QL,
        fun H2 h2 => ⟨k - 1, by omega, h2⟩, fun x H2 hy => ?_⟩
      obtain ⟨G2, rl2, st2, rx⟩ := yl x H2 hy
      obtain ⟨hD2, gD2, _⟩ := st2.fr D _ hD' gD' mD' (fun _ z => nomatch z)
      refine gc G2 H2 m' (wipe s vs) (wipeD r vs) x _ _ _ rl2 ((((hs.same s1.g).same st.g).same st2.g).wipe vs) rx qq fun s3 r3 rs3 hw q3 => ⟨by rw [hw]; exact wipe_wipe s vs, ?_⟩
      refine ⟨G2, r3, m', _, rs3, rl2, q3, fun b H3 G3 m3 st3 rl3 q4 => ?_⟩
      obtain ⟨hD3, gD3, mD3⟩ := st3.fr D _ hD2 gD2 mD' (fun _ z => nomatch z)
      cases b with
      | false =>
        rw [if_neg Bool.false_ne_true] at q4 ⊢
        exact ⟨by omega, G3, m3, us, acc, (st.trans st2).trans st3, rl3, hD3, gD3, mD3, (ra.same st2.g).same st3.g, by omega, q4⟩
      | true =>
        rw [if_pos rfl] at q4 ⊢
        refine ⟨G3, r3, m3, _, rs3.same st3.g, rl3, q4, fun y H4 G4 m4 d4 st4 rl4 ry q5 => ?_⟩
        obtain ⟨hD4, gD4, mD4⟩ := st4.fr D _ hD3 gD3 mD3 (fun _ z => nomatch z)
        have lu : us.length ≤ i := by rw [← ra.len]; exact la
        refine ⟨us, hD4, by omega, by omega, G4, m4, us ++ [y], acc ++ [d4], ?_, ?_, upd_same, gD4, mD4, (((ra.same st2.g).same st3.g).same st4.g).app (.cons ry .nil), by rw [List.length_append, List.length_singleton]; omega, q5⟩
        · have stt := ((st.trans st2).trans st3).trans st4
          refine ⟨stt.g, fun b o e1 e2 e3 nt => ?_, fun b o e => ?_⟩
          · by_cases hb : b = D
            · rw [hb, hD] at e1; cases e1
            · obtain ⟨z1, z2, z3⟩ := stt.fr b o e1 e2 e3 nt
              rw [upd_ne hb]; exact ⟨z1, z2, z3⟩
          · obtain ⟨o', z⟩ := stt.up b o e
            by_cases hb : b = D
            · exact ⟨_, by rw [hb]; exact upd_same⟩
            · exact ⟨o', by rw [upd_ne hb]; exact z⟩
        · exact rl4.hid gD4 mD4 (.inr ⟨_, hD4⟩) _
    · have ei : i = items.length := by omega
      subst ei
      rw [List.drop_length] at qq
      exact .inl ⟨wk.stop G' H' m' st.g rl, fin D us acc H' G' m' (s1.free hD) (s1.trans st) rl hD' gD' mD' ra (by omega) qq⟩
/-- the loop, whatever is done with the list -/
theorem lc_data {vs : List Nat} (gc : GC X.kf g dg vs) {s : L2.St} {H : Hp} {Q : VK} {QL : List D → Mu → Prop} {G : Hp} {r : Ro} {m : Mu} (hs : RpS X.kf G r s) (hr : Rl X.kf G H m)
    (q : src r m fun items m1 => items.length ≤ sizeLine ∧ lcGo dg tt te (wipeD r vs) items [] m1 QL)
    (fin : ∀ D us acc H' G' m', H D = none → Stp G H m G' H' m' → Rl X.kf G' H' m' → H' D = some (.lst us) → G' D = none → m' D = none → RpL X.kf G' acc us → acc.length ≤ sizeLine → QL acc m' → Q (.ref D) H') :
    tLc (lfI X.kf src) g (lfB X.kf tt) (lf X.kf te) vs s H Q := by
  exact ⟨G, r, m, _, hs, hr, q, fun J H1 G1 m1 items s1 r1 wk ⟨hl, q1⟩ => lc_loop gc hs s1 r1 wk hl q1 fin⟩
end
end Mn

set_option Elab.async false
set_option linter.all false
set_option maxRecDepth 100000
set_option maxHeartbeats 4000000
set_option autoImplicit false
namespace Mn
open PySem PySem.Spec PyProof.Rows L2
variable [Tbs]
section
variable {X : Cx} {elt tg iter : Expr} {ifs : List Expr} {scope : Scope} {own : List (Str × Nat)} {pos : Pos} {src : DI} {g : TG} {dg : DG} {tt : DB} {te : DT}
def PDTs (X : Cx) (ifs : List Expr) (t : DB) : Prop := PTs X ifs (lfB X.kf t)
theorem pdts_nil : PDTs X [] dYes := ⟨fun pins s σ H Q I ⟨G, r, m, Qd, hs, hr, q, w⟩ => pts_nil.run pins s σ H Q I (w _ _ _ _ Stp.refl hr q)⟩
theorem lc_frz {vs : List Nat} (gc : GC X.kf g dg vs) {s : L2.St} {H : Hp} {Q : VK} (h : lf X.kf (dLc src vs dg tt te) s H Q) : tLc (lfI X.kf src) g (lfB X.kf tt) (lf X.kf te) vs s H Q := by
  obtain ⟨G, r, m, Qd, hs, hr, q, w⟩ := h
  refine lc_data gc hs hr q fun D us acc H' G' m' new st rl hD gD mD ra la qq => ?_
  have sm : Same G' (upd G' D (.lst us)) := fun b o e => by rw [upd_ne (ne_of_none e gD)]; exact e
  refine w _ _ (upd G' D (.lst us)) m' (.lst acc) ⟨st.g.trans sm, fun b o e1 e2 e3 nt => ?_, st.up⟩ (rl.hidG hD gD mD) (.lst upd_same (ra.same sm) la) qq
  · obtain ⟨z1, z2, z3⟩ := st.fr b o e1 e2 e3 nt
    rw [upd_ne (ne_of_none e1 new)]; exact ⟨z1, z2, z3⟩
theorem pd_lc (hc : X.calm = true) (hN : X.N.Nodup) (hi : PDI X tg iter src) (ok : BlkOk X.N X.env.scope scope own) (gc : GC X.kf g dg (own.map (·.2)))
    (hg : ∀ (s : Shared) (H : Hp) (C : Addr) (cl : List (Str × Addr)) (fp : List Addr), PG (X.blk s H scope (compEnvC scope cl C X.env) fp) tg g) (ht : ∀ (s : Shared) (H : Hp) (C : Addr) (cl : List (Str × Addr)) (fp : List Addr), PDTs (X.blk s H scope (compEnvC scope cl C X.env) fp) ifs tt)
    (he : ∀ (s : Shared) (H : Hp) (C : Addr) (cl : List (Str × Addr)) (fp : List Addr), PD (X.blk s H scope (compEnvC scope cl C X.env) fp) elt te) (hs : ∀ x, foldedSetIterable iter X.env x = pure x := by intro _; rfl) :
    PD X (.ListComp elt [⟨tg, iter, ifs, 0⟩] scope pos) (dLc src (own.map (·.2)) dg tt te) :=
  peM (pe_lc (tt := lfB X.kf tt) (te := lf X.kf te) hc hN hi ok hg ht he hs) fun _ _ _ h => lc_frz gc h
end

/-! statements -/
def xNext : DS := fun De r m => De.nx r m
def xSeq (t u : DS) : DS := fun De r m => t { De with nx := u De } r m
def xAsg (t : DT) (g : DG) : DS := fun De r m => t r m fun d m1 => g d r fun r1 => De.nx r1 m1
def xRet (t : DT) : DS := fun De r m => t r m De.rt
def xRetF (i : Nat) : DS := fun De r m => ∃ p ds, r[i]? = some (some (.ref p)) ∧ m p = some (.lst ds) ∧ De.rt (.lst ds) (er m p)
def xDrop (t : DT) : DS := fun De r m => t r m fun _ m1 => De.nx r m1
def xIf (c : DB) (t u : DS) : DS := fun De r m => c r m fun b m1 => if b = true then t De r m1 else u De r m1
def xNever : DS := fun _ _ _ => False
section
variable {X : Cx} {st : Stmt} {rest : List Stmt} {t u : DS} {e : Expr} {te : DT} {pos : Pos}
theorem pdss_nil : PDSs X [] xNext := pssM pss_nil fun E s H ⟨G, r, m, De, hs, hr, q, w⟩ => w.nx _ _ _ _ _ Stp.refl hs hr q
theorem lfSeq {E : Ends} {s : L2.St} {H : Hp} (h : lfS X.kf X.wx (xSeq t u) E s H) : tSeq (lfS X.kf X.wx t) (lfS X.kf X.wx u) E s H := by
  obtain ⟨G, r, m, De, hs, hr, q, w⟩ := h
  exact ⟨G, r, m, _, hs, hr, q, ⟨fun s' H' G' r' m' st' rs rl q' => ⟨G', r', m', De, rs, rl, q', w.after st'⟩, w.rt, w.bk, w.ct, w.ex⟩⟩
theorem pdss_cons (h1 : PDS X st t) (h2 : PDSs X rest u) : PDSs X (st :: rest) (xSeq t u) := pssM (pss_cons h1 h2) fun _ _ _ h => lfSeq h
theorem pdss_one (h1 : PDS X st t) : PDSs X [st] t := pss_one h1
theorem pds_never : PDS X st xNever := ⟨fun _ _ _ _ _ _ ⟨_, _, _, _, _, _, q, _⟩ => q.elim⟩
theorem pds_drop (he : PD X e te) (hs : swapsWith e none pos.line X.env = pure false := by rfl) : PDS X (.Expr e pos) (xDrop te) :=
  psM (ps_expr he hs) fun E s H ⟨G, r, m, De, hs, hr, q, w⟩ => ⟨G, r, m, _, hs, hr, q, fun v H1 G1 m1 d s1 r1 h1 q1 => w.nx _ _ _ _ _ s1 (hs.same s1.g) r1 q1⟩
theorem pds_ret (he : PD X e te) : PDS X (.Return (some e) pos) (xRet te) :=
  psM (ps_ret he) fun E s H ⟨G, r, m, De, hs, hr, q, w⟩ => ⟨G, r, m, _, hs, hr, q, w.rt⟩
/-- a mutable list of a name is handed back, and not changed any more -/
theorem pds_retF {i : Nat} {x : Str} {p : Pos} (h : PE X (.Name x p) (tVar i)) : PDS X (.Return (some (.Name x p)) pos) (xRetF i) := by
  refine psM (ps_ret h) fun E s H ⟨G, r, m, De, hs, hr, ⟨a, ds, e1, e2, q⟩, w⟩ => ?_
  obtain ⟨v, ev, rv⟩ := hs.get i _ e1
  cases rv
  obtain ⟨G', rl, st, rp⟩ := hr.freeze e2
  exact ⟨.ref a, ev, w.rt _ _ _ _ _ st rl rp q⟩
theorem pds_if {c : Expr} {a b : List Stmt} {tc : DB} (hc : PDT X c tc) (ha : PDSs X a t) (hb : PDSs X b u) : PDS X (.If c a b pos) (xIf tc t u) := by
  refine psM (ps_if hc ha hb) fun E s H ⟨G, r, m, De, hs, hr, q, w⟩ => ?_
  refine ⟨G, r, m, _, hs, hr, q, fun k H1 G1 m1 s1 r1 q1 => ?_⟩
  cases k with
  | true => exact ⟨G1, r, m1, De, hs.same s1.g, r1, q1, w.after s1⟩
  | false => exact ⟨G1, r, m1, De, hs.same s1.g, r1, q1, w.after s1⟩
theorem lfAsg {vs : List Nat} {g : TG} {dg : DG} (gc : GC X.kf g dg vs) {E : Ends} {s : L2.St} {H : Hp} (h : lfS X.kf X.wx (xAsg te dg) E s H) : tAsg (lf X.kf te) g E s H := by
  obtain ⟨G, r, m, De, hs, hr, q, w⟩ := h
  refine ⟨G, r, m, _, hs, hr, q, fun v H1 G1 m1 d s1 r1 h1 q1 => ?_⟩
  exact gc G1 H1 m1 s r v d _ _ r1 (hs.same s1.g) h1 q1 fun s' r' rs' _ q2 => w.nx _ _ _ _ _ s1 rs' r1 q2
theorem pds_set {i : Nat} {x : Str} {pos' : Pos} (hN : X.N.Nodup) (hi : X.N[i]? = some x) (hx : Loc X.env.scope x) (he : PD X e te) (hs : swapsWith e (some (.Name x pos')) pos.line X.env = pure false := by rfl) (hf : X.fn x = true ∨ X.env.scope.names.lookup x = some .local := by first | exact .inl rfl | exact .inr rfl | assumption) :
    PDS X (.Assign [.Name x pos'] e pos) (xAsg te (gV i)) := psM (ps_set hN hi hx he hs hf) fun _ _ _ h => lfAsg (vs := [i]) (gc_name (by simp)) h
theorem pds_asg {tg : Expr} {vs : List Nat} {g : TG} {dg : DG} (he : PD X e te) (hg : PG X tg g) (gc : GC X.kf g dg vs) (hs : swapsWithSole [tg] e pos.line X.env = pure false := by rfl) (hw : swappedStores [tg] e X.env = pure none := by rfl)
    (h1 : (assignEach [tg] X.env).map (·.2) = [assign tg X.env] := by rfl) : PDS X (.Assign [tg] e pos) (xAsg te dg) := psM (ps_asg he hg hs hw h1) fun _ _ _ h => lfAsg gc h
/-- a, b = x, y -/
def xPar (i j : Nat) (ta : DA) : DS := fun De r m => ta r m fun ds m1 => ∃ d e, ds = [d, e] ∧ De.nx ((r.set i (some d)).set j (some e)) m1
theorem pds_par {i j : Nat} {x y : Str} {a b : Expr} {ta : DA} {px py pt : Pos} {kt k2 pt2} (hc : X.calm = true) (hN : X.N.Nodup) (hi : X.N[i]? = some x) (hj : X.N[j]? = some y) (hij : i ≠ j)
    (hx : X.env.scope.names.lookup x = some .local) (hy : X.env.scope.names.lookup y = some .local) (ha : PDA X [a, b] ta)
    (hw : swappedStores [.Tuple [.Name x px, .Name y py] kt pt] (.Tuple [a, b] k2 pt2) X.env = pure (some [x, y]))
    (hs : swapsWithSole [.Tuple [.Name x px, .Name y py] kt pt] (.Tuple [a, b] k2 pt2) pos.line X.env = pure false := by rfl) :
    PDS X (.Assign [.Tuple [.Name x px, .Name y py] kt pt] (.Tuple [a, b] k2 pt2) pos) (xPar i j ta) := by
  refine psM (ps_par hc hN hi hj hij hx hy ha hw hs) fun E s H ⟨G, r, m, De, hs, hr, q, w⟩ => ?_
  refine ⟨G, r, m, _, hs, hr, q, fun vs H1 G1 m1 ds s1 r1 h1 ⟨d, e, ed, q1⟩ => ?_⟩
  subst ed
  obtain ⟨v, u, ev, rv, ru⟩ := h1.two
  exact ⟨v, u, ev, w.nx _ _ _ _ _ s1 (((hs.same s1.g).set rv i).set ru j) r1 q1⟩
/-- x op= e of ints -/
def xAug (i : Nat) (te : DT) (f : Int → Int → Int) : DS := fun De r m => ∃ k, r[i]? = some (some (.int k)) ∧ te r m fun d m1 => ∃ j, d = .int j ∧ De.nx (r.set i (some (.int (f k j)))) m1
end

/-! loops -/
def forGo (g : DG) (tb : DS) (De : DE) : List D → Ro → Mu → Prop
  | [], r, m => De.nx r m
  | d :: ds, r, m => g d r fun r1 => tb { De with nx := forGo g tb De ds, ct := forGo g tb De ds, bk := De.nx } r1 m
def xFor (src : DI) (g : DG) (tb : DS) : DS := fun De r m => src r m fun items m1 => forGo g tb De items r m1
def xWhile (c : DB) (tb : DS) : DS := fun De r m => ∃ W : Nat → Ro → Mu → Prop, (∃ n, W n r m) ∧ ∀ n r m, W n r m →
  c r m fun b m1 => if b = true then tb { De with nx := fun r' m' => ∃ n', n' < n ∧ W n' r' m', ct := fun r' m' => ∃ n', n' < n ∧ W n' r' m', bk := De.nx } r m1 else De.nx r m1
section
variable {X : Cx} {tg iter : Expr} {body : List Stmt} {src : DI} {g : TG} {dg : DG} {tb : DS} {pos : Pos} {vs : List Nat}
theorem pds_for (hp : PassesOwn (model X.prog X.w) X.A X.env X.xe) (hc : X.calm = true) (hi : PDI X tg iter src) (hg : PG X tg g) (gc : GC X.kf g dg vs) (hb : PDSs X body tb)
    (hs : ∀ x, foldedSetIterable iter X.env x = pure x := by intro _; rfl) : PDS X (.For tg iter body [] pos) (xFor src dg tb) := by
  refine psM (ps_for hp hc hi hg hb hs) fun E s H ⟨G, r, m, De, hs, hr, q, w⟩ => ?_
  refine ⟨G, r, m, _, hs, hr, q, fun J H1 G1 m1 items s1 r1 wk q1 => ?_⟩
  refine ⟨fun i k s' H' => i + k = items.length ∧ ∃ G' r' m', Stp G1 H1 m1 G' H' m' ∧ RpS X.kf G' r' s' ∧ Rl X.kf G' H' m' ∧ forGo dg tb De (items.drop i) r' m',
    ⟨items.length, by omega, G1, r, m1, Stp.refl, hs.same s1.g, r1, by rw [List.drop_zero]; exact q1⟩, fun i k s' H' hW => ?_⟩
  obtain ⟨ek, G', r', m', st, rs, rl, qq⟩ := hW
  by_cases hi : i < items.length
  · have ed : items[i]? = some items[i] := List.getElem?_eq_getElem hi
    rw [List.drop_eq_getElem_cons hi] at qq
    obtain ⟨go, yl⟩ := wk.go G' H' m' i _ st.g rl ed
    refine .inr ⟨go, fun s2 H2 => (i + 1) + (k - 1) = items.length ∧ ∃ G' r' m', Stp G1 H1 m1 G' H2 m' ∧ RpS X.kf G' r' s2 ∧ Rl X.kf G' H2 m' ∧ forGo dg tb De (items.drop (i + 1)) r' m',
      fun s2 H2 h2 => ⟨k - 1, by omega, h2⟩, fun x H2 hy => ?_⟩
    obtain ⟨G2, rl2, st2, rx⟩ := yl x H2 hy
    refine gc G2 H2 m' s' r' x _ _ _ rl2 (rs.same st2.g) rx qq fun s3 r3 rs3 _ q3 => ?_
    have base := s1.trans (st.trans st2)
    refine ⟨G2, r3, m', _, rs3, rl2, q3, ⟨fun s4 H4 G4 r4 m4 st4 rs4 rl4 q4 => ⟨by omega, G4, r4, m4, (st.trans st2).trans st4, rs4, rl4, q4⟩, w.rt.after base,
      fun s4 H4 G4 r4 m4 st4 rs4 rl4 q4 => w.nx _ _ _ _ _ (base.trans st4) rs4 rl4 q4, fun s4 H4 G4 r4 m4 st4 rs4 rl4 q4 => ⟨by omega, G4, r4, m4, (st.trans st2).trans st4, rs4, rl4, q4⟩, (w.after base).ex⟩⟩
  · have ei : i = items.length := by omega
    subst ei
    rw [List.drop_length] at qq
    exact .inl ⟨wk.stop G' H' m' st.g rl, w.nx _ _ _ _ _ (s1.trans st) rs rl qq⟩
theorem pds_while {c : Expr} {tc : DB} (hp : PassesOwn (model X.prog X.w) X.A X.env X.xe) (hc : PDT X c tc) (hb : PDSs X body tb) : PDS X (.While c body [] pos) (xWhile tc tb) := by
  refine psM (ps_while hp hc hb) fun E s H ⟨G, r, m, De, hs, hr, ⟨W, ⟨n0, w0⟩, turn⟩, w⟩ => ?_
  refine ⟨fun n s' H' => ∃ G' r' m', Stp G H m G' H' m' ∧ RpS X.kf G' r' s' ∧ Rl X.kf G' H' m' ∧ W n r' m', ⟨n0, G, r, m, Stp.refl, hs, hr, w0⟩, fun n s' H' ⟨G', r', m', st, rs, rl, hw⟩ => ?_⟩
  refine ⟨G', r', m', _, rs, rl, turn n r' m' hw, fun b H1 G1 m1 s1 r1 q1 => ?_⟩
  have base := st.trans s1
  cases b with
  | false => exact w.nx _ _ _ _ _ base (rs.same s1.g) r1 q1
  | true =>
    refine ⟨fun s2 H2 => ∃ n', n' < n ∧ ∃ G' r' m', Stp G H m G' H2 m' ∧ RpS X.kf G' r' s2 ∧ Rl X.kf G' H2 m' ∧ W n' r' m', fun s2 H2 h2 => h2, ?_⟩
    exact ⟨G1, r', m1, _, rs.same s1.g, r1, q1, ⟨fun s4 H4 G4 r4 m4 st4 rs4 rl4 ⟨n', hn, q4⟩ => ⟨n', hn, G4, r4, m4, base.trans st4, rs4, rl4, q4⟩, w.rt.after base,
      fun s4 H4 G4 r4 m4 st4 rs4 rl4 q4 => w.nx _ _ _ _ _ (base.trans st4) rs4 rl4 q4, fun s4 H4 G4 r4 m4 st4 rs4 rl4 ⟨n', hn, q4⟩ => ⟨n', hn, G4, r4, m4, base.trans st4, rs4, rl4, q4⟩, (w.after base).ex⟩⟩
end

/-! methods of mutable lists -/
def dAppend (to te : DT) : DT := fun r m Q => to r m fun o m1 => ∃ p ds0, o = .ref p ∧ m1 p = some (.lst ds0) ∧ te r m1 fun d m2 => ∃ ds, m2 p = some (.lst ds) ∧ ds.length < sizeLine ∧ Q .non (up m2 p (.lst (ds ++ [d])))
def dPopAt (to te : DT) : DT := fun r m Q => to r m fun o m1 => ∃ p ds0, o = .ref p ∧ m1 p = some (.lst ds0) ∧ te r m1 fun k m2 => ∃ ds d, ∃ j : Nat, k = .int (j : Int) ∧ m2 p = some (.lst ds) ∧ ds[j]? = some d ∧ Q d (up m2 p (.lst (ds.eraseIdx j)))
section
variable {X : Cx} {o e : Expr} {to te : DT} {apos cpos : Pos}
theorem tyV_ref {K : KF} {G H : Hp} {m : Mu} {p : Addr} {ds : List D} (r : Rl K G H m) (e : m p = some (.lst ds)) : tyV K "list" (.ref p) H := by
  obtain ⟨_, x, hx, us, ex, _⟩ := r.mu p _ e
  subst ex
  exact .inl ⟨rfl, us, .inl (.inl hx)⟩
theorem pd_append (ho : PD X o to) (he : PD X e te) (hs : starEach [e] X.env = (false, eval e X.env) :: starEach [] X.env := by rfl) (hbase : attributeBase o "append" X.env (eval o X.env) = eval o X.env := by rfl)
    (hfew : ((backTo cpos (starEach [e] X.env)).all (fun x => !x.1) && (backToKw cpos (keywordEach [] X.env)).all (fun x => x.1.isSome)
      && decide ([e].length + ([] : List Keyword).length + (if ([] : List Keyword).isEmpty then 0 else 1) < 30)) = true := by rfl)
    (hline : (apos.endLine == cpos.line) = true := by rfl) (hplain : (backTo cpos (starEach [] X.env)).any (·.1) = false := by rfl) :
    PD X (.Call (.Attribute o "append" apos) [e] [] cpos) (dAppend to te) := by
  refine peM (pe_bm PySem.F.plainAttrs_list PySem.F.slot_list_append PySem.F.type_list_append mt_append ho (pa_cons he pa_nil hs) hbase hfew hline hs hplain) fun s H Q ⟨G, ro, m, Qd, hs, hr, q, w⟩ => ?_
  refine ⟨G, ro, m, _, hs, hr, q, fun v H1 G1 m1 d s1 r1 h1 ⟨p, ds0, e1, e2, q1⟩ => ?_⟩
  subst e1
  cases h1
  refine ⟨tyV_ref r1 e2, G1, ro, m1, _, hs.same s1.g, r1, q1, fun v2 H2 G2 m2 d2 s2 r2 h2 ⟨ds, e3, z, q2⟩ => ?_⟩
  obtain ⟨_, x, hx, us, ex, ru, z2⟩ := r2.mu p _ e3
  subst ex
  obtain ⟨r4, s4⟩ := r2.put e3 (o := .lst (us ++ [v2])) (u := .lst (ds ++ [d2])) ⟨_, rfl, ru.app (.cons h2 .nil), by rw [List.length_append, List.length_singleton]; omega⟩
  exact ⟨p, us, v2, rfl, rfl, hx, by rw [← ru.len]; exact z, w _ _ _ _ _ ((s1.trans s2).trans s4) r4 .non q2⟩
theorem pd_popAt (ho : PD X o to) (he : PD X e te) (hs : starEach [e] X.env = (false, eval e X.env) :: starEach [] X.env := by rfl) (hbase : attributeBase o "pop" X.env (eval o X.env) = eval o X.env := by rfl)
    (hfew : ((backTo cpos (starEach [e] X.env)).all (fun x => !x.1) && (backToKw cpos (keywordEach [] X.env)).all (fun x => x.1.isSome)
      && decide ([e].length + ([] : List Keyword).length + (if ([] : List Keyword).isEmpty then 0 else 1) < 30)) = true := by rfl)
    (hline : (apos.endLine == cpos.line) = true := by rfl) (hplain : (backTo cpos (starEach [] X.env)).any (·.1) = false := by rfl) :
    PD X (.Call (.Attribute o "pop" apos) [e] [] cpos) (dPopAt to te) := by
  refine peM (pe_bm PySem.F.plainAttrs_list PySem.F.slot_list_pop PySem.F.type_list_pop mt_popAt ho (pa_cons he pa_nil hs) hbase hfew hline hs hplain) fun s H Q ⟨G, ro, m, Qd, hs, hr, q, w⟩ => ?_
  refine ⟨G, ro, m, _, hs, hr, q, fun v H1 G1 m1 d s1 r1 h1 ⟨p, ds0, e1, e2, q1⟩ => ?_⟩
  subst e1
  cases h1
  refine ⟨tyV_ref r1 e2, G1, ro, m1, _, hs.same s1.g, r1, q1, fun v2 H2 G2 m2 d2 s2 r2 h2 ⟨ds, d3, j, e4, e3, e5, q2⟩ => ?_⟩
  subst e4
  cases h2
  obtain ⟨_, x, hx, us, ex, ru, z2⟩ := r2.mu p _ e3
  subst ex
  obtain ⟨u, eu, ruu⟩ := ru.get e5
  have hj : j < us.length := (List.getElem?_eq_some_iff.mp eu).1
  have hz : us.length ≤ sizeLine := by rw [← ru.len]; exact z2
  rw [sizeLine_eq] at hz
  obtain ⟨r4, s4⟩ := r2.put e3 (o := .lst (us.eraseIdx j)) (u := .lst (ds.eraseIdx j)) ⟨_, rfl, ru.erase j, by have := List.length_eraseIdx_le ds j; omega⟩
  refine ⟨p, us, (j : Int), j, u, rfl, rfl, hx, by omega, by omega, ?_, eu, w _ _ _ _ _ ((s1.trans s2).trans s4) r4 (ruu.same s4.g) q2⟩
  unfold seqIndex?
  simp
  omega
end
end Mn

set_option Elab.async false
set_option linter.all false
set_option maxRecDepth 100000
set_option maxHeartbeats 4000000
set_option autoImplicit false
namespace Mn
open PySem PySem.Spec PyProof.Rows L2
variable [Tbs]

/-! a def's promise, where no text of a container is under way around the call -/
structure FnG (P : Program) (w : World) (K : PySem.W.Frag) (mg : Str → Option Value) (base : Heap) (CX : CXT) (k : Nat) (f : Addr) (fd : FuncData) (ps : List Str) (sp : Sp) : Prop where
  len : ∀ vs H Q E, sp vs H Q E → vs.length = ps.length
  run : ∀ (A : Around) (outer : List Env) (s : Shared) (H : Hp) (args : Args) (us : List Value) (vs : List V) (Q : VK) (E : XK), Room k A → A.guards = some [] → Env0 P w K mg base A outer s H →
    BindsTo s fd args (ps.zip us) → Vals vs us → sp vs H Q E → codeAny (model P w) A (.call (.ref f) args) (CR CX outer P w H s Q E) s
section
variable {P : Program} {w : World} {K : PySem.W.Frag} {mg : Str → Option Value} {base : Heap} {CX : CXT}
theorem FnG.mono {j k : Nat} {f : Addr} {fd : FuncData} {ps : List Str} {sp : Sp} (F : FnG P w K mg base CX j f fd ps sp) (h : j ≤ k) : FnG P w K mg base CX k f fd ps sp :=
  ⟨F.len, fun A outer s H args us vs Q E room gd => F.run A outer s H args us vs Q E (room.mono h) gd⟩
theorem gn_of {k : Nat} {f : Addr} {name qual : Str} {params : Arguments} {body : List Stmt} {scope : Scope} {dV kV doc pm cdv ct oc : Value} {an od : Option Addr} {osl : Array (Option Value)} {N ps : List Str} {sp : Sp}
    (lk : K.lookup f = some ⟨oc, od, .func (PySem.W.fnOf name qual params body scope dV kV doc pm an cdv ct), osl⟩) (hcd : PySem.W.codeIn K cdv qual = true) (S : FnScope N ps scope) (len : ∀ vs H Q E, sp vs H Q E → vs.length = ps.length)
    (hbody : ∀ (A : Around) (outer : List Env) (s : Shared) (H : Hp) (vs : List V) (Q : VK) (E : XK), Room k (A.deeper (envOfC qual scope s.heap.objs.size f cdv)) → A.guards = some [] → sp vs H Q E →
      ∃ t, PSs (cxOf CX P w K mg base N qual scope f cdv A outer s H E) body t ∧ t { nx := fun _ H' => Q .non H', rt := Q } (L2.start N vs) H) :
    FnG P w K mg base CX (k + 1) f (PySem.W.fnOf name qual params body scope dV kV doc pm an cdv ct) ps sp := by
  refine ⟨len, fun A outer s H args us vs Q E room gd e0 bd rv hsp => ?_⟩
  have inK : K.In s.heap := e0.mod.kin.keeps fun b o e => (e0.bs b o e).1
  have noLim : s.heap.NoLimit := e0.mod.nolimit.keeps fun b o e => (e0.bs b o e).1
  refine codeAny_call_function room.depth (inK _ _ lk) rfl S.co S.gen rfl (PySem.W.codeRec_of inK hcd) (bd _ _ _ _ (wpAny_newFunctionEnv_cells S.kind (fun y hy => ?_) fun env he s1 ic => ?_))
  · obtain ⟨n, v⟩ := y
    rcases S.par n (List.of_mem_zip hy).1 with q | q
    · exact .inl q
    · exact .inr ⟨q, PySem.W.cellsFrom_some _ _ _ (.inl q)⟩
  · subst he
    refine ⟨noLim.keeps ic.toInCall.keep, codeAny_func ?_⟩
    obtain ⟨t, ht, hq⟩ := hbody A outer s H vs Q E (room.deeper _) gd hsp
    refine wpAny_mono (ht.run [] s1 (L2.start N vs) H _ (inv_start S room.hd e0 (len _ _ _ _ hsp) rv ic) hq) (fun fl s' hs => ?_) fun e s' hs => hs
    cases fl with
    | ret u => obtain ⟨v, σ', H', J, r1, q⟩ := hs; exact ⟨v, H', J.os, J.bare, J.base, J.hok, r1, q⟩
    | next => obtain ⟨σ', H', J, q⟩ := hs; exact ⟨.non, H', J.os, J.bare, J.base, J.hok, rfl, q⟩
    | brk => obtain ⟨_, _, _, q⟩ := hs; exact q.elim
    | cont => obtain ⟨_, _, _, q⟩ := hs; exact q.elim
end

/-! promises over data -/
abbrev DSp := List D → Mu → DK → Prop
def lfSp (K : KF) (d : DSp) : Sp := fun vs H Q _ => ∃ G ds m Qd, RpL K G ds vs ∧ Rl K G H m ∧ d ds m Qd ∧ WV K G H m Qd Q
abbrev FnD (P : Program) (w : World) (K : PySem.W.Frag) (mg : Str → Option Value) (base : Heap) (k : Nat) (f : Addr) (fd : FuncData) (ps : List Str) (d : DSp) : Prop := FnG P w K mg base CX0 k f fd ps (lfSp ⟨K, w, Tbs.T⟩ d)
def startD (n : Nat) (ds : List D) : Ro := ds.map some ++ List.replicate (n - ds.length) none
/-- what a body is to show -/
def endD (m0 : Mu) (Q : DK) : DE := { nx := fun _ m' => ∃ m'', (∀ a o, m'' a = some o → m' a = some o) ∧ Q .non m'', rt := fun d m' => ∃ m'', (∀ a o, m'' a = some o → m' a = some o) ∧ Q d m'' }
def Body (n : Nat) (t : DS) (d : DSp) : Prop := ∀ ds m Q, d ds m Q → t (endD m Q) (startD n ds) m
theorem rps_start {K : KF} {G : Hp} {ds : List D} {vs : List V} {N : List Str} (h : RpL K G ds vs) : RpS K G (startD N.length ds) (L2.start N vs) := by
  refine ⟨?_, fun i d e => ?_⟩
  · unfold startD L2.start
    rw [List.length_append, List.length_append, List.length_map, List.length_map, List.length_replicate, List.length_replicate, h.len]
  · unfold startD at e
    unfold L2.start
    by_cases hi : i < ds.length
    · rw [List.getElem?_append_left (by rw [List.length_map]; exact hi), List.getElem?_map] at e
      rw [List.getElem?_append_left (by rw [List.length_map, ← h.len]; exact hi), List.getElem?_map]
      cases q : ds[i]? with
      | none => rw [q] at e; cases e
      | some x =>
        rw [q] at e
        cases e
        obtain ⟨v, ev, rv⟩ := h.get q
        exact ⟨v, by rw [ev]; rfl, rv⟩
    · rw [List.getElem?_append_right (by rw [List.length_map]; omega), List.getElem?_replicate] at e
      split at e <;> cases e
section
variable {P : Program} {w : World} {K : PySem.W.Frag} {mg : Str → Option Value} {base : Heap}
theorem lfS_start {K : KF} {xw : WX} {N : List Str} {t : DS} {d : DSp} (hb : Body N.length t d) {vs : List V} {H : Hp} {Q : VK} {E : XK} (h : lfSp K d vs H Q E) :
    lfS K xw t { nx := fun _ H' => Q .non H', rt := Q } (L2.start N vs) H := by
  obtain ⟨G, ds, m, Qd, rp, rl, q, w⟩ := h
  refine ⟨G, _, m, endD m Qd, rps_start rp, rl, hb ds m Qd q, ⟨fun s' H' G' r' m' st rs rl' ⟨m2, le, q2⟩ => ?_, fun v H' G' m' d' st rl' rv ⟨m2, le, q2⟩ => ?_, fun _ _ _ _ _ _ _ _ z => z.elim, fun _ _ _ _ _ _ _ _ z => z.elim, fun _ _ _ _ _ _ _ _ _ _ _ _ z => z.elim⟩⟩
  · exact w _ _ _ m2 _ (st.less le) (rl'.less le) .non q2
  · exact w _ _ _ m2 _ (st.less le) (rl'.less le) rv q2
end
section
variable {X : Cx} {k : Nat} {f : Addr} {fd : FuncData} {ps : List Str} {d : DSp} {x : Str} {p pos : Pos} {e : Expr} {es : List Expr} {tr : DA}
theorem run_D {pins : List (Addr × Obj)} {σ : L2.St} {H : Hp} {s : Shared} {Q : VK} {us : List Value} {vs : List V} (F : FnD X.prog X.w X.K X.mg X.base k f fd ps d) (room : Room k X.A) (gd : X.A.guards = some []) (bd : Binds X.K fd ps [])
    (I : Inv X pins σ H s) (rv : Vals vs us) (h : lfSp X.kf d vs H Q E0) : wpAny (model X.prog X.w) X.A (call (.ref f) us) (EP X pins σ Q) X.xe s := by
  have hl : us.length = ps.length := by rw [← rv.length]; exact F.len _ _ _ _ h
  have bz := bd s us I.kIn (by rw [List.append_nil]; exact hl)
  rw [List.append_nil] at bz
  refine wpAny_call (codeAny_mono (F.run X.A X.stack s H ⟨us, []⟩ us vs Q E0 room gd I.env0 bz rv h) fun res s' hq => ?_)
  cases res with
  | error e => exact False.elim hq
  | ok fl => cases fl with
    | ret u => exact I.after hq
    | next => exact False.elim hq
    | brk => exact False.elim hq
    | cont => exact False.elim hq
theorem pd_call (F : FnD X.prog X.w X.K X.mg X.base k f fd ps d) (room : Room k X.A) (gd : X.A.guards = some []) (hg : Gl X x) (hm : X.mg x = some (.ref f)) (hk : PySem.W.keepIn X.K (.ref f) = true) (bd : Binds X.K fd ps [])
    (ha : PDA X (e :: es) tr) (hdb : (x == ("__debug__" : Str)) = false := by decide) (he : starEach (e :: es) X.env = (false, eval e X.env) :: starEach es X.env := by rfl) (hpl : (backTo pos (starEach es X.env)).any (·.1) = false := by rfl) :
    PD X (.Call (.Name x p) (e :: es) [] pos) (dCB d tr) := by
  refine ⟨fun pins s σ H Q I ⟨G, ro, m, Qd, hs, hr, q, w⟩ => ?_⟩
  have h : lfA X.kf tr σ H fun vs H1 => lfSp X.kf d vs H1 Q E0 := ⟨G, ro, m, _, hs, hr, q, fun vs H1 G1 m1 ds s1 r1 h1 q1 => ⟨G1, ds, m1, Qd, h1, r1, q1, w.after s1⟩⟩
  refine wpAny_Call_Name_kw (ld_glob I hg hm ?_ hdb)
  exact PySem.W.callWith_K (h₀ := X.base) I.ok.mod.kin hk (thn (PA.run ha pos pins s σ H _ I h) fun us s1 ⟨vs, H1, I1, r, q⟩ => ⟨I1.kIn, run_D F room gd bd I1 r q⟩) he hpl
end
end Mn

set_option Elab.async false
set_option linter.all false
set_option maxRecDepth 100000
set_option maxHeartbeats 4000000
set_option autoImplicit false
namespace Mn
open PySem PySem.Spec PyProof.Rows L2
variable [Tbs]

/-- the law's own call, from the promise over data -/
theorem lawD {P : Program} {w : World} {K : PySem.W.Frag} {mg mb : Str → Option Value} {k : Nat} {fa a : Addr} {fd : FuncData} {x : Str} {d : DSp} {s₁ : Shared} {vs : List Value} {ns : List Int}
    (inK : K.In s₁.heap) (hns : s₁.heap.Ns mainGlobals mg) (hb : s₁.heap.Ns builtinsNs mb) (hbb : ∀ x : Str, x ≠ "__name__" → mb x = bootBuiltins x) (hlim : s₁.heap.NoLimit) (hg : s₁.gens = #[])
    (ha : s₁.heap.get? a = some { cls := .type "list", data := .seq vs.toArray }) (hi : IntsAre vs ns) (hl : ns.length ≤ sizeLine) (room : Room k callerA)
    (F : ∀ base : Heap, K.In base → base.Ns mainGlobals mg → FnD P w K mg base k fa fd [x] d) (hbind : ∀ (s : Shared) (u : Value), BindsTo s fd ⟨[u], []⟩ [(x, u)])
    (hd : ∀ Q : DK, (∀ m, Q (.bl true) m) → d [.scr (ns.map D.int)] (fun _ => none) Q) (hT : (Tbs.T : List (Addr × Str)) = []) :
    codeAny (model P w) callerA (.call (.ref fa) ⟨[.ref a], []⟩) (fun r s' => r = .ok (.ret (.bool true)) ∧ OldK s₁.heap s'.heap ∧ s'.os = s₁.os ∧ AllBare s'.gens) s₁ := by
  have vals := vals_ints hi
  have lenV := hi.length
  -- what is tracked: the script alone, if it is no object of the module
  have main : ∀ H : Hp, (∀ b u, H b = some u → b = a ∧ K.lookup a = none ∧ u = .frz { cls := .type "list", data := .seq vs.toArray } (.lst (ns.map V.int))) → SqL K H a (ns.map V.int) →
      codeAny (model P w) callerA (.call (.ref fa) ⟨[.ref a], []⟩) (fun r s' => r = .ok (.ret (.bool true)) ∧ OldK s₁.heap s'.heap ∧ s'.os = s₁.os ∧ AllBare s'.gens) s₁ := by
    intro H only hS
    have hok : HOk P w H s₁.heap := fun b u e => by
      obtain ⟨rfl, _, rfl⟩ := only b u e
      exact ⟨ha, by rw [List.length_map]; exact hl, vs, _, vals, ha⟩
    have hid : ∀ {b : Addr} {o : Obj} {es : Array DictEntry} {ep : Nat}, s₁.heap.get? b = some o → o.data = .dict es ep → H b = none := fun {b o es ep} e dd => by
      cases q : H b with
      | none => rfl
      | some u =>
        obtain ⟨rfl, _, _⟩ := only b u q
        rw [ha] at e; cases e
        exact nomatch (show Data.seq vs.toArray _ = Data.dict es ep from dd)
    have ns' : ∀ {b : Addr} {m : Str → Option Value}, s₁.heap.Ns b m → (hidT s₁.heap H).Ns b m := fun {b m} ⟨o, es, ep, e, dd, r⟩ => ⟨o, es, ep, hidT_get e (hid e dd), dd, r⟩
    have kb : K.In (hidT s₁.heap H) := fun b o e => hidT_get (inK b o e) (by
      cases q : H b with
      | none => rfl
      | some u => obtain ⟨rfl, nk, _⟩ := only b u q; rw [nk] at e; cases e)
    have md : Mod K mg (hidT s₁.heap H) := ⟨kb, ns' hns, ⟨mb, ns' hb, hbb⟩, let ⟨mc, h1, h2⟩ := hlim; ⟨mc, ns' h1, h2⟩⟩
    have e0 : Env0 P w K mg (hidT s₁.heap H) callerA [] s₁ H := ⟨rfl, md, fun b o e => of_hidT e, Nat.le_of_eq (hidT_size _ _), trivial, fun b z => absurd (show b ∈ ([] : List Addr) from z) (by simp), hok, .of_eq hg⟩
    have sp : lfSp ⟨K, w, Tbs.T⟩ d [.ref a] H (fun v _ => v = .bl true) (fun _ _ _ => False) := by
      refine ⟨H, [.scr (ns.map D.int)], fun _ => none, fun d' _ => d' = .bl true, .cons (.scr hS (RpL.ofInts ns) (by rw [List.length_map]; exact hl)) .nil, ⟨Same.refl _, (fun a o e => nomatch e), (fun t ht => by rw [show (⟨K, w, Tbs.T⟩ : KF).tabs = [] from hT] at ht; cases ht), (fun b ps e => by obtain ⟨_, _, e2⟩ := only b _ e; cases e2), (fun b ps e => by obtain ⟨_, _, e2⟩ := only b _ e; cases e2)⟩, hd _ fun _ => rfl, fun v H' G' m' d' _ _ rv e => ?_⟩
      subst e
      cases rv
      rfl
    refine codeAny_mono ((F _ kb (ns' hns)).run callerA [] s₁ H ⟨[.ref a], []⟩ [.ref a] [.ref a] _ _ room rfl e0 (hbind s₁ (.ref a)) (.cons rfl .nil) sp) fun r s' h => ?_
    cases r with
    | error e => exact False.elim h
    | ok fl => cases fl with
      | next => exact False.elim h
      | brk => exact False.elim h
      | cont => exact False.elim h
      | ret u =>
        obtain ⟨v, H', os, bare, un, hok', r', q⟩ := h
        obtain rfl : v = .bl true := q
        obtain rfl : u = Value.bool true := r'
        refine ⟨rfl, OldK.of_keep fun b o e => ?_, os, bare⟩
        cases q : H b with
        | none => exact un.keep b o e q (fun z => absurd (show b ∈ ([] : List Addr) from z) (by simp)) (by simp)
        | some u =>
          obtain ⟨rfl, _, rfl⟩ := only b u q
          obtain ⟨e1, _⟩ := hok b _ q
          obtain ⟨e2, _⟩ := hok' b _ (un.frzs b _ _ q)
          rw [e] at e1; cases e1
          exact e2
  cases hk : K.lookup a with
  | some o =>
    have e := inK a o hk
    rw [ha] at e
    cases e
    exact main (fun _ => none) (fun _ _ e => nomatch e) (.inr ⟨_, vs.toArray, _, hk, rfl, rfl, rfl, by rw [List.size_toArray, lenV]; exact hl, by simpa using vals⟩)
  | none =>
    refine main (fun b => if b = a then some (.frz { cls := .type "list", data := .seq vs.toArray } (.lst (ns.map V.int))) else none) (fun b u e => ?_) (.inl (.inr ⟨_, if_pos rfl⟩))
    by_cases hb : b = a
    · rw [if_pos hb] at e; cases e; exact ⟨hb, hk, rfl⟩
    · rw [if_neg hb] at e; cases e
end Mn

set_option Elab.async false
set_option linter.all false
set_option maxRecDepth 100000
set_option maxHeartbeats 4000000
set_option autoImplicit false
namespace Mn
open PySem PySem.Spec PyProof.Rows L2
variable [Tbs]

/-! zip over lists and tuples in any mix -/
def ItAt (k : Bool) (h : Heap) (it a : Addr) (i : Nat) : Prop := if k = true then h.IsListIter it a i else h.IsTupleIter it a i
def SqB (K : PySem.W.Frag) (k : Bool) (H : Hp) (a : Addr) (xs : List V) : Prop := if k = true then SqL K H a xs else SqT K H a xs
def IsB (k : Bool) (h : Heap) (a : Addr) (items : Array Value) : Prop := if k = true then h.IsList a items else h.IsTuple a items
theorem ItAt.at {k : Bool} {h h' : Heap} {it a : Addr} {i : Nat} (x : ItAt k h it a i) (q : ∀ o, h.get? it = some o → h'.get? it = some o) : ItAt k h' it a i := by
  cases k with
  | true => exact Heap.IsListIter.at (show h.IsListIter it a i from x) q
  | false => exact Heap.IsTupleIter.at (show h.IsTupleIter it a i from x) q
theorem ItAt.obj {k : Bool} {h : Heap} {it a : Addr} {i : Nat} (x : ItAt k h it a i) : ∃ o, h.get? it = some o ∧ ∀ v, o.data ≠ .cell v := by
  cases k with
  | true => obtain ⟨o, e, _, d⟩ := (show h.IsListIter it a i from x); exact ⟨o, e, fun v z => by rw [d] at z; cases z⟩
  | false => obtain ⟨o, e, _, d⟩ := (show h.IsTupleIter it a i from x); exact ⟨o, e, fun v z => by rw [d] at z; cases z⟩
section
variable {X : Cx} {pins : List (Addr × Obj)} {σ : L2.St} {H : Hp} {s : Shared}
theorem sqb_raw {k : Bool} {a : Addr} {xs : List V} (I : Inv X pins σ H s) (h : SqB X.K k H a xs) : ∃ its : List Value, Vals xs its ∧ IsB k s.heap a its.toArray ∧ xs.length ≤ sizeLine ∧ a < s.heap.objs.size := by
  cases k with
  | true =>
    obtain ⟨its, rv, p, hz⟩ := I.list h
    exact ⟨its, rv, p.isList, hz, p.lt⟩
  | false =>
    obtain ⟨its, rv, p, hz⟩ := I.tuple h
    exact ⟨its, rv, p, hz, p.lt⟩
theorem sqb_inj {k : Bool} {a : Addr} {xs ys : List V} (I : Inv X pins σ H s) (h : SqB X.K k H a xs) (h' : SqB X.K k H a ys) : xs = ys := by
  cases k with
  | true => exact I.list_inj h h'
  | false => exact I.tuple_inj h h'
end
theorem drawsB {prog : Program} {w : World} {A : Around} (hh : A.handled = none) (k : Bool) (it a : Addr) (hne : a ≠ it) (items : Array Value) :
    Draws prog w A it [it, a] items.size (fun i v => items[i]? = some v) (fun i h => ItAt k h it a i ∧ IsB k h a items) := by
  cases k with
  | true => exact Draws.list hh it a hne items
  | false => exact Draws.tuple hh it a hne items
def itObj (k : Bool) (a : Addr) : Obj := if k = true then { cls := .type "list_iterator", data := .fields #[.ref a, .int 0 0] } else { cls := .type "tuple_iterator", data := .fields #[.ref a, .int 0 0] }
theorem beginsB (k : Bool) (a : Addr) (items : Array Value) : Begins (.ref a) (itObj k a) fun h => IsB k h a items := by
  cases k with
  | true => exact begins_list a items
  | false => exact begins_tuple a items
theorem itObj_at {k : Bool} {h : Heap} {it a : Addr} (e : h.get? it = some (itObj k a)) : ItAt k h it a 0 := by
  cases k with
  | true => exact ⟨_, e, rfl, rfl⟩
  | false => exact ⟨_, e, rfl, rfl⟩
/-- the pairs -/
def Itz2 (K : PySem.W.Frag) (k1 k2 : Bool) (a b : Addr) : It :=
  ⟨fun i H => ∃ (xs ys : List V) (x y : V), SqB K k1 H a xs ∧ SqB K k2 H b ys ∧ xs[i]? = some x ∧ ys[i]? = some y,
    fun i H v H' => ∃ T x y, v = .ref T ∧ H T = none ∧ H' = upd H T (.tup [x, y]) ∧ (∀ xs, SqB K k1 H a xs → xs[i]? = some x) ∧ ∀ ys, SqB K k2 H b ys → ys[i]? = some y,
    fun i H => ∃ xs ys : List V, SqB K k1 H a xs ∧ SqB K k2 H b ys ∧ i = min xs.length ys.length⟩
theorem turn_z2 {P : Program} {w : World} {K : PySem.W.Frag} {elts : List Expr} {kk : Nat} {tpos : Pos} {k1 k2 : Bool} {a b z TI TO i1 i2 : Addr} (S : ZipSep2 z TI TO i1 i2 [i1, a] [i2, b]) (n1 : a ≠ i1) (n2 : b ≠ i2) :
    Turn P w K (.Tuple elts kk tpos) (Itz2 K k1 k2 a b) [z, TI, TO, i1, i2] z (fun i h => IsZip h z TI TO .none ∧ IsTupOf2 h TI (.ref i1) (.ref i2) ∧ (∃ x y, IsTupOf2 h TO x y) ∧ ItAt k1 h i1 a i ∧ ItAt k2 h i2 b i) where
  mem := by simp
  obj := fun i h ⟨hz, hTI, ⟨x, y, hTO⟩, h1, h2⟩ c hc => by
    have e' : c = z ∨ c = TI ∨ c = TO ∨ c = i1 ∨ c = i2 := by simpa using hc
    rcases e' with q | q | q | q | q <;> subst q
    · exact ⟨_, hz, fun v q => nomatch q⟩
    · exact ⟨_, hTI, fun v q => nomatch q⟩
    · exact ⟨_, hTO, fun v q => nomatch q⟩
    · exact h1.obj
    · exact h2.obj
  keep := fun i h h' ⟨hz, hTI, ⟨x, y, hTO⟩, h1, h2⟩ k => ⟨k z (by simp) _ hz, k TI (by simp) _ hTI, ⟨x, y, k TO (by simp) _ hTO⟩, h1.at fun o q => k i1 (by simp) o q, h2.at fun o q => k i2 (by simp) o q⟩
  item := by
    intro X hP hw hK hc i pins s σ H E I hf ⟨hz, hTI, ⟨x0, y0, hTO⟩, h1, h2⟩ ⟨xs, ys, x, y, hqx, hqy, hx, hy⟩
    subst hP hw hK
    obtain ⟨its, rv, p1, _, la⟩ := sqb_raw I hqx
    obtain ⟨its2, rv2, p2, _, lb⟩ := sqb_raw I hqy
    obtain ⟨u, hu, ru⟩ := rv.get hx
    obtain ⟨u2, hu2, ru2⟩ := rv2.get hy
    have hh : X.A.in1.handled = none := I.ok.hd hc
    have W := GoesN.zip2 (prog := X.prog) (w := X.w) (A := X.A) (elts := elts) (x1 := kk) (pos := tpos) S (drawsB hh k1 i1 a n1 its.toArray) (drawsB hh k2 i2 b n2 its2.toArray)
    have hl1 : i < its.toArray.size := by rw [List.size_toArray]; exact (List.getElem?_eq_some_iff.mp hu).1
    have hl2 : i < its2.toArray.size := by rw [List.size_toArray]; exact (List.getElem?_eq_some_iff.mp hu2).1
    refine wpAny_mono (W.goes i s (fun v s2 => ∃ xv H', Inv X pins σ H' s2 ∧ RelV xv v ∧ (Itz2 X.K k1 k2 a b).yld i H xv H' ∧ (IsZip s2.heap z TI TO .none ∧ IsTupOf2 s2.heap TI (.ref i1) (.ref i2) ∧ (∃ x y, IsTupOf2 s2.heap TO x y) ∧ ItAt k1 s2.heap i1 a (i + 1) ∧ ItAt k2 s2.heap i2 b (i + 1)) ∧ ∀ b ∈ [z, TI, TO, i1, i2], H' b = none) E (by omega) ⟨hz, hTI, ⟨x0, y0, hTO⟩, ⟨h1, p1⟩, h2, p2⟩ fun v h' tk hY st' hk htk => ?_) (fun r s1 h => h) fun _ _ h => h
    obtain ⟨T, xv, yv, rfl, hT, ex, ey, hTup⟩ := hY
    have ex' : xv = u := by
      have : its.toArray[i]? = some u := by simpa using hu
      rw [this] at ex; cases ex; rfl
    have ey' : yv = u2 := by
      have : its2.toArray[i]? = some u2 := by simpa using hu2
      rw [this] at ey; cases ey; rfl
    subst ex'; subst ey'
    have new : ObjOk X.prog X.w (upd H T (.tup [x, y])) h' T (.tup [x, y]) := ⟨by show 2 ≤ sizeLine; decide, [xv, yv], .cons ru (.cons ru2 .nil), hTup⟩
    have I1 : Inv X pins σ (upd H T (.tup [x, y])) { s with heap := h', toks := tk } := I.turnedNew (t' := tk) (ch := [z, TI, TO, i1, i2]) (fun c o hb q => hk c o (fun q' => hb (by
      have : c = z ∨ c = TO ∨ c = i1 ∨ c = i2 := by simpa using q'
      rcases this with q | q | q | q <;> simp [q])) q) hf hT new
    refine ⟨.ref T, _, I1, rfl, ⟨T, x, y, rfl, I.hok.fresh hT, rfl, fun l hl => by rw [sqb_inj I hl hqx]; exact hx, fun l hl => by rw [sqb_inj I hl hqy]; exact hy⟩, ⟨st'.1, st'.2.1, st'.2.2.1, st'.2.2.2.1.1, st'.2.2.2.2.1⟩, fun c hcm => ?_⟩
    have hlt : c < s.heap.objs.size := by
      have e' : c = z ∨ c = TI ∨ c = TO ∨ c = i1 ∨ c = i2 := by simpa using hcm
      rcases e' with q | q | q | q | q <;> subst q
      · exact Heap.lt_size hz
      · exact Heap.lt_size hTI
      · exact Heap.lt_size hTO
      · obtain ⟨_, e, _⟩ := h1.obj; exact Heap.lt_size e
      · obtain ⟨_, e, _⟩ := h2.obj; exact Heap.lt_size e
    rw [upd_ne (Nat.ne_of_lt (Nat.lt_of_lt_of_le hlt hT))]
    exact (hf c hcm).1
  done := by
    intro X hP hw hK hc i pins s σ H E I hf ⟨hz, hTI, ⟨x0, y0, hTO⟩, h1, h2⟩ ⟨xs, ys, hqx, hqy, hend⟩
    subst hP hw hK
    obtain ⟨its, rv, p1, _, la⟩ := sqb_raw I hqx
    obtain ⟨its2, rv2, p2, _, lb⟩ := sqb_raw I hqy
    have hh : X.A.in1.handled = none := I.ok.hd hc
    have W := GoesN.zip2 (prog := X.prog) (w := X.w) (A := X.A) (elts := elts) (x1 := kk) (pos := tpos) S (drawsB hh k1 i1 a n1 its.toArray) (drawsB hh k2 i2 b n2 its2.toArray)
    have e1 : i = min its.toArray.size its2.toArray.size := by rw [hend, List.size_toArray, List.size_toArray, rv.length, rv2.length]
    subst e1
    refine wpAny_mono (W.stops s (fun s1 => Inv X pins σ H s1) E ⟨hz, hTI, ⟨x0, y0, hTO⟩, ⟨h1, p1⟩, h2, p2⟩ fun h' tk hk htk => ?_) (fun r s1 h => h) fun _ _ h => h
    exact I.turnedL (t' := tk) (ch := [z, TI, TO, i1, i2]) (fun c o hb q => hk c o (fun q' => hb (by
      have : c = z ∨ c = TO ∨ c = i1 ∨ c = i2 := by simpa using q'
      rcases this with q | q | q | q <;> simp [q])) q) hf
  self := fun A i s Q E st h => wpAny_pyIter_zip st.1 h
theorem one_lt {a : Addr} {n : Nat} (h : a < n) : ∀ b ∈ [a], b < n := fun b hb => by
  have e : b = a := by simpa using hb
  rw [e]; exact h
/-- zip(e, e2) -/
def iZip2 (K : PySem.W.Frag) (ta : TA) : TI := fun σ H R => ta σ H fun vs H1 => ∃ k1 k2 a b xs ys, vs = [.ref a, .ref b] ∧ SqB K k1 H1 a xs ∧ SqB K k2 H1 b ys ∧ R (Itz2 K k1 k2 a b) H1
theorem pi_zip2 {X : Cx} {e e2 : Expr} {ta : TA} {p pos tpos : Pos} {elts : List Expr} {kk : Nat} (hg : Gl X "zip") (hm : X.mg "zip" = none) (ha : PA X [e, e2] ta)
    (hs : starEach [e, e2] X.env = (false, eval e X.env) :: starEach [e2] X.env := by rfl) (hpl : (backTo pos (starEach [e2] X.env)).any (·.1) = false := by rfl) :
    PI X (.Tuple elts kk tpos) (.Call (.Name "zip" p) [e, e2] [] pos) (iZip2 X.K ta) := by
  refine ⟨fun pins s σ H R I h => ?_⟩
  refine Call_ (ld_blt I hg hm PyProof.Rows.boot_zip (PyProof.Rows.callWith_type1 (thn (ha.run pos pins s σ H _ I h) fun us s1 ⟨vs, H1, I1, r1, q1⟩ => ?_) hs hpl))
  obtain ⟨k1, k2, a, b, xs, ys, ex, hqx, hqy, q⟩ := q1
  subst ex
  obtain ⟨u1, u2, rfl, ra, rb⟩ := vals2 r1
  cases ra; cases rb
  obtain ⟨its, rv, p1, _, la⟩ := sqb_raw I1 hqx
  obtain ⟨its2, rv2, p2, _, lb⟩ := sqb_raw I1 hqy
  refine zip_begins2 (beginsB k1 a its.toArray) (beginsB k2 b its2.toArray) p1 p2 fun h' hz hTI hTO h1 h2 hsz hk => wpAny_pyIter_zip hz ?_
  have I2 : Inv X pins σ H1 { s1 with heap := h' } := I1.kept (t' := s1.toks) hk
  have sep : ZipSep2 (s1.heap.objs.size + 4) (s1.heap.objs.size + 2) (s1.heap.objs.size + 3) s1.heap.objs.size (s1.heap.objs.size + 1) [s1.heap.objs.size, a] [s1.heap.objs.size + 1, b] :=
    zip_sep2 (fp1 := [a]) (fp2 := [b]) (one_lt la) (one_lt lb)
  refine ⟨s1.heap.objs.size + 4, [s1.heap.objs.size + 4, s1.heap.objs.size + 2, s1.heap.objs.size + 3, s1.heap.objs.size, s1.heap.objs.size + 1], _, _, H1, rfl, I2, turn_z2 sep (Nat.ne_of_lt la) (Nat.ne_of_lt (Nat.lt_succ_of_lt lb)), ⟨hz, hTI, ⟨_, _, hTO⟩, itObj_at h1, itObj_at h2⟩, fun c hc => ?_, q⟩
  have hle : s1.heap.objs.size ≤ c := by
    have e' : c = s1.heap.objs.size + 4 ∨ c = s1.heap.objs.size + 2 ∨ c = s1.heap.objs.size + 3 ∨ c = s1.heap.objs.size ∨ c = s1.heap.objs.size + 1 := by simpa using hc
    rcases e' with z | z | z | z | z <;> rw [z]
    · exact Nat.le_add_right _ _
    · exact Nat.le_add_right _ _
    · exact Nat.le_add_right _ _
    · exact Nat.le_refl _
    · exact Nat.le_add_right _ _
  exact I1.fpOk hle (I1.hok.fresh hle)
/-! over data -/
def seqB : D → Option (Bool × List D)
  | .lst ds => some (true, ds)
  | .tup ds => some (false, ds)
  | _ => none
def seqI (d : D) : Option (List D) := (seqB d).map (·.2)
theorem seqB_is {K : KF} {G : Hp} {d : D} {v : V} {ds : List D} (h : Rp K G d v) (e : seqI d = some ds) : ∃ k a vs, v = .ref a ∧ (∀ H, Same G H → SqB K k H a vs) ∧ RpL K G ds vs := by
  cases h with
  | tup h1 h2 h3 => cases e; exact ⟨false, _, _, rfl, fun H sm => (h1.sq sm _ : SqT K H _ _), h2⟩
  | lst h1 h2 h3 => cases e; exact ⟨true, _, _, rfl, fun H sm => (.inl (.inl (sm _ _ h1)) : SqL K H _ _), h2⟩
  | _ => cases e
def zip2 (xs ys : List D) : List D := List.zipWith (fun x y => .pair [x, y]) xs ys
def zip3 : List D → List D → List D → List D
  | x :: xs, y :: ys, z :: zs => .pair [x, y, z] :: zip3 xs ys zs
  | _, _, _ => []
def sZip2 (t u : DT) : DI := fun r m Q => t r m fun d m1 => u r m1 fun e m2 => ∃ xs ys, seqI d = some xs ∧ seqI e = some ys ∧ Q (zip2 xs ys) m2
def sZip3 (t u v : DT) : DI := fun r m Q => t r m fun d m1 => u r m1 fun e m2 => v r m2 fun f m3 => ∃ xs ys zs, seqI d = some xs ∧ seqI e = some ys ∧ seqI f = some zs ∧ Q (zip3 xs ys zs) m3
section
variable {K : KF}
theorem wk_z2 {G : Hp} {k1 k2 : Bool} {a b : Addr} {xs ys : List D} {us vs : List V} (h1 : ∀ H, Same G H → SqB K k1 H a us) (r1 : RpL K G xs us) (h2 : ∀ H, Same G H → SqB K k2 H b vs) (r2 : RpL K G ys vs) : Wk K G (Itz2 K k1 k2 a b) (zip2 xs ys) := by
  refine ⟨fun G1 H m i d sm rl e => ?_, fun G1 H m sm rl => ?_⟩
  · have q1 := h1 H (sm.trans rl.sub)
    have q2 := h2 H (sm.trans rl.sub)
    unfold zip2 at e
    rw [List.getElem?_zipWith] at e
    cases ex : xs[i]? with
    | none => rw [ex] at e; cases ys[i]? <;> cases e
    | some x => cases ey : ys[i]? with
      | none => rw [ex, ey] at e; cases e
      | some y =>
        rw [ex, ey] at e
        cases e
        obtain ⟨v, ev, rv⟩ := r1.get ex
        obtain ⟨u, eu, ru⟩ := r2.get ey
        refine ⟨⟨us, vs, v, u, q1, q2, ev, eu⟩, fun x' H' ⟨T, x1, y1, e1, hT, eH, f1, f2⟩ => ?_⟩
        have z1 := f1 us q1
        have z2 := f2 vs q2
        rw [ev] at z1; rw [eu] at z2
        cases z1; cases z2
        subst e1; subst eH
        obtain ⟨rl2, st2⟩ := rl.new hT (.tup [v, u])
        exact ⟨_, rl2, st2, .pair upd_same (.cons ((rv.same sm).same st2.g) (.cons ((ru.same sm).same st2.g) .nil)) (by show 2 ≤ sizeLine; decide)⟩
  · refine ⟨us, vs, h1 H (sm.trans rl.sub), h2 H (sm.trans rl.sub), ?_⟩
    unfold zip2
    rw [List.length_zipWith, r1.len, r2.len]
end
section
variable {X : Cx} {e e2 e3 : Expr} {t u v : DT} {p pos tpos : Pos} {elts : List Expr} {kk : Nat}
theorem pdi_zip2 (h1 : PD X e t) (h2 : PD X e2 u) (hg : Gl X "zip") (hm : X.mg "zip" = none)
    (hs : starEach [e, e2] X.env = (false, eval e X.env) :: starEach [e2] X.env := by rfl) (hs2 : starEach [e2] X.env = (false, eval e2 X.env) :: starEach [] X.env := by rfl) (hpl : (backTo pos (starEach [e2] X.env)).any (·.1) = false := by rfl) :
    PDI X (.Tuple elts kk tpos) (.Call (.Name "zip" p) [e, e2] [] pos) (sZip2 t u) := by
  refine piM (pi_zip2 hg hm (pa_cons h1 (pa_cons h2 pa_nil hs2) hs) hs hpl) fun s H R ⟨G, r, m, Q, hs, hr, q, w⟩ => ?_
  refine lf2 (K := X.kf) hs hr q fun x y dx dy H' G' m' st rl rx ry ⟨xs, ys, e1, e2, q1⟩ => ?_
  obtain ⟨k1, a, us, ea, ha, ra⟩ := seqB_is rx e1
  obtain ⟨k2, b, vs, eb, hb, rb⟩ := seqB_is ry e2
  subst ea; subst eb
  exact ⟨k1, k2, a, b, us, vs, rfl, ha _ rl.sub, hb _ rl.sub, w _ _ _ _ _ st rl (wk_z2 ha ra hb rb) q1⟩
end
end Mn

set_option Elab.async false
set_option linter.all false
set_option maxRecDepth 100000
set_option maxHeartbeats 4000000
set_option autoImplicit false
namespace Mn
open PySem PySem.Spec PyProof.Rows L2
variable [Tbs]
/-! enumerate(x) -/
def enumD : Nat → List D → List D
  | _, [] => []
  | i, d :: ds => .pair [.int (i : Nat), d] :: enumD (i + 1) ds
def sEnum (t : DT) : DI := fun r m Q => t r m fun d m1 => ∃ xs, seqI d = some xs ∧ Q (enumD 0 xs) m1
end Mn

set_option Elab.async false
set_option linter.all false
set_option maxRecDepth 100000
set_option maxHeartbeats 4000000
set_option autoImplicit false
namespace Mn
open PySem PySem.Spec PyProof.Rows L2
variable [Tbs]
section
variable {X : Cx} {elt tg iter : Expr} {ifs : List Expr} {scope : Scope} {own : List (Str × Nat)} {pos spos py : Pos} {src : DI} {g : TG} {dg : DG} {tt : DB} {te : DT} {i : Nat} {y : Str}
theorem pds_setLc (hc : X.calm = true) (hN : X.N.Nodup) (hy : X.N[i]? = some y) (hyl : X.env.scope.names.lookup y = some .local)
    (hsw : swapsWith (.ListComp elt [⟨tg, iter, ifs, 0⟩] scope pos) (some (.Name y py)) spos.line X.env = pure true) (hi : PDI X tg iter src) (ok : BlkOk X.N X.env.scope scope own) (gc : GC X.kf g dg (own.map (·.2)))
    (hg : ∀ (s : Shared) (H : Hp) (C : Addr) (cl : List (Str × Addr)) (fp : List Addr), PG (X.blk s H scope (compEnvC scope cl C X.env) fp) tg g) (ht : ∀ (s : Shared) (H : Hp) (C : Addr) (cl : List (Str × Addr)) (fp : List Addr), PDTs (X.blk s H scope (compEnvC scope cl C X.env) fp) ifs tt)
    (he : ∀ (s : Shared) (H : Hp) (C : Addr) (cl : List (Str × Addr)) (fp : List Addr), PD (X.blk s H scope (compEnvC scope cl C X.env) fp) elt te) (hs : ∀ x, foldedSetIterable iter X.env x = pure x := by intro _; rfl) :
    PDS X (.Assign [.Name y py] (.ListComp elt [⟨tg, iter, ifs, 0⟩] scope pos) spos) (xAsg (dLc src (own.map (·.2)) dg tt te) (gV i)) :=
  psM (ps_setLc (tt := lfB X.kf tt) (te := lf X.kf te) hc hN hy hyl hsw hi ok hg ht he hs) fun _ _ _ h => lc_frz gc (lfAsg (vs := [i]) (gc_name (by simp)) h)
end
/-! a whole number that the top has named; a def of the top; a def that keeps its promise -/
def Ci (mg : Str → Option Value) (x : Str) (v : Int) : Prop := ∃ t, mg x = some (.int v t)
theorem pd_globI {X : Cx} {x : Str} {v : Int} {pos : Pos} (h : Ci X.mg x v) (hg : Gl X x) (hd : (x == ("__debug__" : Str)) = false := by decide) : PD X (.Name x pos) (dC (.int v)) := by
  obtain ⟨t, e⟩ := h
  exact pd_of (pe_glob (v := .int v) hg e ⟨_, rfl⟩ hd) fun _ => .int v
structure Df (K : PySem.W.Frag) (mg : Str → Option Value) (x : Str) (st : Stmt) (ps : List Str) (f : Addr) (fd : FuncData) : Prop where
  F : Fun K x x st f fd
  g : mg x = some (.ref f)
  b : Binds K fd ps []
def Cl (P : Program) (w : World) (K : PySem.W.Frag) (mg : Str → Option Value) (base : Heap) (x : Str) (k : Nat) (ps : List Str) (d : DSp) : Prop :=
  ∃ f fd, mg x = some (.ref f) ∧ PySem.W.keepIn K (.ref f) = true ∧ Binds K fd ps [] ∧ FnD P w K mg base k f fd ps d
theorem fnC {P : Program} {w : World} {K : PySem.W.Frag} {mg : Str → Option Value} {base : Heap} {x : Str} {st : Stmt} {N ps : List Str} {k : Nat} {t : DS} {d : DSp} (h : ∃ f fd, Df K mg x st ps f fd) (S : FnScope N ps (defScope st)) (hl : ∀ ds m Q, d ds m Q → ds.length = ps.length) (hb : Body N.length t d)
    (der : ∀ (f : Addr) (cdv : Value) (A : Around) (outer : List Env) (s : Shared) (H : Hp) (E : XK), A.guards = some [] → Room k (A.deeper (envOfC x (defScope st) s.heap.objs.size f cdv)) → PDSs (cxOf CX0 P w K mg base N x (defScope st) f cdv A outer s H E).nox (defBody st) t) :
    Cl P w K mg base x (k + 1) ps d := by
  obtain ⟨f, fd, Dd⟩ := h
  refine ⟨f, fd, Dd.g, Dd.F.kp, Dd.b, ?_⟩
  obtain ⟨oc, od, kV, doc, pm, an, cdv, ct, osl, rfl, lk, hcd⟩ := Dd.F.ex
  refine gn_of lk hcd S (fun vs H Q E ⟨G, ds, m, Qd, rp, rl, q, w⟩ => by rw [← rp.len]; exact hl _ _ _ q) fun A outer s H vs Q E room gd h => ?_
  exact ⟨_, PSs.nox (der f cdv A outer s H E gd room), lfS_start hb h⟩
theorem pd_callC {X : Cx} {k : Nat} {ps : List Str} {d : DSp} {x : Str} {p pos : Pos} {e : Expr} {es : List Expr} {tr : DA} (C : Cl X.prog X.w X.K X.mg X.base x k ps d) (room : Room k X.A) (gd : X.A.guards = some []) (hg : Gl X x)
    (ha : PDA X (e :: es) tr) (hdb : (x == ("__debug__" : Str)) = false := by decide) (he : starEach (e :: es) X.env = (false, eval e X.env) :: starEach es X.env := by rfl) (hpl : (backTo pos (starEach es X.env)).any (·.1) = false := by rfl) :
    PD X (.Call (.Name x p) (e :: es) [] pos) (dCB d tr) := by
  obtain ⟨f, fd, hm, hk, bd, F⟩ := C
  exact pd_call F room gd hg hm hk bd ha hdb he hpl
/-- the built-in names are the built-in things -/
structure Bts (mg : Str → Option Value) : Prop where
  len : mg "len" = none
  isi : mg "isinstance" = none
  int : mg "int" = none
  bool : mg "bool" = none
  str : mg "str" = none
  tuple : mg "tuple" = none
  list : mg "list" = none
  dict : mg "dict" = none
  set : mg "set" = none
  all : mg "all" = none
  any : mg "any" = none
  sum : mg "sum" = none
  max : mg "max" = none
  min : mg "min" = none
  zip : mg "zip" = none
  range : mg "range" = none
  enum : mg "enumerate" = none
  repr : mg "repr" = none
  sorted : mg "sorted" = none
end Mn

set_option Elab.async false
set_option linter.all false
set_option maxRecDepth 100000
set_option maxHeartbeats 4000000
set_option autoImplicit false
namespace Mn
open PySem PySem.Spec PyProof.Rows L2
variable [Tbs]
theorem _root_.L2.Room.u65 {k : Nat} {A : Around} (r : Room k A) : A.units + 65 < cLine := by have := r.un; omega
/-! keys in the abstract heap -/
mutual
inductive KyH (H : Hp) : NestedKey → V → Prop
  | non : KyH H .none .non
  | num (i : Int) : KyH H (.num i) (.int i)
  | text (x : Str) : KyH H (.text x) (.str x)
  | tup {a : Addr} {vs : List V} {ks : List NestedKey} : Rd H a (.tup vs) → KyAll H ks vs → KyH H (.tup ks) (.ref a)
inductive KyAll (H : Hp) : List NestedKey → List V → Prop
  | nil : KyAll H [] []
  | cons {k : NestedKey} {v : V} {ks : List NestedKey} {vs : List V} : KyH H k v → KyAll H ks vs → KyAll H (k :: ks) (v :: vs)
end
section
variable {X : Cx} {pins : List (Addr × Obj)} {σ : L2.St} {H : Hp} {s : Shared}
mutual
theorem KyH.is (I : Inv X pins σ H s) : ∀ {k : NestedKey} {v : V} {u : Value}, KyH H k v → RelV v u → NestedIs s.heap k u
  | _, _, _, .non, r => by cases r; exact .none
  | _, _, _, .num i, r => by obtain ⟨t, rfl⟩ := r; exact .int i t
  | _, _, _, .text x, r => by obtain ⟨t, rfl⟩ := r; exact .text x t
  | _, _, _, .tup h q, r => by
    cases r
    obtain ⟨_, its, rv, o, ho, hc, n, hd⟩ := h.ok I.hok
    exact .tup ho hc hd (by simpa using KyAll.is I q rv)
theorem KyAll.is (I : Inv X pins σ H s) : ∀ {ks : List NestedKey} {vs : List V} {us : List Value}, KyAll H ks vs → Vals vs us → NestedAll s.heap ks us
  | _, _, _, .nil, r => by cases r; exact .nil
  | _, _, _, .cons h q, r => by
    cases r with
    | cons r1 r2 => exact .cons (KyH.is I h r1) (KyAll.is I q r2)
end
end
section
variable {K : KF} {G H : Hp}
mutual
theorem ky_of (e : Same G H) : ∀ {k : NestedKey} {v : V}, Rp K G (keyD k) v → KyH H k v
  | .none, v, h => by rw [keyD] at h; cases h; exact .non
  | .num i, v, h => by rw [keyD] at h; cases h; exact .num i
  | .text x, v, h => by rw [keyD] at h; cases h; exact .text x
  | .tup ks, v, h => by
    rw [keyD] at h
    cases h with
    | tup h1 h2 _ =>
      obtain ⟨o, _, q⟩ := h1
      exact .tup (.inr ⟨o, e _ _ q⟩) (kys_of e h2)
theorem kys_of (e : Same G H) : ∀ {ks : List NestedKey} {vs : List V}, RpL K G (keyDs ks) vs → KyAll H ks vs
  | [], _, h => by rw [keyDs] at h; cases h; exact .nil
  | k :: ks, _, h => by
    rw [keyDs] at h
    cases h with
    | cons h1 h2 => exact .cons (ky_of e h1) (kys_of e h2)
end
end
/-! the dict in the abstract heap -/
abbrev Row3 := List (NestedKey × Addr × V)
abbrev PairX : Row3 → List (NestedKey × Addr × Value) → Prop := Paired fun (p : NestedKey × Addr × V) (q : NestedKey × Addr × Value) => p.1 = q.1 ∧ p.2.1 = q.2.1 ∧ RelV p.2.2 q.2.2
structure DN (wd : World) (H : Hp) (a : Addr) (xs : Row3) : Prop where
  at_ : H a = some (.ext (dictAt wd a xs)) ∨ ∃ o, H a = some (.frz o (.ext (dictAt wd a xs)))
  ns : (a == sysModules) = false
  nd : (xs.map (·.1)).Nodup
  ks : ∀ x ∈ xs, KyH H x.1 (.ref x.2.1) ∧ x.1.depth ≤ 8
  sz : xs.length ≤ sizeLine
def atV (xs : Row3) (k : NestedKey) : Option V := (xs.find? fun x => decide (x.1 = k)).map (·.2.2)
def putV (xs : Row3) (k : NestedKey) (b : Addr) (v : V) : Row3 := if (atV xs k).isSome = true then xs.map (fun x => if x.1 = k then (x.1, x.2.1, v) else x) else xs ++ [(k, b, v)]
theorem pairX_at {k : NestedKey} : ∀ {xs : Row3} {vs : List (NestedKey × Addr × Value)}, PairX xs vs → RelO (atV xs k) ((atKey vs k).map (·.2))
  | _, _, .nil => by simp [atV, atKey, RelO]
  | x :: xs, y :: vs, .cons h r => by
    obtain ⟨e1, e2, e3⟩ := h
    by_cases hk : x.1 = k
    · have hk2 : y.1 = k := e1 ▸ hk
      simp only [atV, atKey, List.find?_cons, hk, hk2, decide_true, Option.map_some, RelO]
      exact e3
    · have hk2 : ¬ y.1 = k := fun z => hk (e1.trans z)
      have ih := pairX_at (k := k) r
      simp only [atV, atKey, List.find?_cons, hk, hk2, decide_false] at ih ⊢
      exact ih
theorem pairX_put {k : NestedKey} {b : Addr} {v : V} {u : Value} (rv : RelV v u) {xs : Row3} {vs : List (NestedKey × Addr × Value)} (h : PairX xs vs) : PairX (putV xs k b v) (storedH vs k b u) := by
  have hs : (atV xs k).isSome = (atKey vs k).isSome := by
    have := (pairX_at (k := k) h).isSome_eq
    rw [Option.isSome_map] at this
    exact this
  unfold putV storedH
  rw [hs]
  by_cases hk : (atKey vs k).isSome = true
  · rw [if_pos hk, if_pos hk]
    clear hs hk
    induction h with
    | nil => exact .nil
    | cons hh _ ih =>
      rename_i x y _ _ _
      obtain ⟨e1, e2, e3⟩ := hh
      rw [List.map_cons, List.map_cons]
      refine .cons ?_ ih
      unfold putAt
      by_cases hx : x.1 = k
      · have hy : y.1 = k := e1 ▸ hx
        rw [if_pos hx, if_pos hy]
        exact ⟨e1, e2, rv⟩
      · have hy : ¬ y.1 = k := fun z => hx (e1.trans z)
        rw [if_neg hx, if_neg hy]
        exact ⟨e1, e2, e3⟩
  · rw [if_neg hk, if_neg hk]
    clear hs hk
    induction h with
    | nil => exact .cons ⟨rfl, rfl, rv⟩ .nil
    | cons hh _ ih => exact .cons hh ih
theorem pairX_len : ∀ {xs : Row3} {vs : List (NestedKey × Addr × Value)}, PairX xs vs → xs.length = vs.length := Paired.length
theorem pairX_keys : ∀ {xs : Row3} {vs : List (NestedKey × Addr × Value)}, PairX xs vs → xs.map (·.1) = vs.map (·.1) ∧ xs.map (·.2.1) = vs.map (·.2.1)
  | _, _, .nil => ⟨rfl, rfl⟩
  | _, _, .cons h r => by
    obtain ⟨e1, e2, _⟩ := h
    obtain ⟨i1, i2⟩ := pairX_keys r
    exact ⟨by rw [List.map_cons, List.map_cons, e1, i1], by rw [List.map_cons, List.map_cons, e2, i2]⟩
theorem pairX_mem : ∀ {xs : Row3} {vs : List (NestedKey × Addr × Value)} {y : NestedKey × Addr × Value}, PairX xs vs → y ∈ vs → ∃ x ∈ xs, x.1 = y.1 ∧ x.2.1 = y.2.1
  | _, _, _, .nil, h => by cases h
  | _, _, y, .cons h r, hy => by
    rcases List.mem_cons.mp hy with rfl | hy
    · exact ⟨_, List.mem_cons_self, h.1, h.2.1⟩
    · obtain ⟨x, hx, e⟩ := pairX_mem r hy
      exact ⟨x, List.mem_cons_of_mem _ hx, e⟩
theorem putV_keys (xs : Row3) (k : NestedKey) (b : Addr) (v : V) : (putV xs k b v).map (·.1) = if (atV xs k).isSome = true then xs.map (·.1) else xs.map (·.1) ++ [k] := by
  unfold putV
  split
  · rw [List.map_map]
    refine List.map_congr_left fun x _ => ?_
    simp only [Function.comp]
    split <;> rfl
  · rw [List.map_append]; rfl
theorem atV_none {xs : Row3} {k : NestedKey} (h : ¬ (atV xs k).isSome = true) : k ∉ xs.map (·.1) := fun hm => h (by
  obtain ⟨x, hx, rfl⟩ := List.mem_map.mp hm
  unfold atV
  rw [Option.isSome_map, List.find?_isSome]
  exact ⟨x, hx, by simp⟩)
theorem putV_nodup {xs : Row3} {k : NestedKey} {b : Addr} {v : V} (h : (xs.map (·.1)).Nodup) : ((putV xs k b v).map (·.1)).Nodup := by
  rw [putV_keys]
  split
  · exact h
  · rename_i hk
    rw [List.nodup_append]
    exact ⟨h, List.pairwise_singleton _ _, fun a ha c hc => by rw [List.mem_singleton.mp hc]; rintro rfl; exact atV_none hk ha⟩
theorem putV_mem {xs : Row3} {k : NestedKey} {b : Addr} {v : V} {y : NestedKey × Addr × V} (h : y ∈ putV xs k b v) : (∃ x ∈ xs, x.1 = y.1 ∧ x.2.1 = y.2.1) ∨ (y.1 = k ∧ y.2.1 = b) := by
  unfold putV at h
  split at h
  · obtain ⟨x, hx, rfl⟩ := List.mem_map.mp h
    refine .inl ⟨x, hx, ?_⟩
    split <;> exact ⟨rfl, rfl⟩
  · rcases List.mem_append.mp h with h | h
    · exact .inl ⟨y, h, rfl, rfl⟩
    · rw [List.mem_singleton.mp h]; exact .inr ⟨rfl, rfl⟩
section
variable {X : Cx} {pins : List (Addr × Obj)} {σ : L2.St} {H : Hp} {s : Shared} {a : Addr} {xs : Row3} {A : Around} {E : Value → Shared → Prop}
theorem DN.dict (d : DN X.w H a xs) (I : Inv X pins σ H s) : ∃ vs, PairX xs vs ∧ s.heap.DictOfH (nestedKind X.prog X.w) a vs := by
  obtain ⟨vs, r, o, es, ep, ho, hx, hd, he⟩ : dictAt X.w a xs s.heap := by
    rcases d.at_ with e | ⟨o, e⟩
    · exact (I.hok a _ e).1
    · exact (I.hok a _ e).2.1
  refine ⟨vs, r, o, es, ep, ho, hx, hd, he, fun y hy => ?_, by rw [← (pairX_keys r).1]; exact d.nd⟩
  obtain ⟨x, hx, e1, e2⟩ := pairX_mem r hy
  obtain ⟨k1, k2⟩ := d.ks x hx
  rw [e1, e2] at k1
  rw [e1] at k2
  exact ⟨k1.is I rfl, k2⟩
theorem dn_room (hu : A.units + 65 < cLine) : (nestedKind X.prog X.w).room A.in1 := by
  show A.units + 1 + 8 < cLine
  omega
/-- d[k] -/
theorem dn_getItem {k : NestedKey} {b : Addr} {v : V} {Q : Value → Shared → Prop} (hu : A.units + 65 < cLine) (I : Inv X pins σ H s) (d : DN X.w H a xs) (hk : KyH H k (.ref b)) (h8 : k.depth ≤ 8) (hv : atV xs k = some v)
    (h : ∀ w' s', Inv X pins σ H s' → RelV v w' → Q w' s') : wpAny (model X.prog X.w) A (getItem (.ref a) (.ref b)) Q E s := by
  obtain ⟨vs, r, dd⟩ := d.dict I
  obtain ⟨w', hw, rw'⟩ := RelO.some_of (v := v) (o := (atKey vs k).map (·.2)) (by rw [← hv]; exact pairX_at r)
  obtain ⟨p, hp, hp2⟩ := Option.map_eq_some_iff.mp hw
  refine wpAny_getItem_heap (dn_room hu) ⟨hk.is I rfl, h8⟩ dd hp ?_
  rw [hp2]
  exact h w' _ (I.tok _) rw'
theorem ix_dN (hu : X.A.units + 65 < cLine) : IxR X (fun x y H Q => ∃ a xs k b v, x = .ref a ∧ y = .ref b ∧ DN X.w H a xs ∧ KyH H k (.ref b) ∧ k.depth ≤ 8 ∧ atV xs k = some v ∧ Q v H) := by
  intro value slice pins s σ H x y v u Q I rx ry ⟨a, xs, k, b, w0, e1, e2, d, hk, h8, hv, q⟩ hs
  subst e1; subst e2
  cases rx; cases ry
  obtain ⟨vs, r, dd⟩ := d.dict I
  unfold subscriptTail
  refine wpAny_bind ?_
  rw [getitemInPython_of_ne dd.typeIs.not_modules]
  refine wpAny_bind (wpAny_specialOf dd.typeIs PySem.F.slot_dict_getitem.lookup ?_)
  have fin : wpAny (model X.prog X.w) X.A (subscripted slice false (.ref a) (.ref b)) (fun r s₃ => wpAny (model X.prog X.w) X.A (letTemporaryGo value (.ref a) r >>= fun _ => pure r) (EP X pins σ Q) X.xe s₃) X.xe s := by
    rw [hs]
    exact wpAny_operating (dn_getItem hu I d hk h8 hv fun w' s' I' rw' => wpAny_bind (wpAny_letTemporaryGo (wpAny_pure ⟨w0, H, I', rw', q⟩)))
  first
    | exact wpAny_pure (wpAny_bind fin)
    | exact wpAny_bind (wpAny_pure (wpAny_bind fin))
    | exact wpAny_bind fin
/-- d[k] = v -/
def rSetN (wd : World) : V → V → V → Hp → (Hp → Prop) → Prop := fun o i v H Q => ∃ a xs k b, o = .ref a ∧ i = .ref b ∧ DN wd H a xs ∧ H a = some (.ext (dictAt wd a xs)) ∧ KyH H k (.ref b) ∧ k.depth ≤ 8 ∧ xs.length < sizeLine ∧ Q (upd H a (.ext (dictAt wd a (putV xs k b v))))
theorem dictAt_st {wd : World} {h1 h2 : Heap} (h : dictAt wd a xs h1) (k : ∀ o, h1.get? a = some o → h2.get? a = some o) : dictAt wd a xs h2 := by
  obtain ⟨vs, r, o, es, ep, ho, rest⟩ := h
  exact ⟨vs, r, o, es, ep, k o ho, rest⟩
theorem set_dN (hu : X.A.units + 65 < cLine) : PSet X (rSetN X.w) := by
  intro pins s σ H o i v ov iv u Q I ro ri rv ⟨a, xs, k, b, e1, e2, d, hat, hk, h8, hz, q⟩
  subst e1; subst e2
  cases ro; cases ri
  obtain ⟨vs, r, dd⟩ := d.dict I
  refine wpAny_setItem_heap (hsz := by rw [← pairX_len r]; exact d.sz) (dn_room hu) ⟨hk.is I rfl, h8⟩ dd fun h' dd' hs => ?_
  obtain ⟨o, es, ep, ho, h2, h3, h4, _, h5⟩ := dd'
  have da : dictAt X.w a (putV xs k b v) h' := ⟨_, pairX_put rv r, o, es, ep, ho, h2, h3, h4⟩
  exact ⟨_, d_write (ob := .ext (dictAt X.w a (putV xs k b v))) I (by rw [hat]; exact True.intro) hs ⟨o, ho⟩ ⟨da, ⟨o, ho⟩, fun h1 h2 x k => dictAt_st x k⟩, q⟩
end
/-! over data -/
def lookN (kvs : List (NestedKey × D)) (k : NestedKey) : Option D := (kvs.find? fun kv => decide (kv.1 = k)).map (·.2)
def putN (kvs : List (NestedKey × D)) (k : NestedKey) (d : D) : List (NestedKey × D) := if (lookN kvs k).isSome = true then kvs.map (fun kv => if kv.1 = k then (kv.1, d) else kv) else kvs ++ [(k, d)]
section
variable {K : KF} {G H : Hp} {m : Mu}
theorem look_is {k : NestedKey} {d : D} : ∀ {kvs : List (NestedKey × D)} {xs : Row3}, kvs.map (·.1) = xs.map (·.1) → RpL K G (kvs.map (·.2)) (xs.map (·.2.2)) → lookN kvs k = some d → ∃ v, atV xs k = some v ∧ Rp K G d v
  | [], [], _, _, h => by simp [lookN] at h
  | [], _ :: _, e, _, _ => by simp at e
  | _ :: _, [], e, _, _ => by simp at e
  | p :: kvs, x :: xs, e, r, h => by
    rw [List.map_cons, List.map_cons] at e r
    obtain ⟨e1, e2⟩ := List.cons.inj e
    cases r with
    | cons r1 r2 =>
      by_cases hk : p.1 = k
      · have hx : x.1 = k := e1 ▸ hk
        simp only [lookN, List.find?_cons, hk, decide_true, Option.map_some, Option.some.injEq] at h
        refine ⟨x.2.2, by simp only [atV, List.find?_cons, hx, decide_true, Option.map_some], h ▸ r1⟩
      · have hx : ¬ x.1 = k := fun z => hk (e1.trans z)
        have := look_is (k := k) (d := d) e2 r2 (by simpa [lookN, List.find?_cons, hk] using h)
        simpa [atV, List.find?_cons, hx] using this
theorem look_some {k : NestedKey} : ∀ {kvs : List (NestedKey × D)} {xs : Row3}, kvs.map (·.1) = xs.map (·.1) → (lookN kvs k).isSome = (atV xs k).isSome
  | [], [], _ => rfl
  | [], _ :: _, e => by simp at e
  | _ :: _, [], e => by simp at e
  | p :: kvs, x :: xs, e => by
    rw [List.map_cons, List.map_cons] at e
    obtain ⟨e1, e2⟩ := List.cons.inj e
    by_cases hk : p.1 = k
    · have hx : x.1 = k := e1 ▸ hk
      simp [lookN, atV, List.find?_cons, hk, hx]
    · have hx : ¬ x.1 = k := fun z => hk (e1.trans z)
      have := look_some (k := k) e2
      simpa [lookN, atV, List.find?_cons, hk, hx] using this
theorem put_is {k : NestedKey} {d : D} {v : V} {b : Addr} (rd : Rp K G d v) {kvs : List (NestedKey × D)} {xs : Row3} (e : kvs.map (·.1) = xs.map (·.1)) (r : RpL K G (kvs.map (·.2)) (xs.map (·.2.2))) :
    (putN kvs k d).map (·.1) = (putV xs k b v).map (·.1) ∧ RpL K G ((putN kvs k d).map (·.2)) ((putV xs k b v).map (·.2.2)) := by
  have hs := look_some (k := k) e
  unfold putN putV
  rw [hs]
  split
  · clear hs
    rename_i hk
    clear hk
    induction kvs generalizing xs with
    | nil =>
      cases xs with
      | nil => exact ⟨rfl, .nil⟩
      | cons x xs => simp at e
    | cons p kvs ih =>
      cases xs with
      | nil => simp at e
      | cons x xs =>
        rw [List.map_cons, List.map_cons] at e r
        obtain ⟨e1, e2⟩ := List.cons.inj e
        cases r with
        | cons r1 r2 =>
          obtain ⟨i1, i2⟩ := ih e2 r2
          by_cases hk : p.1 = k
          · have hx : x.1 = k := e1 ▸ hk
            simp only [List.map_cons, hk, hx, ↓reduceIte]
            exact ⟨by rw [i1], .cons rd i2⟩
          · have hx : ¬ x.1 = k := fun z => hk (e1.trans z)
            simp only [List.map_cons, hk, hx, ↓reduceIte]
            exact ⟨by rw [i1, e1], .cons r1 i2⟩
  · rw [List.map_append, List.map_append, List.map_append, List.map_append, e]
    exact ⟨rfl, r.app (.cons rd .nil)⟩
theorem putN_len (kvs : List (NestedKey × D)) (k : NestedKey) (d : D) : (putN kvs k d).length ≤ kvs.length + 1 := by
  unfold putN
  split
  · rw [List.length_map]; omega
  · rw [List.length_append, List.length_singleton]; omega
theorem Rl.dn (r : Rl K G H m) {p : Addr} {kvs : List (NestedKey × D)} (e : m p = some (.dN kvs)) : ∃ xs, DN K.wd H p xs ∧ kvs.map (·.1) = xs.map (·.1) ∧ RpL K G (kvs.map (·.2)) (xs.map (·.2.2)) ∧ (∀ x ∈ xs, Rp K G (keyD x.1) (.ref x.2.1) ∧ x.1.depth ≤ 8) ∧ kvs.length ≤ sizeLine ∧ H p = some (.ext (dictAt K.wd p xs)) := by
  obtain ⟨_, u, hu, xs, eu, ns, nd, ek, rv, ky, z⟩ := r.mu p _ e
  subst eu
  have hl : kvs.length = xs.length := by have := congrArg List.length ek; simpa using this
  exact ⟨xs, ⟨.inl hu, ns, nd, fun x hx => ⟨ky_of r.sub (ky x hx).1, (ky x hx).2⟩, by rw [← hl]; exact z⟩, ek, rv, ky, z, hu⟩
end
/-! items -/
def aIx : DR2 := fun x y m Q => match y with
  | .int i => ∃ ds d, seqOf x m = some ds ∧ at_ ds i = some d ∧ Q d m
  | .tup ks => match x with
    | .dct kl dl => ∃ k d, D.tup ks = keyD k ∧ k.depth ≤ 8 ∧ lookN (kl.zip dl) k = some d ∧ Q d m
    | x => ∃ p kvs k d, x = .ref p ∧ m p = some (.dN kvs) ∧ D.tup ks = keyD k ∧ k.depth ≤ 8 ∧ lookN kvs k = some d ∧ Q d m
  | _ => False
/-- a dict that is never changed -/
theorem dct_is {K : KF} {G H : Hp} {kl : List NestedKey} {dl : List D} {v : V} (sb : Same G H) (h : Rp K G (.dct kl dl) v) : ∃ a xs, v = .ref a ∧ DN K.wd H a xs ∧ kl = xs.map (·.1) ∧ RpL K G dl (xs.map (·.2.2)) ∧ kl.length = dl.length ∧ (kl.zip dl).map (·.1) = xs.map (·.1) ∧ RpL K G ((kl.zip dl).map (·.2)) (xs.map (·.2.2)) ∧ RpL K G (kl.map keyD) (xs.map fun x => V.ref x.2.1) := by
  cases h with
  | @dct a _ _ _ xs h1 h2 h3 h4 h5 h6 h7 h8 =>
    have el : kl.length = dl.length := by rw [h5.len, h3, List.length_map, List.length_map]
    refine ⟨a, xs, rfl, ⟨.inr ⟨_, sb _ _ h1⟩, h2, by rw [← h3]; exact h4, fun x hx => ?_, by rw [h3, List.length_map] at h8; exact h8⟩, h3, h5, el, ?_, ?_, h6⟩
    · obtain ⟨i, hi, rfl⟩ := List.mem_iff_getElem.mp hx
      have e1 : (kl.map keyD)[i]? = some (keyD xs[i].1) := by rw [h3]; simp [hi]
      obtain ⟨v, ev, rv⟩ := h6.get e1
      have e2 : (xs.map fun x => V.ref x.2.1)[i]? = some (V.ref xs[i].2.1) := by simp [hi]
      rw [e2] at ev
      cases ev
      exact ⟨ky_of sb rv, h7 _ (by rw [h3]; exact List.mem_map_of_mem hx)⟩
    · rw [List.map_fst_zip (by omega), h3]
    · rw [List.map_snd_zip (by omega)]; exact h5
def rIxA (K : KF) : R2 := fun x y H Q => rIxL K x y H Q ∨ rIxT K x y H Q ∨ ∃ a xs k b v, x = .ref a ∧ y = .ref b ∧ DN K.wd H a xs ∧ KyH H k (.ref b) ∧ k.depth ≤ 8 ∧ atV xs k = some v ∧ Q v H
theorem c2_ix {K : KF} : C2 K (rIxA K) aIx := by
  intro G H m x y dx dy Q Qv r rx ry q w
  cases dy with
  | int i =>
    obtain ⟨ds, d, e1, e3, q⟩ := q
    cases ry
    obtain ⟨p, vs, e, hq, hr, z⟩ := seq_is r rx e1
    obtain ⟨v, ev, rv⟩ := at_V hr e3
    rcases hq with hq | hq
    · exact .inl ⟨p, vs, i, v, e, rfl, hq, ev, w.now r rv q⟩
    · exact .inr (.inl ⟨p, vs, i, v, e, rfl, hq, ev, w.now r rv q⟩)
  | tup ks =>
    by_cases hd : ∃ kl dl, dx = .dct kl dl
    · obtain ⟨kl, dl, rfl⟩ := hd
      obtain ⟨k, d, e3, h8, el, q⟩ := q
      obtain ⟨a, xs, ea, dn, _, _, _, ek, rv, _⟩ := dct_is r.sub rx
      obtain ⟨v, ev, rdv⟩ := look_is ek rv el
      rw [e3] at ry
      have hk := ky_of r.sub ry
      rw [← e3] at ry
      cases ry
      exact .inr (.inr ⟨a, xs, k, _, v, ea, rfl, dn, hk, h8, ev, w.now r rdv q⟩)
    replace q : ∃ p kvs k d, dx = .ref p ∧ m p = some (.dN kvs) ∧ D.tup ks = keyD k ∧ k.depth ≤ 8 ∧ lookN kvs k = some d ∧ Q d m := by
      cases dx with
      | dct kl dl => exact absurd ⟨kl, dl, rfl⟩ hd
      | _ => exact q
    obtain ⟨p, kvs, k, d, e1, e2, e3, h8, el, q⟩ := q
    subst e1
    cases rx
    obtain ⟨xs, dn, ek, rv, _, _⟩ := r.dn e2
    obtain ⟨v, ev, rdv⟩ := look_is ek rv el
    rw [e3] at ry
    have hk := ky_of r.sub ry
    rw [← e3] at ry
    cases ry
    exact .inr (.inr ⟨p, xs, k, _, v, rfl, rfl, dn, hk, h8, ev, w.now r rdv q⟩)
  | _ => exact q.elim
section
variable {X : Cx} {a b o i e : Expr} {ta tb to ti te : DT} {pos spos : Pos}
theorem pd_ix (hu : X.A.units + 65 < cLine) (ha : PD X a ta) (hb : PD X b tb) (hs : PlainIx b := by exact fun _ _ => rfl) : PD X (.Subscript a b pos) (dOp aIx ta tb) :=
  peM (pe_ix (ix_list.or (ix_tup.or (ix_dN hu))) ha hb hs) fun _ _ _ h => lfOp c2_ix h
/-- o[i] = e -/
def xPut (te to ti : DT) : DS := fun De r m => te r m fun d m1 => to r m1 fun o m2 => ti r m2 fun k m3 => ∃ p, o = .ref p ∧ match k with
  | .int i => ∃ ds j, m3 p = some (.lst ds) ∧ ixN ds.length i = some j ∧ De.nx r (up m3 p (.lst (ds.set j d)))
  | .tup ks => ∃ kvs k, m3 p = some (.dN kvs) ∧ D.tup ks = keyD k ∧ k.depth ≤ 8 ∧ kvs.length < sizeLine ∧ De.nx r (up m3 p (.dN (putN kvs k d)))
  | _ => False
theorem PSet.or {t t' : TSet} (h : PSet X t) (h' : PSet X t') : PSet X (fun o i v H Q => t o i v H Q ∨ t' o i v H Q) := by
  intro pins s σ H o i v ov iv u Q I ro ri rv q
  rcases q with q | q
  · exact h pins s σ H o i v ov iv u Q I ro ri rv q
  · exact h' pins s σ H o i v ov iv u Q I ro ri rv q
theorem pds_put (hu : X.A.units + 65 < cLine) (he : PD X e te) (ho : PD X o to) (hi : PD X i ti)
    (ha : ∀ v, assign (.Subscript o i spos) X.env v = (do
      let ov ← holding [v] (eval o X.env)
      let iv ← holding [v, ov] (eval i X.env)
      standAt spos
      holding [v, ov, iv] (setItem ov iv v)
      release [v, ov, iv] []) := by intro _; rfl)
    (hs : swapsWithSole [.Subscript o i spos] e pos.line X.env = pure false := by rfl) (hw : swappedStores [.Subscript o i spos] e X.env = pure none := by rfl)
    (h1 : (assignEach [.Subscript o i spos] X.env).map (·.2) = [assign (.Subscript o i spos) X.env] := by rfl) : PDS X (.Assign [.Subscript o i spos] e pos) (xPut te to ti) := by
  refine psM (ps_asg he (pg_sub ho hi (PSet.or set_list (set_dN hu)) ha) hs hw h1) fun E s H ⟨G, r, m, De, hs, hr, q, w⟩ => ?_
  refine ⟨G, r, m, _, hs, hr, q, fun v H1 G1 m1 d s1 r1 rv q1 => ?_⟩
  refine ⟨G1, r, m1, _, hs.same s1.g, r1, q1, fun vo H2 G2 m2 d2 s2 r2 ro q2 => ?_⟩
  refine ⟨G2, r, m2, _, (hs.same s1.g).same s2.g, r2, q2, fun vi H3 G3 m3 d3 s3 r3 ri ⟨p, e1, q3⟩ => ?_⟩
  subst e1
  cases ro
  have rv3 := (rv.same s2.g).same s3.g
  have st3 := (s1.trans s2).trans s3
  have hs3 := ((hs.same s1.g).same s2.g).same s3.g
  cases d3 with
  | int k =>
    obtain ⟨ds, j, e3, e4, q3⟩ := q3
    cases ri
    obtain ⟨_, x, hx, us, ex, ru, z⟩ := r3.mu p _ e3
    subst ex
    obtain ⟨r4, s4⟩ := r3.put e3 (o := .lst (us.set j v)) (u := .lst (ds.set j d)) ⟨_, rfl, ru.set rv3 j, by rw [List.length_set]; exact z⟩
    exact .inl ⟨p, us, k, j, rfl, rfl, hx, by rw [← ru.len]; exact e4, w.nx _ _ _ _ _ (st3.trans s4) (hs3.same s4.g) r4 q3⟩
  | tup ks =>
    obtain ⟨kvs, k, e3, e4, h8, hz, q3⟩ := q3
    obtain ⟨xs, dn, ek, rvs, ky, z, hat⟩ := r3.dn e3
    have rk := ri
    rw [e4] at rk
    have hk := ky_of r3.sub rk
    cases ri with
    | tup t1 t2 t3 =>
      rename_i ad us
      have hl : kvs.length = xs.length := by have := congrArg List.length ek; simpa using this
      obtain ⟨p1, p2⟩ := put_is (b := ad) (k := k) rv3 ek rvs
      have hky : ∀ y ∈ putV xs k ad v, Rp X.kf G3 (keyD y.1) (.ref y.2.1) ∧ y.1.depth ≤ 8 := fun y hy => by
        rcases putV_mem hy with ⟨x, hx, e1, e2⟩ | ⟨e1, e2⟩
        · rw [← e1, ← e2]; exact ky x hx
        · rw [e1, e2]; exact ⟨rk, h8⟩
      obtain ⟨r4, s4⟩ := r3.put e3 (o := .ext (dictAt X.w p (putV xs k ad v))) (u := .dN (putN kvs k d)) ⟨putV xs k ad v, rfl, dn.ns, putV_nodup dn.nd, p1, p2, hky, by have := putN_len kvs k d; omega⟩
      exact .inr ⟨p, xs, k, ad, rfl, rfl, dn, hat, hk, h8, by rw [← hl]; exact hz, w.nx _ _ _ _ _ (st3.trans s4) (hs3.same s4.g) r4 q3⟩
  | _ => exact q3.elim
/-- {} to be filled -/
def dNewD : DT := fun _ m Q => ∀ p, m p = none → Q (.ref p) (up m p (.dN []))
end
end Mn

set_option Elab.async false
set_option linter.all false
set_option maxRecDepth 100000
set_option maxHeartbeats 4000000
set_option autoImplicit false
namespace Mn
open PySem PySem.Spec PyProof.Rows L2
variable [Tbs]

/-! t * 1 is t itself -/
theorem tuple_mulW1 (l : Addr) (items : Array Value) (n : Nat) (dd : Option Addr) (sl : Array (Option Value)) (u : Tok) :
    Meets (Builtin.«tuple.__mul__» ⟨[.ref l, .int 1 u], []⟩) (fun _ R s => s.heap.get? l = some { cls := .type "tuple", dict := dd, data := .seq items n, slots := sl } ∧ R (.ok (.ret (Value.ref l))) s) :=
  .of_wp fun prog w A R s h => by
    obtain ⟨hp, g, d, tk, os⟩ := s
    obtain ⟨hl, h⟩ := h
    have f1 := AutoSeq1.idx_int
    have c0 : (decide ((1 : Int) < -(2 ^ 63)) || decide ((1 : Int) ≥ 2 ^ 63)) = false := by decide
    have c1 : (items.isEmpty || (1 : Int) == 1) = true := by simp
    wp_walk using wpAny_loadPart' hl
    repeat (first
      | (refine wpAny_ite_false (decide_eq_false (by rw [c0]; exact Bool.false_ne_true)) ?_; wp_walk using wpAny_loadPart' hl)
      | (refine wpAny_ite_true (decide_eq_true c1) ?_; wp_walk using wpAny_loadPart' hl))
    exact ⟨_, rfl, h⟩
/-! products: whole numbers; tuples repeated -/
def rRep1 (K : KF) : R2 := fun x y H Q => ∃ l xs, x = .ref l ∧ y = .int 1 ∧ SqT K H l xs ∧ Q (.ref l) H
def rMulA (K : KF) : R2 := fun x y H Q => rI CMul (fun i j => .int (i * j)) x y H Q ∨ rRep1 K x y H Q ∨ rRepF K x y H Q
def aMulA : DR2 := fun x y m Q => match x, y with
  | .int i, .int j => CMul i j ∧ Q (.int (i * j)) m
  | .tup ds, .int k => ds ≠ [] ∧ ds.length ≤ 1000 ∧ 1 ≤ k ∧ k ≤ 1000 ∧ Q (.tup (List.replicate k.toNat ds).flatten) m
  | _, _ => False
section
variable {X : Cx} {K : KF}
theorem op_rep1 : OpR X (binaryOp .Mult) (rRep1 X.kf) := by
  intro pins s σ H x y v u Q I rx ry h
  obtain ⟨l, xs, rfl, rfl, hT, q⟩ := h
  cases rx
  obtain ⟨t, rfl⟩ := ry
  obtain ⟨its, r, ⟨⟨cls, dd, data, sl⟩, ho, hc, n, hd⟩, hs⟩ := I.tuple hT
  simp only at hc hd
  subst hc hd
  exact wpAny_binaryOp_repeat_ref (T := "tuple") (U := "int") (by decide) ⟨_, ho, rfl⟩ (fun s' => typeIs_int s' 1 t) noFill_tuple_mul F.fills_int_mul F.slot_int_rmul repeat_tuple F.slot_int_index.lookup
    (call_meets F.slot_int_rmul (typeIs_int s 1 t) F.entry_int_rmul (F.args_int_rmul_2 _ _) (int_rmul_tuple 1 t l its.toArray n dd sl)
      ⟨ho, rfl, ⟨_, ho, rfl⟩, call_meets F.slot_tuple_mul ⟨_, ho, rfl⟩ F.entry_tuple_mul (F.args_tuple_mul_2 _ _) (tuple_mulW1 l its.toArray n dd sl t) ⟨ho, .ref l, H, I, rfl, q⟩⟩)
theorem op_mulA : OpR X (binaryOp .Mult) (rMulA X.kf) := op_mul.or (op_rep1.or op_repF)
theorem rep_rp {G : Hp} {ds : List D} {vs : List V} (h : RpL K G ds vs) : ∀ k : Nat, RpL K G (List.replicate k ds).flatten (List.replicate k vs).flatten
  | 0 => .nil
  | k + 1 => by
    rw [List.replicate_succ, List.replicate_succ, List.flatten_cons, List.flatten_cons]
    exact h.app (rep_rp h k)
theorem c2_mulA : C2 K (rMulA K) aMulA := by
  intro G H m x y dx dy Q Qv r rx ry q w
  cases dx with
  | int i =>
    cases dy with
    | int j =>
      cases rx; cases ry
      exact .inl ⟨i, j, rfl, rfl, q.1, w.now r (.int _) q.2⟩
    | _ => exact q.elim
  | tup ds =>
    cases dy with
    | int k =>
      obtain ⟨hne, hl, k1, k2, q⟩ := q
      cases ry
      cases rx with
      | tup hq hv hz =>
        rename_i ad vs
        by_cases hk : k = 1
        · subst hk
          have e : (List.replicate (1 : Int).toNat ds).flatten = ds := by simp
          rw [e] at q
          exact .inr (.inl ⟨ad, vs, rfl, rfl, hq.sq r.sub _, w.now r (.tup hq hv hz) q⟩)
        · refine .inr (.inr ⟨ad, k, vs, rfl, rfl, hq.sq r.sub _, fun e => hne ((rp_len hv).mp e), by omega, k2, by rw [← hv.len]; exact hl, ?_⟩)
          refine Rl.newTup w r (rep_rp hv k.toNat) ?_ q
          rw [PyProof.Rows.lm_len_rep_flat, sizeLine_eq]
          have : k.toNat * ds.length ≤ 1000 * 1000 := Nat.mul_le_mul (by omega) hl
          omega
    | _ => exact q.elim
  | _ => exact q.elim
end
/-! the end of a body, told simply -/
theorem end_rt {m0 : Mu} {Q : DK} {d : D} (h : Q d m0) : (endD m0 Q).rt d m0 := ⟨m0, fun _ _ e => e, h⟩
theorem end_nx {m0 : Mu} {Q : DK} {r : Ro} (h : Q .non m0) : (endD m0 Q).nx r m0 := ⟨m0, fun _ _ e => e, h⟩
theorem end_rtL {m0 m1 m2 : Mu} {Q : DK} {d : D} (le : ∀ a o, m2 a = some o → m1 a = some o) (h : Q d m2) : (endD m0 Q).rt d m1 := ⟨m2, le, h⟩
/-! comparisons -/
theorem ok_int (i : Int) (m : Mu) : okD (.int i) m := ⟨rfl, rfl⟩
theorem ok_nil (m : Mu) : okD (.lst []) m := ⟨rfl, rfl⟩
theorem aEq_int (i j : Int) (m : Mu) (Q : DK) : aEq (.int i) (.int j) m Q ↔ Q (.bl (decide (i = j))) m := by
  show (okD _ _ ∧ okD _ _ ∧ _) ↔ _
  have e : PyData.eqv (pyM (.int i) m) (pyM (.int j) m) = decide (i = j) := by
    simp only [pyM, py, PyData.eqv]
    exact Bool.beq_eq_decide_eq i j
  rw [e]
  exact ⟨fun h => h.2.2, fun h => ⟨ok_int i m, ok_int j m, h⟩⟩
theorem aNe_int (i j : Int) (m : Mu) (Q : DK) : aNe (.int i) (.int j) m Q ↔ Q (.bl (!decide (i = j))) m := by
  show (okD _ _ ∧ okD _ _ ∧ _) ↔ _
  have e : PyData.eqv (pyM (.int i) m) (pyM (.int j) m) = decide (i = j) := by
    simp only [pyM, py, PyData.eqv]
    exact Bool.beq_eq_decide_eq i j
  rw [e]
  exact ⟨fun h => h.2.2, fun h => ⟨ok_int i m, ok_int j m, h⟩⟩
/-- comprehensions whose parts change nothing -/
theorem lcGo_map {g : DG} {te : DT} {r : Ro} {m : Mu} (f : D → D) : ∀ (ds acc : List D) (Q : List D → Mu → Prop), (∀ d ∈ ds, ∀ K : DK, K (f d) m → g d r fun r1 => te r1 m K) → Q (acc ++ ds.map f) m → lcGo g dYes te r ds acc m Q
  | [], acc, Q, _, h => by
    rw [List.map_nil, List.append_nil] at h
    exact h
  | d :: ds, acc, Q, hf, h => by
    show g d r fun r1 => te r1 m fun y m2 => lcGo g dYes te r ds (acc ++ [y]) m2 Q
    refine hf d List.mem_cons_self _ ?_
    refine lcGo_map f ds (acc ++ [f d]) Q (fun e he => hf e (List.mem_cons_of_mem _ he)) ?_
    rw [List.append_assoc]
    exact h
/-- comprehensions by an invariant -/
theorem lcGo_inv {g : DG} {tt : DB} {te : DT} {r : Ro} {Q : List D → Mu → Prop} (I : Nat → List D → Mu → Prop) : ∀ (ds acc : List D) (m : Mu) (i : Nat), I i acc m →
    (∀ (j : Nat) (d : D) (acc : List D) (m : Mu) (P : List D → Mu → Prop), ds[j]? = some d → I (i + j) acc m → (∀ acc' m', I (i + j + 1) acc' m' → P acc' m') → g d r fun r1 => tt r1 m fun b m1 => if b = true then te r1 m1 fun y m2 => P (acc ++ [y]) m2 else P acc m1) →
    (∀ acc m, I (i + ds.length) acc m → Q acc m) → lcGo g tt te r ds acc m Q
  | [], acc, m, i, h0, _, hd => hd acc m h0
  | d :: ds, acc, m, i, h0, hs, hd =>
    hs 0 d acc m (fun acc m => lcGo g tt te r ds acc m Q) rfl h0 fun acc m h4 => lcGo_inv I ds acc m (i + 1) h4 (fun j d acc m P e h5 h6 => by
      have z : i + (j + 1) = i + 1 + j := by omega
      have q := hs (j + 1) d acc m P e
      rw [z] at q
      exact q h5 h6) fun acc m h5 => hd acc m (by rw [List.length_cons, show i + (ds.length + 1) = i + 1 + ds.length by omega]; exact h5)
/-- loops by an invariant -/
theorem forGo_inv {g : DG} {tb : DS} {De : DE} (I : Nat → Ro → Mu → Prop) : ∀ (ds : List D) (r : Ro) (m : Mu) (i : Nat), I i r m →
    (∀ (j : Nat) (d : D) (r : Ro) (m : Mu) (P : Ro → Mu → Prop), ds[j]? = some d → I (i + j) r m → (∀ r' m', I (i + j + 1) r' m' → P r' m') → g d r fun r1 => tb { De with nx := P, ct := P, bk := De.nx } r1 m) →
    (∀ r m, I (i + ds.length) r m → De.nx r m) → forGo g tb De ds r m
  | [], r, m, i, h0, _, hd => hd r m h0
  | d :: ds, r, m, i, h0, hs, hd =>
    hs 0 d r m (forGo g tb De ds) rfl h0 fun r m h4 => forGo_inv I ds r m (i + 1) h4 (fun j d r m P e h5 h6 => by
      have z : i + (j + 1) = i + 1 + j := by omega
      have q := hs (j + 1) d r m P e
      rw [z] at q
      exact q h5 h6) fun r m h5 => hd r m (by rw [List.length_cons, show i + (ds.length + 1) = i + 1 + ds.length by omega]; exact h5)
/-! readings at known data -/
section
variable {m : Mu} {Q : DK} {ds es : List D} {i j : Int} {x : Str} {b : Bool}
theorem aLen_tup : aLen [.tup ds] m Q ↔ Q (.int ds.length) m := by simp [aLen, seqOf]
theorem aLen_lst : aLen [.lst ds] m Q ↔ Q (.int ds.length) m := by simp [aLen, seqOf]
theorem aLen_pair : aLen [.pair ds] m Q ↔ Q (.int ds.length) m := by simp [aLen, seqOf]
theorem aLen_scr : aLen [.scr ds] m Q ↔ Q (.int ds.length) m := by simp [aLen, seqOf]
theorem aAdd_int : aAdd (.int i) (.int j) m Q ↔ Q (.int (i + j)) m := Iff.rfl
theorem aAdd_tup : aAdd (.tup ds) (.tup es) m Q ↔ (ds.length + es.length ≤ sizeLine ∧ Q (.tup (ds ++ es)) m) := Iff.rfl
theorem aAdd_lst : aAdd (.lst ds) (.lst es) m Q ↔ (ds.length + es.length ≤ sizeLine ∧ Q (.lst (ds ++ es)) m) := by simp [aAdd, lst1]
theorem aSub_int : aSub (.int i) (.int j) m Q ↔ Q (.int (i - j)) m := Iff.rfl
theorem aMul_int : aMulA (.int i) (.int j) m Q ↔ (CMul i j ∧ Q (.int (i * j)) m) := Iff.rfl
theorem aDiv_int : aDiv (.int i) (.int j) m Q ↔ (CDiv i j ∧ Q (.int (i / j)) m) := Iff.rfl
theorem aMod_int : aMod (.int i) (.int j) m Q ↔ (0 < j ∧ Q (.int (i % j)) m) := Iff.rfl
theorem aPow_int : aPow (.int i) (.int j) m Q ↔ (CPow i j ∧ Q (.int (i ^ j.toNat)) m) := Iff.rfl
theorem aCmp_int {p : Int → Int → Bool} : aCmp p (.int i) (.int j) m Q ↔ Q (.bl (p i j)) m := Iff.rfl
theorem aMax_int : aMax [.int i, .int j] m Q ↔ Q (.int (max i j)) m := Iff.rfl
theorem aMin_int : aMin [.int i, .int j] m Q ↔ Q (.int (min i j)) m := Iff.rfl
theorem aTuple_lst : aTuple [.lst ds] m Q ↔ Q (.tup ds) m := by simp [aTuple, lstOf]
theorem aTuple_tup : aTuple [.tup ds] m Q ↔ Q (.tup ds) m := Iff.rfl
theorem aInt_bl : aInt [.bl b] m Q ↔ Q (.int (if b then 1 else 0)) m := Iff.rfl
theorem aInt_int : aInt [.int i] m Q ↔ Q (.int i) m := Iff.rfl
theorem aIx_tup : aIx (.tup ds) (.int i) m Q ↔ ∃ d, at_ ds i = some d ∧ Q d m := by simp [aIx, seqOf]
theorem aIx_lst : aIx (.lst ds) (.int i) m Q ↔ ∃ d, at_ ds i = some d ∧ Q d m := by simp [aIx, seqOf]
theorem aIx_pair : aIx (.pair ds) (.int i) m Q ↔ ∃ d, at_ ds i = some d ∧ Q d m := by simp [aIx, seqOf]
theorem aIx_scr : aIx (.scr ds) (.int i) m Q ↔ ∃ d, at_ ds i = some d ∧ Q d m := by simp [aIx, seqOf]
theorem aIx_ref {a : Addr} (h : m a = some (.lst ds)) : aIx (.ref a) (.int i) m Q ↔ ∃ d, at_ ds i = some d ∧ Q d m := by simp [aIx, seqOf, h]
theorem aLen_ref {a : Addr} (h : m a = some (.lst ds)) : aLen [.ref a] m Q ↔ Q (.int ds.length) m := by simp [aLen, seqOf, h]
theorem aTuple_ref {a : Addr} (h : m a = some (.lst ds)) : aTuple [.ref a] m Q ↔ Q (.tup ds) m := by simp [aTuple, lstOf, h]
theorem seqI_tup : seqI (.tup ds) = some ds := rfl
theorem seqI_lst : seqI (.lst ds) = some ds := rfl
theorem seqOf_tup : seqOf (.tup ds) m = some ds := rfl
theorem seqOf_lst : seqOf (.lst ds) m = some ds := rfl
theorem tyN_tup : tyN (.tup ds) m = some "tuple" := rfl
theorem tyN_lst : tyN (.lst ds) m = some "list" := rfl
theorem tyN_int : tyN (.int i) m = some "int" := rfl
theorem tyN_bl : tyN (.bl b) m = some "bool" := rfl
theorem tyN_str : tyN (.str x) m = some "str" := rfl
theorem tyN_non : tyN .non m = some "NoneType" := rfl
theorem at_0 : at_ ds 0 = ds[0]? := rfl
theorem at_1 : at_ ds 1 = ds[1]? := rfl
theorem at_2 : at_ ds 2 = ds[2]? := rfl
theorem at_3 : at_ ds 3 = ds[3]? := rfl
theorem at_n (n : Nat) : at_ ds (n : Int) = ds[n]? := by
  unfold at_
  rw [if_pos (Int.natCast_nonneg n), Int.toNat_natCast]
theorem sSeq_tup {P : List D → Prop} : (∃ es, (D.tup ds = .lst es ∨ D.tup ds = .tup es) ∧ P es) ↔ P ds := by simp
theorem sSeq_lst {P : List D → Prop} : (∃ es, (D.lst ds = .lst es ∨ D.lst ds = .tup es) ∧ P es) ↔ P ds := by simp
theorem isi_tt : isiB "tuple" "tuple" = true := rfl
end
end Mn

set_option linter.all false
set_option maxHeartbeats 4000000
set_option autoImplicit false
namespace Mn
open PySem L2
variable [Tbs]
local macro_rules | `(tactic| walk_at "d") => `(tactic| (try simp only [xNext, xSeq, xAsg, xRet, xRetF, xDrop, xIf, xPar, xPut, xAug, xFor, dVar, dC, dOp, dTest, dChain, dAndV, dOrV, dNotV, dAnd, dOr, dNot, dIf, dNil, dCons, dTup, dLst, dLstM, dCB, dIsi, dLc, dLcM, dYes, wipeD, sSeq, sSeq_tup, sSeq_lst, sRg1, sRg2, sZip2, sZip3, sEnum, gV, gN, gC, gT, tupOf_tup, tupOf_pair, aAdd_int, aAdd_tup, aAdd_lst, aSub_int, aMul_int, aDiv_int, aMod_int, aPow_int, aCmp_int, aIx_tup, aIx_lst, aIx_scr, aIx_pair, aMax_int, aMin_int, aInt_bl, aInt_int, aLen_tup, aLen_lst, aLen_scr, aLen_pair, aTuple_lst, aTuple_tup, aEq_int, aNe_int, startD, List.map_cons, List.map_nil, List.length_cons, List.length_nil, List.cons_append, List.nil_append, List.replicate_zero, List.replicate_succ, List.append_nil, List.getElem?_cons_zero, List.getElem?_cons_succ, List.set_cons_zero, List.set_cons_succ, Option.some.injEq, exists_eq_left', exists_eq_left, exists_eq', D.int.injEq, D.bl.injEq, D.tup.injEq, D.lst.injEq, D.pair.injEq, D.ref.injEq, List.cons.injEq, Nat.sub_self, Nat.zero_add, Nat.add_sub_cancel, seqI_tup, seqI_lst, seqOf_tup, seqOf_lst, tyN_tup, tyN_lst, tyN_int, tyN_bl, tyN_str, tyN_non, isi_tt, at_0, at_1, at_2, at_3, Option.map_some, true_and, and_true, if_true, Bool.false_eq_true, if_false, Bool.not_true, Bool.not_false, ↓reduceIte, Nat.reduceAdd, Nat.reduceSub, exists_and_left, and_assoc]))
/-! kinds of data -/
mutual
def refs : D → List (Option Addr)
  | .tup ds => refsL ds
  | .lst ds => refsL ds
  | .scr ds => refsL ds
  | .ref a => [some a]
  | .pair _ => [none]
  | _ => []
def refsL : List D → List (Option Addr)
  | [] => []
  | d :: ds => refs d ++ refsL ds
end
def Kn (m : Mu) (d : D) : Prop := ∀ x ∈ refs d, ∃ a, x = some a ∧ (tyN (.ref a) m).isSome = true
theorem refsL_mem {d : D} {a : Option Addr} : ∀ {ds : List D}, d ∈ ds → a ∈ refs d → a ∈ refsL ds
  | e :: ds, h, q => by
    rw [refsL, List.mem_append]
    rcases List.mem_cons.mp h with rfl | h
    · exact .inl q
    · exact .inr (refsL_mem h q)
theorem Kn.tup {m : Mu} {ds : List D} (h : Kn m (.tup ds)) {d : D} (hd : d ∈ ds) : Kn m d := fun a ha => h a (by rw [refs]; exact refsL_mem hd ha)
theorem Kn.ty {m : Mu} {d : D} (h : Kn m d) : ∃ t, tyN d m = some t := by
  cases d with
  | ref a =>
    obtain ⟨b, e, q⟩ := h (some a) (by simp [refs])
    cases e
    exact Option.isSome_iff_exists.mp q
  | pair ds =>
    obtain ⟨b, e, q⟩ := h none (by simp [refs])
    cases e
  | _ => exact ⟨_, rfl⟩
theorem Kn.of {m : Mu} {d : D} (h : refs d = []) : Kn m d := fun a ha => by rw [h] at ha; cases ha
def isIntD (d : D) : Bool := match d with
  | .int _ => true
  | _ => false
def isTupD (d : D) : Bool := match d with
  | .tup _ => true
  | _ => false
def toI (d : D) : Int := match d with
  | .int i => i
  | _ => 0
theorem isi_tup {d : D} {m : Mu} {t : String} (h : tyN d m = some t) : isiB t "tuple" = isTupD d := by
  cases d with
  | ref a =>
    simp only [tyN] at h
    split at h <;> first | (cases h; rfl) | cases h
  | pair ds => cases h
  | _ => cases h; rfl
theorem isi_int {d : D} {m : Mu} {t : String} (h : tyN d m = some t) : (isiB t "int" && !isiB t "bool") = isIntD d := by
  cases d with
  | ref a =>
    simp only [tyN] at h
    split at h <;> first | (cases h; rfl) | cases h
  | pair ds => cases h
  | _ => cases h; rfl
def s_is_integer : DSp := fun ds m Q => ∃ d, ds = [d] ∧ Kn m d ∧ Q (.bl (isIntD d)) m
theorem l_is_integer : ∀ ds m Q, s_is_integer ds m Q → ds.length = 1 := by rintro ds m Q ⟨d, rfl, _⟩; rfl
def t_is_integer : DS := (xRet (dAndV (dIsi "int" (dVar 0)) (dNotV (dIsi "bool" (dVar 0)))))
theorem v_is_integer : Body 1 t_is_integer s_is_integer := by
  rintro ds m Q ⟨d, rfl, ht, q⟩
  obtain ⟨t, et⟩ := ht.ty
  rw [← isi_int et] at q
  have hq := end_rt (m0 := m) q
  unfold t_is_integer
  simp only [xRet, dAndV, dNotV, dIsi, dVar]
  refine ⟨d, rfl, t, et, _, rfl, ?_⟩
  cases e : isiB t "int" with
  | true => rw [e] at hq; exact ⟨d, rfl, t, et, _, rfl, hq⟩
  | false => rw [e] at hq; exact hq
def betw (d : D) (lo hi : Int) : Bool := match d with
  | .int i => decide (lo ≤ i) && decide (i ≤ hi)
  | _ => false
def s_is_between : DSp := fun ds m Q => ∃ d lo hi, ds = [d, .int lo, .int hi] ∧ Kn m d ∧ Q (.bl (betw d lo hi)) m
theorem l_is_between : ∀ ds m Q, s_is_between ds m Q → ds.length = 3 := by rintro ds m Q ⟨d, lo, hi, rfl, _⟩; rfl
def t_is_between : DS := (xRet (dAndV (dCB s_is_integer (dCons (dVar 0) dNil)) (dChain aLe aLe (dVar 1) (dVar 0) (dVar 2))))
theorem v_is_between : Body 3 t_is_between s_is_between := by
  rintro ds m Q ⟨d, lo, hi, rfl, ht, q⟩
  unfold t_is_between
  walk_at "d"
  have hq := end_rt (m0 := m) q
  refine ⟨d, rfl, ht, _, rfl, ?_⟩
  cases d with
  | int i =>
    simp only [isIntD, ↓reduceIte, aCmp, D.bl.injEq, exists_eq_left']
    simp only [betw] at hq
    by_cases h1 : lo ≤ i
    · simpa only [h1, decide_true, Bool.true_and, ↓reduceIte] using hq
    · simpa only [h1, decide_false, Bool.false_and, Bool.false_eq_true, ↓reduceIte] using hq
  | _ => exact hq
/-! steps -/
theorem aAll_map {ds : List D} {p : D → Bool} {m : Mu} {Q : DK} (h : Q (.bl (ds.all p)) m) : aAll [.lst (ds.map fun d => .bl (p d))] m Q := by
  refine ⟨_, ds.map p, rfl, ?_, ?_⟩
  · simp only [lstOf, List.map_map]; rfl
  · rw [List.all_map]; exact h
def maxI : List Int → Int
  | [] => 0
  | n :: r => r.foldl max n
theorem nodup_erase (l : List Int) : l.eraseDups.Nodup := by
  generalize hn : l.length = n
  induction n using Nat.strongRecOn generalizing l with
  | _ n ih =>
    cases l with
    | nil => simp
    | cons a l =>
      rw [List.eraseDups_cons, List.nodup_cons]
      refine ⟨fun h => ?_, ih _ ?_ _ rfl⟩
      · rw [List.mem_eraseDups, List.mem_filter] at h
        simp at h
      · rw [← hn, List.length_cons]
        exact Nat.lt_succ_of_le (List.length_filter_le _ _)
def card (ns : List Int) : Int := ns.eraseDups.length
theorem card_of {out ns : List Int} (h : out.Nodup) (e : ∀ k, k ∈ out ↔ k ∈ ns) : (out.length : Int) = card ns := by
  unfold card
  have h2 : ns.eraseDups.Nodup := nodup_erase ns
  have : out.Perm ns.eraseDups := (List.perm_ext_iff_of_nodup h h2).mpr fun k => by rw [e k, List.mem_eraseDups]
  rw [this.length_eq]
def gbehind (st : D) (g : Int) : Int := match st with
  | .tup ds => if (ds.length : Int) = g ∧ ds.all (fun d => betw d 0 (g - 2)) = true then (if maxI (ds.map toI) = card (ds.map toI) - 1 then card (ds.map toI) else 0) else 0
  | _ => 0
def s_groups_behind : DSp := fun ds m Q => ∃ st g, ds = [st, .int g] ∧ 1 ≤ g ∧ g ≤ 1000 ∧ Kn m st ∧ Q (.int (gbehind st g)) m
theorem l_groups_behind : ∀ ds m Q, s_groups_behind ds m Q → ds.length = 2 := by rintro ds m Q ⟨d, lo, rfl, _⟩; rfl
def t_groups_behind : DS := (xSeq (xIf (dOr (dNot (dTest (dIsi "tuple" (dVar 0)))) (dTest (dOp aNe (dCB aLen (dCons (dVar 0) dNil)) (dVar 1)))) (xRet (dC (.int 0))) xNext)
  (xSeq (xIf (dNot (dTest (dCB aAll (dCons (dLc (sSeq (dVar 0)) [3] (gV 3) dYes (dCB s_is_between (dCons (dVar 3) (dCons (dC (.int 0)) (dCons (dOp aSub (dVar 1) (dC (.int 2))) dNil))))) dNil)))) (xRet (dC (.int 0))) xNext)
  (xSeq (xAsg (dLenSet (dVar 0)) (gV 2))
  (xRet (dIf (dTest (dOp aEq (dCB aMax (dCons (dVar 0) dNil)) (dOp aSub (dVar 2) (dC (.int 1))))) (dVar 2) (dC (.int 0)))))))
theorem ints_of_betw {lo hi : Int} : ∀ {ds : List D}, ds.all (fun d => betw d lo hi) = true → ds = (ds.map toI).map D.int
  | [], _ => rfl
  | d :: ds, h => by
    rw [List.all_cons, Bool.and_eq_true] at h
    rw [List.map_cons, List.map_cons, ← ints_of_betw h.2]
    cases d with
    | int i => rfl
    | _ => exact absurd h.1 (by simp [betw])
theorem v_groups_behind : Body 4 t_groups_behind s_groups_behind := by
  rintro ds m Q ⟨st, g, rfl, g1, g2, ht, q⟩
  have hq := end_rt (m0 := m) q
  obtain ⟨t, et⟩ := ht.ty
  unfold t_groups_behind
  cases st with
  | tup es =>
    walk_at "d"
    by_cases hl : (es.length : Int) = g
    · simp only [hl, decide_true, Bool.not_true, Bool.false_eq_true, ↓reduceIte]
      refine ⟨es, .inr rfl, by rw [sizeLine_eq]; omega, ?_⟩
      refine lcGo_map (fun d => .bl (betw d 0 (g - 2))) es [] _ (fun d hd K hK => ?_) ?_
      · walk_at "d"
        exact ⟨d, 0, g - 2, rfl, ht.tup hd, hK⟩
      · rw [List.nil_append]
        refine aAll_map ⟨_, rfl, ?_⟩
        cases hb : es.all fun d => betw d 0 (g - 2) with
        | false =>
          simp only [gbehind, hb, Bool.false_eq_true, and_false, ↓reduceIte] at hq
          simpa only [Bool.not_false, ↓reduceIte] using hq
        | true =>
          have ei := ints_of_betw hb
          simp only [Bool.not_true, Bool.false_eq_true, ↓reduceIte, dLenSet]
          simp only [gbehind, hl, hb, and_self, ↓reduceIte] at hq
          generalize es.map toI = ns at ei hq
          subst ei
          rw [List.length_map] at hl
          refine ⟨_, rfl, ns, rfl, by omega, fun out nd mem => ?_⟩
          walk_at "d"
          cases ns with
          | nil => rw [List.length_nil] at hl; omega
          | cons n r =>
            refine ⟨n, r, rfl, ?_⟩
            walk_at "d"
            rw [card_of nd mem]
            simp only [maxI] at hq
            by_cases hm : r.foldl max n = card (n :: r) - 1
            · simpa only [hm, decide_true, ↓reduceIte] using hq
            · simpa only [hm, decide_false, Bool.false_eq_true, ↓reduceIte] using hq
    · simp only [hl, decide_false, Bool.not_false, ↓reduceIte]
      simpa only [gbehind, hl, false_and, ↓reduceIte] using hq
  | _ =>
    have e2 := isi_tup et
    simp only [xSeq, xIf, dOr, dNot, dTest, dIsi, dVar]
    refine ⟨_, rfl, t, et, _, rfl, ?_⟩
    rw [e2]
    exact hq

/-! attributes -/
def stepsOk : Int → List D → Bool
  | _, [] => true
  | g, st :: r => decide (gbehind st g ≠ 0) && stepsOk (gbehind st g) r
def isAttr (d : D) : Bool := match d with
  | .tup [.int n, .tup steps] => decide (1 ≤ n) && decide (n ≤ 6) && decide (steps.length ≤ 3) && stepsOk n steps
  | _ => false
theorem foldl_max_le {b : Int} : ∀ (l : List Int) (n : Int), n ≤ b → (∀ x ∈ l, x ≤ b) → l.foldl max n ≤ b
  | [], n, h, _ => h
  | x :: l, n, h, hl => foldl_max_le l (max n x) (by have := hl x List.mem_cons_self; omega) fun y hy => hl y (List.mem_cons_of_mem _ hy)
theorem card_nn (ns : List Int) : 0 ≤ card ns := Int.natCast_nonneg _
theorem gbehind_lt {st : D} {g : Int} (h1 : 1 ≤ g) : 0 ≤ gbehind st g ∧ gbehind st g < g := by
  unfold gbehind
  cases st with
  | tup ds =>
    simp only
    by_cases h : (ds.length : Int) = g ∧ (ds.all fun d => betw d 0 (g - 2)) = true
    · rw [if_pos h]
      have ei := ints_of_betw h.2
      by_cases hm : maxI (ds.map toI) = card (ds.map toI) - 1
      · rw [if_pos hm]
        refine ⟨card_nn _, ?_⟩
        cases hn : ds.map toI with
        | nil => rw [hn] at ei; rw [ei] at h; simp at h; omega
        | cons n r =>
          rw [hn] at hm ei
          have al := h.2
          rw [ei] at al
          have le : r.foldl max n ≤ g - 2 := by
            refine foldl_max_le r n ?_ fun x hx => ?_
            · have := (List.all_eq_true.mp al) (.int n) (by simp)
              simp only [betw, Bool.and_eq_true, decide_eq_true_eq] at this
              exact this.2
            · have := (List.all_eq_true.mp al) (.int x) (by simp; exact .inr hx)
              simp only [betw, Bool.and_eq_true, decide_eq_true_eq] at this
              exact this.2
          simp only [maxI] at hm
          omega
      · rw [if_neg hm]; omega
    · rw [if_neg h]; omega
  | _ => simp only; omega
def s_is_attribute : DSp := fun ds m Q => ∃ d, ds = [d] ∧ Kn m d ∧ Q (.bl (isAttr d)) m
theorem l_is_attribute : ∀ ds m Q, s_is_attribute ds m Q → ds.length = 1 := by rintro ds m Q ⟨d, rfl, _⟩; rfl
def t_is_attribute : DS := (xSeq (xIf (dOr (dNot (dTest (dIsi "tuple" (dVar 0)))) (dOr (dTest (dOp aNe (dCB aLen (dCons (dVar 0) dNil)) (dC (.int 2)))) (dNot (dTest (dCB s_is_between (dCons (dOp aIx (dVar 0) (dC (.int 0))) (dCons (dC (.int 1)) (dCons (dC (.int 6)) dNil)))))))) (xRet (dC (.bl false))) xNext)
  (xSeq (xAsg (dVar 0) (gT 2 (gC (gV 2) (gC (gV 3) gN))))
  (xSeq (xIf (dOr (dNot (dTest (dIsi "tuple" (dVar 3)))) (dTest (dOp aGt (dCB aLen (dCons (dVar 3) dNil)) (dC (.int 3))))) (xRet (dC (.bl false))) xNext)
  (xSeq (xFor (sSeq (dVar 3)) (gV 1) (xSeq (xAsg (dCB s_groups_behind (dCons (dVar 1) (dCons (dVar 2) dNil))) (gV 2))
  (xIf (dTest (dOp aEq (dVar 2) (dC (.int 0)))) (xRet (dC (.bl false))) xNext)))
  (xRet (dC (.bl true)))))))
theorem v_is_attribute : Body 4 t_is_attribute s_is_attribute := by
  rintro ds m Q ⟨d, rfl, ht, q⟩
  have hq := end_rt (m0 := m) q
  obtain ⟨t, et⟩ := ht.ty
  unfold t_is_attribute
  cases d with
  | tup es =>
    walk_at "d"
    by_cases hl : es.length = 2
    · match es, hl with
      | [n, st], _ =>
        walk_at "d"
        rw [if_neg (by decide)]
        refine ⟨n, 1, 6, rfl, ht.tup (by simp), ?_⟩
        cases n with
        | int k =>
          cases hb : betw (.int k) 1 6 with
          | false =>
            have e : isAttr (.tup [.int k, st]) = false := by
              simp only [betw] at hb
              cases st with
              | tup ss => simp only [isAttr, hb, Bool.false_and]
              | _ => rfl
            rw [e] at hq
            exact ⟨false, rfl, hq⟩
          | true =>
            refine ⟨true, rfl, ?_⟩
            simp only [betw, Bool.and_eq_true, decide_eq_true_eq] at hb
            walk_at "d"
            obtain ⟨t2, et2⟩ := (ht.tup (d := st) (by simp)).ty
            refine ⟨t2, et2, ?_⟩
            rw [isi_tup et2]
            cases st with
            | tup ss =>
              simp only [isTupD]
              walk_at "d"
              by_cases h3 : ss.length ≤ 3
              · have n3 : ¬ (3 < (ss.length : Int)) := by omega
                simp only [n3, decide_false, Bool.false_eq_true, ↓reduceIte]
                have e : isAttr (.tup [.int k, .tup ss]) = stepsOk k ss := by simp [isAttr, hb.1, hb.2, h3]
                rw [e] at hq
                have hk : ∀ d ∈ ss, Kn m d := fun d hd => (ht.tup (d := .tup ss) (by simp)).tup hd
                refine ⟨ss, .inr rfl, ?_⟩
                clear e et et2 h3 n3 q ht
                have h1 := hb.1
                have h2 : k ≤ 1000 := by omega
                clear hb
                revert hq hk h1 h2
                generalize D.tup [.int k, .tup ss] = dd
                generalize (none : Option D) = o1
                generalize hall : D.tup ss = al
                clear hall
                induction ss generalizing k o1 with
                | nil => intro hq _ _ _; exact hq
                | cons s0 ss ih =>
                  intro hq hk h1 h2
                  simp only [forGo]
                  walk_at "d"
                  refine ⟨s0, k, rfl, h1, h2, hk s0 (by simp), ?_⟩
                  have hg := gbehind_lt (st := s0) h1
                  walk_at "d"
                  rw [stepsOk] at hq
                  by_cases hz : gbehind s0 k = 0
                  · simp only [hz, decide_true, ↓reduceIte]
                    simpa only [hz, ne_eq, not_true_eq_false, decide_false, Bool.false_and] using hq
                  · simp only [hz, decide_false, Bool.false_eq_true, ↓reduceIte]
                    simp only [ne_eq, hz, not_false_eq_true, decide_true, Bool.true_and] at hq
                    exact ih (gbehind s0 k) rfl (some s0) hq (fun d hd => hk d (by simp [hd])) (by omega) (by omega)
              · have n3 : 3 < (ss.length : Int) := by omega
                simp only [n3, decide_true, ↓reduceIte]
                have e : isAttr (.tup [.int k, .tup ss]) = false := by simp [isAttr, h3]
                rw [e] at hq
                exact hq
            | _ => exact hq
        | _ => exact ⟨false, rfl, hq⟩
    · have n2 : ¬ ((es.length : Int) = 2) := by omega
      simp only [n2, decide_false, Bool.not_false, ↓reduceIte]
      have e : isAttr (.tup es) = false := by
        match es, hl with
        | [], _ => rfl
        | [a], _ => cases a <;> rfl
        | a :: b :: c :: r, _ => cases a <;> cases b <;> rfl
      rw [e] at hq
      exact hq
  | _ =>
    have e2 := isi_tup et
    simp only [xSeq, xIf, dOr, dNot, dTest, dIsi, dVar]
    refine ⟨_, rfl, t, et, _, rfl, ?_⟩
    rw [e2]
    exact hq
/-! schemes -/
def prodI (ns : List Int) : Int := ns.foldl (fun a n => a * n) 1
def s_product_of : DSp := fun ds m Q => ∃ ns : List Int, ds = [.lst (ns.map D.int)] ∧ (∀ n ∈ ns, 0 ≤ n ∧ n ≤ 1000) ∧ ns.length ≤ 4 ∧ Q (.int (prodI ns)) m
theorem l_product_of : ∀ ds m Q, s_product_of ds m Q → ds.length = 1 := by rintro ds m Q ⟨d, rfl, _⟩; rfl
def t_product_of : DS := (xSeq (xAsg (dC (.int 1)) (gV 1))
  (xSeq (xFor (sSeq (dVar 0)) (gV 2) (xAsg (dOp aMulA (dVar 1) (dVar 2)) (gV 1)))
  (xRet (dVar 1))))
theorem v_product_of : Body 3 t_product_of s_product_of := by
  rintro ds m Q ⟨ns, rfl, hn, hl, q⟩
  have hq := end_rt (m0 := m) q
  unfold t_product_of
  walk_at "d"
  refine ⟨_, .inl rfl, ?_⟩
  unfold prodI at hq
  generalize (none : Option D) = o2
  generalize (1 : Int) = a at hq ⊢
  generalize D.lst (ns.map D.int) = al
  clear q hl
  induction ns generalizing a o2 with
  | nil =>
    simp only [List.map_nil, forGo]
    walk_at "d"
    exact hq
  | cons n ns ih =>
    simp only [List.map_cons, forGo]
    walk_at "d"
    have h := hn n (by simp)
    refine ⟨.inr ⟨by omega, by omega⟩, ih (fun x hx => hn x (by simp [hx])) (some (D.int n)) (a * n) hq⟩
def firstI (d : D) : Int := match d with
  | .tup (.int n :: _) => n
  | _ => 0
def isSch (d : D) : Bool := match d with
  | .tup as => decide (1 ≤ as.length) && decide (as.length ≤ 3) && as.all isAttr && decide (prodI (as.map firstI) ≤ 60)
  | _ => false
theorem isAttr_is {d : D} (h : isAttr d = true) : ∃ n ss, d = .tup [.int n, .tup ss] ∧ 1 ≤ n ∧ n ≤ 6 ∧ ss.length ≤ 3 := by
  unfold isAttr at h
  split at h
  · simp only [Bool.and_eq_true, decide_eq_true_eq] at h
    exact ⟨_, _, rfl, h.1.1.1, h.1.1.2, h.1.2⟩
  · cases h
def s_is_scheme : DSp := fun ds m Q => ∃ d, ds = [d] ∧ Kn m d ∧ Q (.bl (isSch d)) m
theorem l_is_scheme : ∀ ds m Q, s_is_scheme ds m Q → ds.length = 1 := by rintro ds m Q ⟨d, rfl, _⟩; rfl
def t_is_scheme : DS := (xSeq (xIf (dOr (dNot (dTest (dIsi "tuple" (dVar 0)))) (dNot (dTest (dChain aLe aLe (dC (.int 1)) (dCB aLen (dCons (dVar 0) dNil)) (dC (.int 3)))))) (xRet (dC (.bl false))) xNext)
  (xSeq (xIf (dNot (dTest (dCB aAll (dCons (dLc (sSeq (dVar 0)) [1] (gV 1) dYes (dCB s_is_attribute (dCons (dVar 1) dNil))) dNil)))) (xRet (dC (.bl false))) xNext)
  (xRet (dOp aLe (dCB s_product_of (dCons (dLc (sSeq (dVar 0)) [1] (gV 1) dYes (dOp aIx (dVar 1) (dC (.int 0)))) dNil)) (dC (.int 60))))))
theorem v_is_scheme : Body 2 t_is_scheme s_is_scheme := by
  rintro ds m Q ⟨d, rfl, ht, q⟩
  have hq := end_rt (m0 := m) q
  obtain ⟨t, et⟩ := ht.ty
  unfold t_is_scheme
  cases d with
  | tup as =>
    walk_at "d"
    by_cases h1 : 1 ≤ as.length
    · by_cases h2 : as.length ≤ 3
      · have e1 : (1 : Int) ≤ as.length := by omega
        have e2 : (as.length : Int) ≤ 3 := by omega
        simp only [e1, e2, decide_true, Bool.not_true, Bool.false_eq_true, ↓reduceIte]
        have hz : as.length ≤ sizeLine := by rw [sizeLine_eq]; omega
        refine ⟨as, .inr rfl, hz, lcGo_map (fun d => .bl (isAttr d)) as [] _ (fun d hd K hK => ?_) ?_⟩
        · walk_at "d"
          exact ⟨d, rfl, ht.tup hd, hK⟩
        rw [List.nil_append]
        refine aAll_map ⟨_, rfl, ?_⟩
        simp only [isSch, h1, h2, decide_true, Bool.true_and] at hq
        cases ha : as.all isAttr with
        | false =>
          simp only [ha, Bool.false_and] at hq
          simpa only [Bool.not_false, ↓reduceIte] using hq
        | true =>
          simp only [ha, Bool.true_and] at hq
          simp only [Bool.not_true, Bool.false_eq_true, ↓reduceIte]
          have hat : ∀ d ∈ as, ∃ n ss, d = .tup [.int n, .tup ss] ∧ 1 ≤ n ∧ n ≤ 6 ∧ ss.length ≤ 3 := fun d hd => isAttr_is (List.all_eq_true.mp ha d hd)
          refine ⟨as, .inr rfl, hz, lcGo_map (fun d => .int (firstI d)) as [] _ (fun d hd K hK => ?_) ?_⟩
          · obtain ⟨n, ss, rfl, _⟩ := hat d hd
            walk_at "d"
            exact hK
          rw [List.nil_append]
          refine ⟨as.map firstI, by rw [List.map_map]; rfl, fun n hn => ?_, by rw [List.length_map]; omega, ?_⟩
          · obtain ⟨d, hd, rfl⟩ := List.mem_map.mp hn
            obtain ⟨n, ss, rfl, b1, b2, _⟩ := hat d hd
            simp only [firstI]
            omega
          · walk_at "d"
            exact hq
      · have e1 : (1 : Int) ≤ as.length := by omega
        have e2 : ¬ (as.length : Int) ≤ 3 := by omega
        simp only [e1, e2, decide_true, decide_false, ↓reduceIte]
        walk_at "d"
        simpa only [isSch, h2, decide_false, Bool.and_false, Bool.false_and] using hq
    · have e1 : ¬ (1 : Int) ≤ as.length := by omega
      simp only [e1, decide_false]
      walk_at "d"
      simpa only [isSch, h1, decide_false, Bool.false_and] using hq
  | _ =>
    have e2 := isi_tup et
    simp only [xSeq, xIf, dOr, dNot, dTest, dIsi, dVar]
    refine ⟨_, rfl, t, et, _, rfl, ?_⟩
    rw [e2]
    exact hq
end Mn

set_option linter.all false
set_option maxHeartbeats 4000000
set_option autoImplicit false
set_option maxRecDepth 100000
namespace Mn
open PySem L2
variable [Tbs]
local macro_rules | `(tactic| walk_at "d") => `(tactic| (try simp only [xNext, xSeq, xAsg, xRet, xRetF, xDrop, xIf, xPar, xPut, xAug, xFor, dVar, dC, dOp, dTest, dChain, dAndV, dOrV, dNotV, dAnd, dOr, dNot, dIf, dNil, dCons, dTup, dLst, dLstM, dCB, dIsi, dLc, dLcM, dYes, wipeD, sSeq, sSeq_tup, sSeq_lst, sRg1, sRg2, sZip2, sZip3, sEnum, gV, gN, gC, gT, tupOf_tup, tupOf_pair, aAdd_int, aAdd_tup, aAdd_lst, aSub_int, aMul_int, aDiv_int, aMod_int, aPow_int, aCmp_int, aIx_tup, aIx_lst, aIx_scr, aIx_pair, aMax_int, aMin_int, aInt_bl, aInt_int, aLen_tup, aLen_lst, aLen_scr, aLen_pair, aTuple_lst, aTuple_tup, aEq_int, aNe_int, startD, List.map_cons, List.map_nil, List.length_cons, List.length_nil, List.cons_append, List.nil_append, List.replicate_zero, List.replicate_succ, List.append_nil, List.getElem?_cons_zero, List.getElem?_cons_succ, List.set_cons_zero, List.set_cons_succ, Option.some.injEq, exists_eq_left', exists_eq_left, exists_eq', D.int.injEq, D.bl.injEq, D.tup.injEq, D.lst.injEq, D.pair.injEq, D.ref.injEq, List.cons.injEq, Nat.sub_self, Nat.zero_add, Nat.add_sub_cancel, seqI_tup, seqI_lst, seqOf_tup, seqOf_lst, tyN_tup, tyN_lst, tyN_int, tyN_bl, tyN_str, tyN_non, isi_tt, at_0, at_1, at_2, at_3, Option.map_some, true_and, and_true, if_true, Bool.false_eq_true, if_false, Bool.not_true, Bool.not_false, ↓reduceIte, Nat.reduceAdd, Nat.reduceSub, exists_and_left, and_assoc]))

/-! schemes, in plain data -/
structure At where
  n : Nat
  ss : List (List Nat)
abbrev Sch := List At
def nD (k : Nat) : D := .int (k : Int)
def tD (l : List Nat) : D := .tup (l.map nD)
def At.enc (a : At) : D := .tup [nD a.n, .tup (a.ss.map tD)]
def encS (s : Sch) : D := .tup (s.map At.enc)
def Stp1 (g : Nat) (s : List Nat) (g' : Nat) : Prop := s.length = g ∧ g' < g ∧ (∀ x ∈ s, x < g') ∧ ∀ y, y < g' → y ∈ s
def stepsV : Nat → List (List Nat) → Prop
  | _, [] => True
  | g, s :: r => ∃ g', Stp1 g s g' ∧ stepsV g' r
def At.V (a : At) : Prop := 1 ≤ a.n ∧ a.n ≤ 6 ∧ a.ss.length ≤ 3 ∧ stepsV a.n a.ss
def prodN (l : List Nat) : Nat := l.foldl (fun a n => a * n) 1
def SchV (s : Sch) : Prop := 1 ≤ s.length ∧ s.length ≤ 3 ∧ (∀ a ∈ s, a.V) ∧ prodN (s.map At.n) ≤ 60
theorem maxI_of {ns : List Int} {b : Int} (h1 : ∀ x ∈ ns, x ≤ b) (h2 : b ∈ ns) : maxI ns = b := by
  cases ns with
  | nil => cases h2
  | cons n r =>
    have up : ∀ (l : List Int) (a : Int), a ≤ l.foldl max a ∧ ∀ x ∈ l, x ≤ l.foldl max a := by
      intro l
      induction l with
      | nil => intro a; exact ⟨Int.le_refl _, fun _ h => nomatch h⟩
      | cons y l ih =>
        intro a
        have := ih (max a y)
        simp only [List.foldl_cons]
        refine ⟨by omega, fun x hx => ?_⟩
        rcases List.mem_cons.mp hx with rfl | hx
        · omega
        · exact this.2 x hx
    have le := foldl_max_le r n (h1 n (by simp)) fun x hx => h1 x (by simp [hx])
    have ge := up r n
    simp only [maxI]
    rcases List.mem_cons.mp h2 with rfl | h2
    · omega
    · have := ge.2 b h2; omega
theorem toI_nD (l : List Nat) : (l.map nD).map toI = l.map (fun k : Nat => (k : Int)) := by
  rw [List.map_map]; rfl
theorem gbehind_step {g : Nat} {s : List Nat} {g' : Nat} (h : Stp1 g s g') (hg : 1 ≤ g) : gbehind (tD s) g = g' ∧ 1 ≤ g' := by
  obtain ⟨hl, hlt, hx, hy⟩ := h
  have g1 : 1 ≤ g' := by
    cases s with
    | nil => rw [List.length_nil] at hl; omega
    | cons a r => have := hx a (by simp); omega
  refine ⟨?_, g1⟩
  have hall : ((s.map nD).all fun d => betw d 0 ((g : Int) - 2)) = true := by
    rw [List.all_eq_true]
    intro d hd
    obtain ⟨k, hk, rfl⟩ := List.mem_map.mp hd
    have := hx k hk
    simp only [betw, nD, Bool.and_eq_true, decide_eq_true_eq]
    omega
  have hc : card (s.map fun k : Nat => (k : Int)) = g' := by
    have e := card_of (out := (List.range g').map fun k : Nat => (k : Int)) (ns := s.map fun k : Nat => (k : Int)) ?_ ?_
    · rw [← e, List.length_map, List.length_range]
    · exact List.Pairwise.map _ (fun a b h e => h (by omega)) List.nodup_range
    · intro k
      simp only [List.mem_map, List.mem_range]
      constructor
      · rintro ⟨a, ha, rfl⟩; exact ⟨a, hy a ha, rfl⟩
      · rintro ⟨a, ha, rfl⟩; exact ⟨a, hx a ha, rfl⟩
  have hm : maxI (s.map fun k : Nat => (k : Int)) = (g' : Int) - 1 := by
    refine maxI_of (fun x hx' => ?_) ?_
    · obtain ⟨a, ha, rfl⟩ := List.mem_map.mp hx'
      have := hx a ha
      omega
    · exact List.mem_map.mpr ⟨g' - 1, hy (g' - 1) (by omega), by omega⟩
  simp only [gbehind, tD]
  rw [if_pos ⟨by rw [List.length_map, hl], hall⟩, toI_nD, hc, hm, if_pos rfl]
theorem stepsOk_of : ∀ {ss : List (List Nat)} {g : Nat}, 1 ≤ g → stepsV g ss → stepsOk g (ss.map tD) = true
  | [], _, _, _ => rfl
  | s :: ss, g, hg, ⟨g', h1, h2⟩ => by
    obtain ⟨e, g1⟩ := gbehind_step h1 hg
    rw [List.map_cons, stepsOk, e, stepsOk_of g1 h2, Bool.and_true, decide_eq_true_eq]
    omega
theorem At.V.ok {a : At} (h : a.V) : isAttr a.enc = true := by
  obtain ⟨h1, h2, h3, h4⟩ := h
  simp only [At.enc, isAttr, nD, Bool.and_eq_true, decide_eq_true_eq, List.length_map]
  exact ⟨⟨⟨by omega, by omega⟩, h3⟩, stepsOk_of h1 h4⟩
theorem prod_cast : ∀ (l : List Nat) (a : Nat), (l.map fun k : Nat => (k : Int)).foldl (fun a n => a * n) (a : Int) = ((l.foldl (fun a n => a * n) a : Nat) : Int)
  | [], _ => rfl
  | n :: l, a => by
    rw [List.map_cons, List.foldl_cons, List.foldl_cons, ← prod_cast l (a * n)]
    rw [Int.natCast_mul]
theorem SchV.ok {s : Sch} (h : SchV s) : isSch (encS s) = true := by
  obtain ⟨h1, h2, h3, h4⟩ := h
  simp only [encS, isSch, Bool.and_eq_true, decide_eq_true_eq, List.length_map]
  refine ⟨⟨⟨h1, h2⟩, ?_⟩, ?_⟩
  · rw [List.all_eq_true]
    intro d hd
    obtain ⟨a, ha, rfl⟩ := List.mem_map.mp hd
    exact (h3 a ha).ok
  · rw [List.map_map]
    have e : (s.map (firstI ∘ At.enc)) = (s.map At.n).map fun k : Nat => (k : Int) := by rw [List.map_map]; rfl
    rw [e]
    have := prod_cast (s.map At.n) 1
    unfold prodI
    rw [show (1 : Int) = ((1 : Nat) : Int) from rfl, this]
    exact Int.ofNat_le.mpr h4
theorem refs_map {α : Type} {f : α → D} (h : ∀ x, refs (f x) = []) : ∀ l : List α, refsL (l.map f) = []
  | [] => by simp [refsL]
  | x :: l => by rw [List.map_cons, refsL, h x, refs_map h l]; rfl
theorem refs_tD (l : List Nat) : refs (tD l) = [] := by
  rw [tD, refs]; exact refs_map (fun x => by simp [nD, refs]) l
theorem refs_enc (a : At) : refs a.enc = [] := by
  simp only [At.enc, refs, refsL, nD, List.nil_append, List.append_nil]
  exact refs_map refs_tD a.ss
theorem refs_encS (s : Sch) : refs (encS s) = [] := by
  rw [encS, refs]; exact refs_map refs_enc s
theorem kn_encS (m : Mu) (s : Sch) : Kn m (encS s) := .of (refs_encS s)
theorem kn_tD (m : Mu) (l : List Nat) : Kn m (tD l) := .of (refs_tD l)
/-! rollups -/
def isRoll (s : Sch) (d : D) : Bool := match d with
  | .tup ls => decide (ls.length = s.length) && (List.zipWith (fun (a : At) l => betw l 0 a.ss.length) s ls).all id
  | _ => false
def s_is_rollup : DSp := fun ds m Q => ∃ s d, ds = [encS s, d] ∧ s.length ≤ 3 ∧ Kn m d ∧ Q (.bl (isRoll s d)) m
theorem l_is_rollup : ∀ ds m Q, s_is_rollup ds m Q → ds.length = 2 := by rintro ds m Q ⟨s, d, rfl, _⟩; rfl
def t_is_rollup : DS := (xSeq (xIf (dOr (dNot (dTest (dIsi "tuple" (dVar 1)))) (dTest (dOp aNe (dCB aLen (dCons (dVar 1) dNil)) (dCB aLen (dCons (dVar 0) dNil))))) (xRet (dC (.bl false))) xNext)
  (xRet (dCB aAll (dCons (dLc (sZip2 (dVar 0) (dVar 1)) [2, 3] (gT 2 (gC (gV 2) (gC (gV 3) gN))) dYes (dCB s_is_between (dCons (dVar 3) (dCons (dC (.int 0)) (dCons (dCB aLen (dCons (dOp aIx (dVar 2) (dC (.int 1))) dNil)) dNil))))) dNil))))
/-- over zip: the pairs -/
theorem lcGo_zip {α β : Type} {g : DG} {te : DT} {r : Ro} {m : Mu} {ea : α → D} {eb : β → D} (f : α → β → D) : ∀ (as : List α) (bs : List β) (acc : List D) (Q : List D → Mu → Prop),
    (∀ a ∈ as, ∀ b ∈ bs, ∀ K : DK, K (f a b) m → g (.pair [ea a, eb b]) r fun r1 => te r1 m K) → Q (acc ++ List.zipWith f as bs) m → lcGo g dYes te r (zip2 (as.map ea) (bs.map eb)) acc m Q
  | [], bs, acc, Q, _, h => by
    rw [List.zipWith_nil_left, List.append_nil] at h
    rw [List.map_nil, zip2, List.zipWith_nil_left]
    exact h
  | a :: as, [], acc, Q, _, h => by
    rw [List.zipWith_nil_right, List.append_nil] at h
    rw [List.map_nil, zip2, List.zipWith_nil_right]
    exact h
  | a :: as, b :: bs, acc, Q, hf, h => by
    rw [List.map_cons, List.map_cons, zip2, List.zipWith_cons_cons]
    show g (.pair [ea a, eb b]) r fun r1 => te r1 m fun y m2 => lcGo g dYes te r (zip2 (as.map ea) (bs.map eb)) (acc ++ [y]) m2 Q
    refine hf a List.mem_cons_self b List.mem_cons_self _ ?_
    refine lcGo_zip f as bs (acc ++ [f a b]) Q (fun x hx y hy => hf x (List.mem_cons_of_mem _ hx) y (List.mem_cons_of_mem _ hy)) ?_
    rw [List.append_assoc]
    exact h
theorem aAll_list {bs : List Bool} {m : Mu} {Q : DK} (h : Q (.bl (bs.all id)) m) : aAll [.lst (bs.map D.bl)] m Q := ⟨_, bs, rfl, rfl, h⟩
theorem zip2_len (xs ys : List D) : (zip2 xs ys).length = min xs.length ys.length := List.length_zipWith
theorem map_zipWith' {α β γ δ : Type} (f : γ → δ) (g : α → β → γ) : ∀ (xs : List α) (ys : List β), List.zipWith (fun a b => f (g a b)) xs ys = (List.zipWith g xs ys).map f
  | [], _ => by simp
  | _ :: _, [] => by simp
  | x :: xs, y :: ys => by rw [List.zipWith_cons_cons, List.zipWith_cons_cons, List.map_cons, map_zipWith' f g xs ys]
theorem small {n k : Nat} (h : n ≤ k) (hk : k ≤ 16777216 := by decide) : n ≤ sizeLine := by rw [sizeLine_eq]; omega
theorem v_is_rollup : Body 4 t_is_rollup s_is_rollup := by
  rintro ds m Q ⟨s, d, rfl, hs, ht, q⟩
  have hq := end_rt (m0 := m) q
  obtain ⟨t, et⟩ := ht.ty
  unfold t_is_rollup
  cases d with
  | tup ls =>
    unfold encS
    walk_at "d"
    rw [List.length_map]
    by_cases hl : ls.length = s.length
    · have e1 : (ls.length : Int) = s.length := by omega
      simp only [e1, decide_true, Bool.not_true, Bool.false_eq_true, ↓reduceIte]
      refine ⟨by rw [zip2_len, List.length_map]; exact small (k := 3) (by omega), ?_⟩
      have z := lcGo_zip (g := gT 2 (gC (gV 2) (gC (gV 3) gN))) (te := (dCB s_is_between (dCons (dVar 3) (dCons (dC (.int 0)) (dCons (dCB aLen (dCons (dOp aIx (dVar 2) (dC (.int 1))) dNil)) dNil))))) (r := [some (.tup (s.map At.enc)), some (.tup ls), none, none]) (m := m) (ea := At.enc) (eb := id) (fun (a : At) l => .bl (betw l 0 a.ss.length)) s ls []
        (fun acc m2 => aAll [.lst acc] m2 (endD m Q).rt) (fun a ha l hl2 K hK => ?_) ?_
      · rw [List.map_id] at z
        exact z
      · simp only [At.enc, id_eq]
        walk_at "d"
        rw [List.length_map]
        exact ⟨l, 0, a.ss.length, rfl, ht.tup hl2, hK⟩
      · rw [List.nil_append, map_zipWith' D.bl]
        refine aAll_list ?_
        simpa only [isRoll, hl, decide_true, Bool.true_and] using hq
    · have e1 : ¬ (ls.length : Int) = s.length := by omega
      simp only [e1, decide_false, Bool.not_false, ↓reduceIte]
      simpa only [isRoll, hl, decide_false, Bool.false_and] using hq
  | _ =>
    have e2 := isi_tup et
    simp only [xSeq, xIf, dOr, dNot, dTest, dIsi, dVar]
    refine ⟨_, rfl, t, et, _, rfl, ?_⟩
    rw [e2]
    exact hq
def fineB (a b : List Nat) : Bool := (List.zipWith (fun x y => decide (x ≤ y)) a b).all id
/-! what is needed -/
def s_need_scheme : DSp := fun ds m Q => ∃ s, ds = [encS s] ∧ SchV s ∧ Q .non m
theorem l_need_scheme : ∀ ds m Q, s_need_scheme ds m Q → ds.length = 1 := by rintro ds m Q ⟨s, rfl, _⟩; rfl
def t_need_scheme : DS := (xIf (dNot (dTest (dCB s_is_scheme (dCons (dVar 0) dNil)))) xNever xNext)
theorem v_need_scheme : Body 1 t_need_scheme s_need_scheme := by
  rintro ds m Q ⟨s, rfl, hs, q⟩
  unfold t_need_scheme
  walk_at "d"
  refine ⟨_, rfl, kn_encS m s, _, rfl, ?_⟩
  rw [hs.ok]
  exact end_nx q
def Roll (s : Sch) (r : List Nat) : Prop := isRoll s (tD r) = true
theorem Roll.len {s : Sch} {r : List Nat} (h : Roll s r) : r.length = s.length := by
  simp only [Roll, tD, isRoll, Bool.and_eq_true, decide_eq_true_eq, List.length_map] at h
  exact h.1
def s_need_rollup : DSp := fun ds m Q => ∃ s r, ds = [encS s, tD r] ∧ s.length ≤ 3 ∧ Roll s r ∧ Q .non m
theorem l_need_rollup : ∀ ds m Q, s_need_rollup ds m Q → ds.length = 2 := by rintro ds m Q ⟨s, r, rfl, _⟩; rfl
def t_need_rollup : DS := (xIf (dNot (dTest (dCB s_is_rollup (dCons (dVar 0) (dCons (dVar 1) dNil))))) xNever xNext)
theorem v_need_rollup : Body 2 t_need_rollup s_need_rollup := by
  rintro ds m Q ⟨s, r, rfl, hs, hr, q⟩
  unfold t_need_rollup
  walk_at "d"
  refine ⟨s, _, rfl, hs, kn_tD m r, _, rfl, ?_⟩
  rw [hr]
  exact end_nx q
end Mn

set_option linter.all false
set_option maxHeartbeats 4000000
set_option autoImplicit false
set_option maxRecDepth 100000
namespace Mn
open PySem L2
variable [Tbs]
local macro_rules | `(tactic| walk_at "d") => `(tactic| (try simp only [xNext, xSeq, xAsg, xRet, xRetF, xDrop, xIf, xPar, xPut, xAug, xFor, dVar, dC, dOp, dTest, dChain, dAndV, dOrV, dNotV, dAnd, dOr, dNot, dIf, dNil, dCons, dTup, dLst, dLstM, dCB, dIsi, dLc, dLcM, dYes, wipeD, sSeq, sSeq_tup, sSeq_lst, sRg1, sRg2, sZip2, sZip3, sEnum, gV, gN, gC, gT, aAdd_int, aAdd_tup, aAdd_lst, aSub_int, aMul_int, aDiv_int, aMod_int, aPow_int, aCmp_int, aIx_tup, aIx_lst, aIx_scr, aMax_int, aMin_int, aInt_bl, aInt_int, aLen_tup, aLen_lst, aLen_scr, aTuple_lst, aTuple_tup, aEq_int, aNe_int, startD, List.map_cons, List.map_nil, List.length_cons, List.length_nil, List.cons_append, List.nil_append, List.replicate_zero, List.replicate_succ, List.append_nil, List.getElem?_cons_zero, List.getElem?_cons_succ, List.set_cons_zero, List.set_cons_succ, Option.some.injEq, exists_eq_left', exists_eq_left, exists_eq', D.int.injEq, D.bl.injEq, D.tup.injEq, D.lst.injEq, D.ref.injEq, List.cons.injEq, Nat.sub_self, Nat.zero_add, Nat.add_sub_cancel, seqI_tup, seqI_lst, seqOf_tup, seqOf_lst, tyN_tup, tyN_lst, tyN_int, tyN_bl, tyN_str, tyN_non, isi_tt, at_0, at_1, at_2, at_3, Option.map_some, true_and, and_true, if_true, Bool.false_eq_true, if_false, Bool.not_true, Bool.not_false, ↓reduceIte, Nat.reduceAdd, Nat.reduceSub, exists_and_left, and_assoc]))
/-! small data: pure, shallow, short when shown -/
def Sm (d : D) (k n : Nat) : Prop := pur d = true ∧ (py d).canLay0 = true ∧ (py d).depth ≤ k ∧ (py d).showable = true ∧ (py d).shown.length ≤ n
theorem Sm.mono {d : D} {k n k' n' : Nat} (h : Sm d k n) (hk : k ≤ k') (hn : n ≤ n') : Sm d k' n' := ⟨h.1, h.2.1, by have := h.2.2.1; omega, h.2.2.2.1, by have := h.2.2.2.2; omega⟩
theorem sm_int {i : Int} (h : i.natAbs < 10 ^ 18) : Sm (.int i) 0 20 := by
  refine ⟨rfl, rfl, Nat.zero_le _, ?_, ?_⟩
  · show decide (i.natAbs.log2 < 1920) = true
    rw [decide_eq_true_eq]
    by_cases h0 : i.natAbs = 0
    · rw [h0]; decide
    · rw [Nat.log2_lt h0]
      exact Nat.lt_of_lt_of_le (Nat.lt_trans h (show 10 ^ 18 < 2 ^ 64 by decide)) (Nat.pow_le_pow_right (by decide) (by decide))
  · show (Str.ofString (toString i)).length ≤ 20
    have := int_text_length_le10 (k := 18) (by decide) h
    rw [ofString_length]; omega
theorem textFrom_le : ∀ (ts : List Str) (k : Nat) (acc : Str), (textFrom k acc ts).length ≤ acc.length + piled ts
  | [], k, acc => by show acc.length ≤ _; omega
  | t :: r, k, acc => by
    have h := textFrom_le r (k + 1) (acc ++ (if k > 0 then ", " else "" : String) ++ t)
    have e : (acc ++ (if k > 0 then ", " else "" : String) ++ t).length ≤ acc.length + 2 + t.length := by
      rw [strLen_append, strLen_append]
      have : (((if k > 0 then ", " else "" : String) : Str)).length ≤ 2 := by split <;> decide
      omega
    show (textFrom (k + 1) _ r).length ≤ _
    rw [piled_cons]
    omega
theorem piled_le {n : Nat} : ∀ {ts : List Str}, (∀ t ∈ ts, t.length ≤ n) → piled ts ≤ ts.length * (n + 2)
  | [], _ => by simp [piled]
  | t :: r, h => by
    have h1 := h t (by simp)
    have h2 := piled_le (ts := r) fun u hu => h u (by simp [hu])
    rw [piled_cons, List.length_cons, Nat.add_mul]
    omega
theorem listText_le (ts : List Str) : (listText ts).length ≤ piled ts + 3 := by
  unfold listText
  rw [strLen_append]
  have := textFrom_le ts 0 "["
  have e : ((("[" : String) : Str)).length = 1 := rfl
  have e2 : ((("]" : String) : Str)).length = 1 := rfl
  omega
theorem tupleText_le (ts : List Str) : (tupleText ts).length ≤ piled ts + 3 := by
  unfold tupleText
  rw [strLen_append, strLen_append]
  have e1 : ((("(" : String) : Str)).length = 1 := rfl
  have e3 : (((if ts.length == 1 then ",)" else ")" : String) : Str)).length ≤ 2 := by split <;> decide
  by_cases h : ts = []
  · subst h
    have : (Str.join ", " ([] : List Str)).length = 0 := rfl
    omega
  · have := join_length_add ts h
    omega
theorem sm_all {k n : Nat} : ∀ {ds : List D}, (∀ d ∈ ds, Sm d k n) → purL ds = true ∧ PyData.canLayAll0 (pyL ds) = true ∧ PyData.depthAll (pyL ds) ≤ k ∧ PyData.showableAll (pyL ds) = true ∧ (∀ t ∈ PyData.shownAll (pyL ds), t.length ≤ n) ∧ (PyData.shownAll (pyL ds)).length = ds.length
  | [], _ => ⟨rfl, rfl, Nat.zero_le _, rfl, (fun _ h => nomatch h), rfl⟩
  | d :: ds, h => by
    obtain ⟨a1, a2, a3, a4, a5⟩ := h d (by simp)
    obtain ⟨b1, b2, b3, b4, b5, b6⟩ := sm_all (ds := ds) fun x hx => h x (by simp [hx])
    refine ⟨?_, ?_, ?_, ?_, ?_, ?_⟩
    · rw [purL, a1, b1]; rfl
    · rw [pyL, PyData.canLayAll0, a2, b2]; rfl
    · rw [pyL, PyData.depthAll]; omega
    · rw [pyL, PyData.showableAll, a4, b4]; rfl
    · rw [pyL, PyData.shownAll]
      intro t ht
      rcases List.mem_cons.mp ht with rfl | ht
      · exact a5
      · exact b5 t ht
    · rw [pyL, PyData.shownAll, List.length_cons, List.length_cons, b6]
theorem sm_lst {k n : Nat} {ds : List D} (h : ∀ d ∈ ds, Sm d k n) : Sm (.lst ds) (k + 1) (ds.length * (n + 2) + 3) := by
  obtain ⟨b1, b2, b3, b4, b5, b6⟩ := sm_all h
  refine ⟨by rw [pur]; exact b1, by rw [py, PyData.canLay0]; exact b2, by rw [py, PyData.depth]; omega, by rw [py, PyData.showable]; exact b4, ?_⟩
  rw [py, PyData.shown]
  have := listText_le (PyData.shownAll (pyL ds))
  have := piled_le b5
  rw [b6] at this
  omega
theorem sm_tup {k n : Nat} {ds : List D} (h : ∀ d ∈ ds, Sm d k n) : Sm (.tup ds) (k + 1) (ds.length * (n + 2) + 3) := by
  obtain ⟨b1, b2, b3, b4, b5, b6⟩ := sm_all h
  refine ⟨by rw [pur]; exact b1, by rw [py, PyData.canLay0]; exact b2, by rw [py, PyData.depth]; omega, by rw [py, PyData.showable]; exact b4, ?_⟩
  rw [py, PyData.shown]
  have := tupleText_le (PyData.shownAll (pyL ds))
  have := piled_le b5
  rw [b6] at this
  omega
theorem pyM_of {d : D} (h : pur d = true) (m : Mu) : pyM d m = py d ∧ purM d m = pur d := by
  cases d <;> first | exact ⟨rfl, rfl⟩ | cases h
theorem Sm.ok {d : D} {k n : Nat} (h : Sm d k n) (hk : k ≤ 64) (m : Mu) : okD d m := by
  obtain ⟨e1, e2⟩ := pyM_of h.1 m
  refine ⟨by rw [e2]; exact h.1, ?_⟩
  rw [e1, SeqAt.shaped, h.2.1, Bool.true_and, decide_eq_true_eq]
  have := h.2.2.1
  omega
theorem Sm.shows {d : D} {k n : Nat} (h : Sm d k n) (hk : k ≤ 60) (hn : n ≤ 16777216) (m : Mu) : purM d m = true ∧ Shows (pyM d m) := by
  obtain ⟨e1, e2⟩ := pyM_of h.1 m
  refine ⟨by rw [e2]; exact h.1, ?_⟩
  rw [e1]
  refine ⟨h.2.2.2.1, PyData.hasDict_of_canLay _ h.2.1, by have := h.2.2.1; omega, ?_⟩
  have := h.2.2.2.2
  show _ ≤ 2 ^ 24
  omega
end Mn

set_option Elab.async false
set_option linter.all false
set_option maxRecDepth 100000
set_option maxHeartbeats 4000000
set_option autoImplicit false
namespace Mn
open PySem PySem.Spec PyProof.Rows L2
variable [Tbs]
/-! slices -/
abbrev DO := Ro → Mu → (Option Int → Mu → Prop) → Prop
def oNone : DO := fun _ m Q => Q none m
def oSome (t : DT) : DO := fun r m Q => t r m fun d m1 => ∃ i, d = .int i ∧ Q (some i) m1
def cutD (ds : List D) (lo hi : Option Int) : List D := (ds.drop (HT.sIx ds.length 0 lo)).take (HT.sIx ds.length ds.length hi - HT.sIx ds.length 0 lo)
def aSl (d : D) (l h : Option Int) (m : Mu) (Q : DK) : Prop := match d with
  | .tup ds => Q (.tup (cutD ds l h)) m
  | .lst ds => Q (.lst (cutD ds l h)) m
  | .str z => z.length ≤ sizeLine ∧ Q (.str (cutS z l h)) m
  | .ref a => ∃ ds, m a = some (.lst ds) ∧ Q (.lst (cutD ds l h)) m
  | _ => False
def dSlice (ta : DT) (lo hi : DO) : DT := fun r m Q => ta r m fun d m1 => lo r m1 fun l m2 => hi r m2 fun h m3 => aSl d l h m3 Q
section
variable {X : Cx} {a b e : Expr} {ta tb te : DT} {lo hi : Option Expr} {tl th : DO} {pos p2 : Pos}
/-! -x -/
def dNeg (t : DT) : DT := fun r m Q => t r m fun d m1 => ∃ i, d = .int i ∧ Q (.int (-i)) m1
theorem pd_neg (h : PD X a ta) : PD X (.UnaryOp .USub a pos) (dNeg ta) := by
  refine peM (pe_un un_neg h) fun s H Q ⟨G, ro, m, Qd, hs, hr, q, w⟩ => ?_
  refine ⟨G, ro, m, _, hs, hr, q, fun v H1 G1 m1 d s1 r1 h1 ⟨i, e1, q1⟩ => ?_⟩
  subst e1
  cases h1
  exact ⟨i, rfl, w _ _ _ _ _ s1 r1 (.int _) q1⟩
end
end Mn

set_option Elab.async false
set_option linter.all false
set_option maxRecDepth 100000
set_option maxHeartbeats 4000000
set_option autoImplicit false
namespace Mn
open PySem PySem.Spec PyProof.Rows L2
variable [Tbs]
theorem _root_.L2.Room.u1 {k : Nat} {A : Around} (r : Room k A) : A.units + 1 < cLine := by have := r.un; omega
/-! a mutable list read for the last time as such: from there on it does not change -/
def dFrz (i : Nat) : DT := fun r m Q => ∃ p ds, r[i]? = some (some (.ref p)) ∧ m p = some (.lst ds) ∧ Q (.lst ds) (er m p)
section
variable {X : Cx} {a b e o : Expr} {ta tb te to : DT} {es : List Expr} {tr : DA} {pos p2 apos cpos : Pos}
theorem pd_frz {i : Nat} {x : Str} {p : Pos} (h : PE X (.Name x p) (tVar i)) : PD X (.Name x p) (dFrz i) := by
  refine peM h fun s H Q ⟨G, r, m, Qd, hs, hr, ⟨a, ds, e1, e2, q⟩, w⟩ => ?_
  obtain ⟨v, ev, rv⟩ := hs.get i _ e1
  cases rv
  obtain ⟨G', rl, st, rp⟩ := hr.freeze e2
  exact ⟨.ref a, ev, w _ _ _ _ _ st rl rp q⟩
/-! displays with stars -/
def dStar (te : DT) (tr : DA) : DA := fun r m Q => te r m fun d m1 => ∃ xs, seqOf d m1 = some xs ∧ tr r m1 fun ys m2 => Q (xs ++ ys) m2
theorem pda_star {p : Pos} (he : PD X e te) (hr : PDA X es tr) (hs : starEach (.Starred e p :: es) X.env = (true, eval e X.env) :: starEach es X.env := by rfl) : PDA X (.Starred e p :: es) (dStar te tr) := by
  refine paM (StX.pa_star he hr hs) fun s H Q ⟨G, ro, m, Qd, hs, hr, q, w⟩ => ?_
  refine ⟨G, ro, m, _, hs, hr, q, fun v H1 G1 m1 d s1 r1 h1 ⟨xs, e1, q1⟩ => ?_⟩
  obtain ⟨a, vs, ev, hq, hv, hz⟩ := seq_is r1 h1 e1
  refine ⟨a, vs, ev, hq.symm, G1, ro, m1, _, hs.same s1.g, r1, q1, fun us H2 G2 m2 ds s2 r2 h2 q2 => ?_⟩
  exact w _ _ _ _ _ (s1.trans s2) r2 ((hv.same s2.g).app h2) q2
/-! xs.extend(ys) -/
def dExtend (to te : DT) : DT := fun r m Q => to r m fun o m1 => ∃ p ds0, o = .ref p ∧ m1 p = some (.lst ds0) ∧ te r m1 fun d m2 => ∃ ds es, m2 p = some (.lst ds) ∧ lst1 d m2 = some es ∧ ds.length + es.length ≤ sizeLine ∧ Q .non (up m2 p (.lst (ds ++ es)))
theorem pd_extend (ho : PD X o to) (he : PD X e te) (hs : starEach [e] X.env = (false, eval e X.env) :: starEach [] X.env := by rfl) (hbase : attributeBase o "extend" X.env (eval o X.env) = eval o X.env := by rfl)
    (hfew : ((backTo cpos (starEach [e] X.env)).all (fun x => !x.1) && (backToKw cpos (keywordEach [] X.env)).all (fun x => x.1.isSome)
      && decide ([e].length + ([] : List Keyword).length + (if ([] : List Keyword).isEmpty then 0 else 1) < 30)) = true := by rfl)
    (hline : (apos.endLine == cpos.line) = true := by rfl) (hplain : (backTo cpos (starEach [] X.env)).any (·.1) = false := by rfl) :
    PD X (.Call (.Attribute o "extend" apos) [e] [] cpos) (dExtend to te) := by
  refine peM (pe_bm PySem.F.plainAttrs_list PySem.F.slot_list_extend PySem.F.type_list_extend mt_extend ho (pa_cons he pa_nil hs) hbase hfew hline hs hplain) fun s H Q ⟨G, ro, m, Qd, hs, hr, q, w⟩ => ?_
  refine ⟨G, ro, m, _, hs, hr, q, fun v H1 G1 m1 d s1 r1 h1 ⟨p, ds0, e1, e2, q1⟩ => ?_⟩
  subst e1
  cases h1
  refine ⟨tyV_ref r1 e2, G1, ro, m1, _, hs.same s1.g, r1, q1, fun v2 H2 G2 m2 d2 s2 r2 h2 ⟨ds, es, e3, e4, z, q2⟩ => ?_⟩
  obtain ⟨_, x, hx, us, ex, ru, z2⟩ := r2.mu p _ e3
  subst ex
  obtain ⟨b, vs, rfl, hb, rv, z3⟩ := lst1_is r2 h2 e4
  obtain ⟨r4, s4⟩ := r2.put e3 (o := .lst (us ++ vs)) (u := .lst (ds ++ es)) ⟨_, rfl, ru.app rv, by rw [List.length_append]; exact z⟩
  exact ⟨p, b, us, vs, rfl, rfl, hx, hb, by rw [← ru.len, ← rv.len]; exact z, w _ _ _ _ _ ((s1.trans s2).trans s4) r4 .non q2⟩
/-! t.count(k) of whole numbers -/
def dCountT (to te : DT) : DT := fun r m Q => to r m fun o m1 => ∃ ns : List Int, o = .tup (ns.map D.int) ∧ te r m1 fun d m2 => ∃ k, d = .int k ∧ Q (.int (ns.count k : Nat)) m2
def dIndexT (to te : DT) : DT := fun r m Q => to r m fun o m1 => ∃ ns : List Int, o = .tup (ns.map D.int) ∧ te r m1 fun d m2 => ∃ k j, d = .int k ∧ ns[j]? = some k ∧ (∀ i, i < j → ns[i]? ≠ some k) ∧ Q (.int (j : Nat)) m2
/-! l.index(x) -/
end
end Mn

set_option Elab.async false
set_option linter.all false
set_option maxRecDepth 100000
set_option maxHeartbeats 4000000
set_option autoImplicit false
namespace Mn
open PySem PySem.Spec PyProof.Rows L2
variable [Tbs]
/-! comprehensions with two fors -/
def lcIn (g : DG) (tt : DB) (te : DT) (r : Ro) : List D → List D → Mu → (List D → Mu → Prop) → Prop
  | [], acc, m, Q => Q acc m
  | d :: ds, acc, m, Q => g d r fun r1 => tt r1 m fun b m1 => if b = true then te r1 m1 fun y m2 => acc.length < sizeLine ∧ lcIn g tt te r ds (acc ++ [y]) m2 Q else lcIn g tt te r ds acc m1 Q
def lcGo2 (g : DG) (tt : DB) (src1 : DI) (vs1 : List Nat) (g1 : DG) (tt1 : DB) (te : DT) (r : Ro) : List D → List D → Mu → (List D → Mu → Prop) → Prop
  | [], acc, m, Q => Q acc m
  | d :: ds, acc, m, Q => g d r fun r1 => tt r1 m fun b m1 => if b = true then src1 r1 m1 fun items m2 => lcIn g1 tt1 te (wipeD r1 vs1) items acc m2 fun acc' m3 => lcGo2 g tt src1 vs1 g1 tt1 te r ds acc' m3 Q else lcGo2 g tt src1 vs1 g1 tt1 te r ds acc m1 Q
def dLc2 (src : DI) (vs : List Nat) (g : DG) (tt : DB) (src1 : DI) (vs1 : List Nat) (g1 : DG) (tt1 : DB) (te : DT) : DT := fun r m Q => src r m fun items m1 => lcGo2 g tt src1 vs1 g1 tt1 te (wipeD r vs) items [] m1 fun acc m2 => Q (.lst acc) m2
section
variable {X : Cx} {elt tg iter tg1 iter1 : Expr} {ifs ifs1 : List Expr} {scope : Scope} {own : List (Str × Nat)} {pos : Pos} {src src1 : DI} {g g1 : TG} {dg dg1 : DG} {tt tt1 : DB} {te : DT}
/-- where a comprehension stands: its list at D is neither fixed nor told -/
structure LcAt (K : KF) (G1 H1 : Hp) (m1 : Mu) (D : Addr) (G' H' : Hp) (m' : Mu) (us : List V) (acc : List Mn.D) : Prop where
  st : Stp G1 H1 m1 G' H' m'
  rl : Rl K G' H' m'
  hD : H' D = some (.lst us)
  gD : G' D = none
  mD : m' D = none
  ra : RpL K G' acc us
  la : acc.length ≤ sizeLine
theorem LcAt.step {K : KF} {G1 H1 G' H' G2 H2 : Hp} {m1 m' m2 : Mu} {D : Addr} {us : List V} {acc : List Mn.D} (h : LcAt K G1 H1 m1 D G' H' m' us acc) (s : Stp G' H' m' G2 H2 m2) (r : Rl K G2 H2 m2) : LcAt K G1 H1 m1 D G2 H2 m2 us acc := by
  obtain ⟨a, b, c⟩ := s.fr D _ h.hD h.gD h.mD (fun _ z => nomatch z)
  exact ⟨h.st.trans s, r, a, b, c, h.ra.same s.g, h.la⟩
theorem LcAt.push {K : KF} {G1 H1 G' H' : Hp} {m1 m' : Mu} {D : Addr} {us : List V} {acc : List Mn.D} (h : LcAt K G1 H1 m1 D G' H' m' us acc) (hD : H1 D = none) {y : V} {d : Mn.D} (ry : Rp K G' d y) (hl : acc.length < sizeLine) :
    LcAt K G1 H1 m1 D G' (upd H' D (.lst (us ++ [y]))) m' (us ++ [y]) (acc ++ [d]) := by
  refine ⟨⟨h.st.g, fun b o e1 e2 e3 nt => ?_, fun b o e => ?_⟩, h.rl.hid h.gD h.mD (.inr ⟨_, h.hD⟩) _, upd_same, h.gD, h.mD, h.ra.app (.cons ry .nil), by rw [List.length_append, List.length_singleton]; omega⟩
  · by_cases hb : b = D
    · rw [hb, hD] at e1; cases e1
    · obtain ⟨z1, z2, z3⟩ := h.st.fr b o e1 e2 e3 nt
      rw [upd_ne hb]; exact ⟨z1, z2, z3⟩
  · obtain ⟨o', z⟩ := h.st.up b o e
    by_cases hb : b = D
    · exact ⟨_, by rw [hb]; exact upd_same⟩
    · exact ⟨o', by rw [upd_ne hb]; exact z⟩
theorem lc2_data {vs vs1 : List Nat} (gc : GC X.kf g dg vs) (gc1 : GC X.kf g1 dg1 vs1) {s : L2.St} {H : Hp} {Q : VK} {QL : List D → Mu → Prop} {G : Hp} {r : Ro} {m : Mu} (hs : RpS X.kf G r s) (hr : Rl X.kf G H m)
    (q : src r m fun items m1 => lcGo2 dg tt src1 vs1 dg1 tt1 te (wipeD r vs) items [] m1 QL)
    (fin : ∀ D us acc H' G' m', H D = none → Stp G H m G' H' m' → Rl X.kf G' H' m' → H' D = some (.lst us) → G' D = none → m' D = none → RpL X.kf G' acc us → acc.length ≤ sizeLine → QL acc m' → Q (.ref D) H') :
    tLc2 (lfI X.kf src) g (lfB X.kf tt) (lfI X.kf src1) g1 (lfB X.kf tt1) (lf X.kf te) vs vs1 s H Q := by
  refine ⟨G, r, m, _, hs, hr, q, fun J H1 G1 m1 items s1 r1 wk q1 => ?_⟩
  intro D hD
  obtain ⟨gD, mD⟩ := r1.free hD
  have base : LcAt X.kf G1 H1 m1 D G1 (upd H1 D (.lst [])) m1 [] [] := by
    refine ⟨⟨Same.refl _, fun b o e1 e2 e3 _ => by rw [upd_ne (ne_of_none e1 hD)]; exact ⟨e1, e2, e3⟩, fun b o e => ⟨o, by rw [upd_ne (ne_of_none e hD)]; exact e⟩⟩, r1.hid gD mD (.inl hD) _, upd_same, gD, mD, .nil, Nat.zero_le _⟩
  refine ⟨fun i k H' => i + k = items.length ∧ ∃ G' m' us acc, LcAt X.kf G1 H1 m1 D G' H' m' us acc ∧ lcGo2 dg tt src1 vs1 dg1 tt1 te (wipeD r vs) (items.drop i) acc m' QL,
    ⟨items.length, by omega, G1, m1, [], [], base, by rw [List.drop_zero]; exact q1⟩, fun i k H' hW => ?_⟩
  obtain ⟨ek, G', m', us, acc, la, qq⟩ := hW
  by_cases hi : i < items.length
  · have ed : items[i]? = some items[i] := List.getElem?_eq_getElem hi
    rw [List.drop_eq_getElem_cons hi] at qq
    obtain ⟨go, yl⟩ := wk.go G' H' m' i _ la.st.g la.rl ed
    refine .inr ⟨go, fun H2 => (i + 1) + (k - 1) = items.length ∧ ∃ G' m' us acc, LcAt X.kf G1 H1 m1 D G' H2 m' us acc ∧ lcGo2 dg tt src1 vs1 dg1 tt1 te (wipeD r vs) (items.drop (i + 1)) acc m' QL,
      fun H2 h2 => ⟨k - 1, by omega, h2⟩, fun x H2 hy => ?_⟩
    obtain ⟨G2, rl2, st2, rx⟩ := yl x H2 hy
    have la2 := la.step st2 rl2
    refine gc G2 H2 m' (wipe s vs) (wipeD r vs) x _ _ _ rl2 ((((hs.same s1.g).same la.st.g).same st2.g).wipe vs) rx qq fun s3 r3 rs3 hw q3 => ⟨by rw [hw]; exact wipe_wipe s vs, ?_⟩
    refine ⟨G2, r3, m', _, rs3, rl2, q3, fun b H3 G3 m3 st3 rl3 q4 => ?_⟩
    have la3 := la2.step st3 rl3
    cases b with
    | false =>
      try dsimp only
      rw [if_neg Bool.false_ne_true] at q4 ⊢
      exact ⟨by omega, G3, m3, us, acc, la3, q4⟩
    | true =>
      try dsimp only
      rw [if_pos rfl] at q4 ⊢
      refine ⟨G3, r3, m3, _, rs3.same st3.g, rl3, q4, fun J1 H4 G4 m4 items1 st4 rl4 wk1 q5 => ?_⟩
      have la4 := la3.step st4 rl4
      refine ⟨fun j k1 H5 => j + k1 = items1.length ∧ ∃ G' m' us acc, Same G4 G' ∧ LcAt X.kf G1 H1 m1 D G' H5 m' us acc ∧ lcIn dg1 tt1 te (wipeD r3 vs1) (items1.drop j) acc m' fun acc' m3 => lcGo2 dg tt src1 vs1 dg1 tt1 te (wipeD r vs) (items.drop (i + 1)) acc' m3 QL,
        ⟨items1.length, by omega, G4, m4, us, acc, Same.refl _, la4, by rw [List.drop_zero]; exact q5⟩, fun j k1 H5 hW1 => ?_⟩
      obtain ⟨ek1, G5, m5, us5, acc5, sm5, la5, qq5⟩ := hW1
      by_cases hj : j < items1.length
      · have ed1 : items1[j]? = some items1[j] := List.getElem?_eq_getElem hj
        rw [List.drop_eq_getElem_cons hj] at qq5
        obtain ⟨go1, yl1⟩ := wk1.go G5 H5 m5 j _ sm5 la5.rl ed1
        refine .inr ⟨go1, fun H6 => (j + 1) + (k1 - 1) = items1.length ∧ ∃ G' m' us acc, Same G4 G' ∧ LcAt X.kf G1 H1 m1 D G' H6 m' us acc ∧ lcIn dg1 tt1 te (wipeD r3 vs1) (items1.drop (j + 1)) acc m' fun acc' m3 => lcGo2 dg tt src1 vs1 dg1 tt1 te (wipeD r vs) (items.drop (i + 1)) acc' m3 QL,
          fun H6 h6 => ⟨k1 - 1, by omega, h6⟩, fun x6 H6 hy6 => ?_⟩
        obtain ⟨G6, rl6, st6, rx6⟩ := yl1 x6 H6 hy6
        have la6 := la5.step st6 rl6
        have rs6 : RpS X.kf G6 r3 s3 := (((rs3.same st3.g).same st4.g).same sm5).same st6.g
        refine gc1 G6 H6 m5 (wipe s3 vs1) (wipeD r3 vs1) x6 _ _ _ rl6 (rs6.wipe vs1) rx6 qq5 fun s7 r7 rs7 hw7 q7 => ⟨by rw [hw7]; exact wipe_wipe s3 vs1, ?_⟩
        refine ⟨G6, r7, m5, _, rs7, rl6, q7, fun b7 H7 G7 m7 st7 rl7 q8 => ?_⟩
        have la7 := la6.step st7 rl7
        have sm7 : Same G4 G7 := (sm5.trans st6.g).trans st7.g
        cases b7 with
        | false =>
          try dsimp only
          rw [if_neg Bool.false_ne_true] at q8 ⊢
          exact ⟨by omega, G7, m7, us5, acc5, sm7, la7, q8⟩
        | true =>
          try dsimp only
          rw [if_pos rfl] at q8 ⊢
          refine ⟨G7, r7, m7, _, rs7.same st7.g, rl7, q8, fun y H8 G8 m8 d8 st8 rl8 ry ⟨hz, q9⟩ => ?_⟩
          have la8 := la7.step st8 rl8
          refine ⟨us5, la8.hD, by rw [← la8.ra.len]; exact hz, by omega, G8, m8, us5 ++ [y], acc5 ++ [d8], sm7.trans st8.g, la8.push hD ry hz, q9⟩
      · have ej : j = items1.length := by omega
        subst ej
        rw [List.drop_length] at qq5
        exact .inl ⟨wk1.stop G5 H5 m5 sm5 la5.rl, by omega, G5, m5, us5, acc5, la5, qq5⟩
  · have ei : i = items.length := by omega
    subst ei
    rw [List.drop_length] at qq
    exact .inl ⟨wk.stop G' H' m' la.st.g la.rl, fin D us acc H' G' m' (s1.free hD) (s1.trans la.st) la.rl la.hD la.gD la.mD la.ra la.la qq⟩
theorem lc2_frz {vs vs1 : List Nat} (gc : GC X.kf g dg vs) (gc1 : GC X.kf g1 dg1 vs1) {s : L2.St} {H : Hp} {Q : VK} (h : lf X.kf (dLc2 src vs dg tt src1 vs1 dg1 tt1 te) s H Q) : tLc2 (lfI X.kf src) g (lfB X.kf tt) (lfI X.kf src1) g1 (lfB X.kf tt1) (lf X.kf te) vs vs1 s H Q := by
  obtain ⟨G, r, m, Qd, hs, hr, q, w⟩ := h
  refine lc2_data gc gc1 hs hr q fun D us acc H' G' m' new st rl hD gD mD ra la qq => ?_
  have sm : Same G' (upd G' D (.lst us)) := fun b o e => by rw [upd_ne (ne_of_none e gD)]; exact e
  refine w _ _ (upd G' D (.lst us)) m' (.lst acc) ⟨st.g.trans sm, fun b o e1 e2 e3 nt => ?_, st.up⟩ (rl.hidG hD gD mD) (.lst upd_same (ra.same sm) la) qq
  · obtain ⟨z1, z2, z3⟩ := st.fr b o e1 e2 e3 nt
    rw [upd_ne (ne_of_none e1 new)]; exact ⟨z1, z2, z3⟩
section
variable {vs1 : List Nat}
theorem pds_setLc2 {i : Nat} {y : Str} {py spos : Pos} (hc : X.calm = true) (hN : X.N.Nodup) (hy : X.N[i]? = some y) (hyl : X.env.scope.names.lookup y = some .local)
    (hsw : swapsWith (.ListComp elt [⟨tg, iter, ifs, 0⟩, ⟨tg1, iter1, ifs1, 0⟩] scope pos) (some (.Name y py)) spos.line X.env = pure true) (hi : PDI X tg iter src) (ok : BlkOk X.N X.env.scope scope own) (hv : ∀ i ∈ vs1, i ∈ own.map (·.2)) (gc : GC X.kf g dg (own.map (·.2))) (gc1 : GC X.kf g1 dg1 vs1)
    (hg : ∀ (s : Shared) (H : Hp) (C : Addr) (cl : List (Str × Addr)) (fp : List Addr), PG (X.blk s H scope (compEnvC scope cl C X.env) fp) tg g) (ht : ∀ (s : Shared) (H : Hp) (C : Addr) (cl : List (Str × Addr)) (fp : List Addr), PDTs (X.blk s H scope (compEnvC scope cl C X.env) fp) ifs tt)
    (hi1 : ∀ (s : Shared) (H : Hp) (C : Addr) (cl : List (Str × Addr)) (fp : List Addr), PDI (X.blk s H scope (compEnvC scope cl C X.env) fp) tg1 iter1 src1)
    (hg1 : ∀ (s : Shared) (H : Hp) (C : Addr) (cl : List (Str × Addr)) (fp : List Addr), PG (X.blk s H scope (compEnvC scope cl C X.env) fp) tg1 g1) (ht1 : ∀ (s : Shared) (H : Hp) (C : Addr) (cl : List (Str × Addr)) (fp : List Addr), PDTs (X.blk s H scope (compEnvC scope cl C X.env) fp) ifs1 tt1)
    (he : ∀ (s : Shared) (H : Hp) (C : Addr) (cl : List (Str × Addr)) (fp : List Addr), PD (X.blk s H scope (compEnvC scope cl C X.env) fp) elt te) (hs : ∀ x, foldedSetIterable iter X.env x = pure x := by intro _; rfl) (hs1 : ∀ env x, foldedSetIterable iter1 env x = pure x := by intro _ _; rfl) :
    PDS X (.Assign [.Name y py] (.ListComp elt [⟨tg, iter, ifs, 0⟩, ⟨tg1, iter1, ifs1, 0⟩] scope pos) spos) (xAsg (dLc2 src (own.map (·.2)) dg tt src1 vs1 dg1 tt1 te) (gV i)) :=
  psM (ps_setLc2 (wi1 := lfI X.kf src1) (tt := lfB X.kf tt) (tt1 := lfB X.kf tt1) (te := lf X.kf te) hc hN hy hyl hsw hi ok hv hg ht hi1 hg1 ht1 he hs hs1) fun _ _ _ h => lc2_frz gc gc1 (lfAsg (vs := [i]) (gc_name (by simp)) h)
end
end
end Mn

set_option Elab.async false
set_option linter.all false
set_option maxRecDepth 100000
set_option maxHeartbeats 4000000
set_option autoImplicit false
namespace Mn
open PySem PySem.Spec PyProof.Rows L2
variable [Tbs]
/-! x in y -/
section
variable {X : Cx} {K : KF}
end
/-! tuple(d.values()) -/
section
variable {prog : Program} {w : World} {A : Around} {E : Value → Shared → Prop} {s : Shared} {T : String} {r d : Addr} {n : Nat} {P : Nat → Value → Prop} {OK : Heap → Prop}
end
section
variable {X : Cx} {o : Expr} {to : DT} {pos p apos cpos : Pos}
def dTupVals (to : DT) : DT := fun r m Q => to r m fun o m1 => ∃ p kvs, o = .ref p ∧ m1 p = some (.dN kvs) ∧ Q (.tup (kvs.map (·.2))) m1
end
end Mn

set_option Elab.async false
set_option linter.all false
set_option maxRecDepth 100000
set_option maxHeartbeats 4000000
set_option autoImplicit false
namespace Mn
open PySem PySem.Spec PyProof.Rows L2
variable [Tbs]
/-! loops and comprehensions over data that is given by a list -/
section
variable {α σ : Type} {g : DG} {tb : DS} {De : DE} {tt : DB} {te : DT} {r : Ro} {m : Mu} {enc : α → D}
/-- a loop that may end early: the state behind the items that were taken -/
theorem forGo_take (I : List α → Ro → Mu → Prop) (xs : List α) : ∀ (pre post : List α) (r : Ro) (m : Mu), xs = pre ++ post → I pre r m →
    (∀ (pre : List α) (x : α) (post : List α) (r : Ro) (m : Mu) (P : Ro → Mu → Prop), xs = pre ++ x :: post → I pre r m → (∀ r' m', I (pre ++ [x]) r' m' → P r' m') → g (enc x) r fun r1 => tb { De with nx := P, ct := P, bk := De.nx } r1 m) →
    (∀ r m, I xs r m → De.nx r m) → forGo g tb De (post.map enc) r m
  | pre, [], r, m, e, h0, _, hd => hd r m (by rw [e, List.append_nil]; exact h0)
  | pre, x :: post, r, m, e, h0, hs, hd =>
    hs pre x post r m (forGo g tb De (post.map enc)) e h0 fun r' m' h1 => forGo_take I xs (pre ++ [x]) post r' m' (by rw [e, List.append_assoc]; rfl) h1 hs hd
/-- a comprehension whose parts change nothing -/
theorem lcGo_maps (f : α → D) : ∀ (xs : List α) (acc : List D) (Q : List D → Mu → Prop), (∀ x ∈ xs, ∀ K : DK, K (f x) m → g (enc x) r fun r1 => te r1 m K) → Q (acc ++ xs.map f) m → lcGo g dYes te r (xs.map enc) acc m Q
  | [], acc, Q, _, h => by rw [List.map_nil, List.append_nil] at h; exact h
  | x :: xs, acc, Q, hf, h => by
    rw [List.map_cons]
    show g (enc x) r fun r1 => te r1 m fun y m2 => lcGo g dYes te r (xs.map enc) (acc ++ [y]) m2 Q
    refine hf x List.mem_cons_self _ (lcGo_maps f xs (acc ++ [f x]) Q (fun e he => hf e (List.mem_cons_of_mem _ he)) ?_)
    rw [List.append_assoc]
    exact h
theorem lcIn_filt {β : Type} {enc1 : β → D} (p : β → Bool) (f : β → D) : ∀ (ys : List β) (acc : List D) (Q : List D → Mu → Prop), acc.length + (ys.filter p).length ≤ sizeLine → (∀ y ∈ ys, ∀ (A : DK) (B : Mu → Prop), (if p y = true then A (f y) m else B m) → g (enc1 y) r fun r1 => tt r1 m fun z m1 => if z = true then te r1 m1 A else B m1) →
    Q (acc ++ (ys.filter p).map f) m → lcIn g tt te r (ys.map enc1) acc m Q
  | [], acc, Q, _, _, h => by rw [List.filter_nil, List.map_nil, List.append_nil] at h; exact h
  | y :: ys, acc, Q, hl, hf, h => by
    rw [List.map_cons]
    refine hf y List.mem_cons_self (fun z m2 => acc.length < sizeLine ∧ lcIn g tt te r (ys.map enc1) (acc ++ [z]) m2 Q) (fun m2 => lcIn g tt te r (ys.map enc1) acc m2 Q) ?_
    by_cases hp : p y = true
    · rw [if_pos hp]
      rw [List.filter_cons_of_pos hp, List.map_cons] at h
      rw [List.filter_cons_of_pos hp, List.length_cons] at hl
      refine ⟨by omega, lcIn_filt p f ys (acc ++ [f y]) Q (by rw [List.length_append, List.length_singleton]; omega) (fun e he => hf e (List.mem_cons_of_mem _ he)) ?_⟩
      rw [List.append_assoc]
      exact h
    · rw [if_neg hp]
      rw [List.filter_cons_of_neg hp] at h hl
      exact lcIn_filt p f ys acc Q hl (fun e he => hf e (List.mem_cons_of_mem _ he)) h
theorem lcGo2_maps {β : Type} {enc1 : β → D} {src1 : DI} {vs1 : List Nat} {g1 : DG} {tt1 : DB} (ys : α → List β) (f : α → β → D) (p : α → β → Bool) : ∀ (xs : List α) (acc : List D) (Q : List D → Mu → Prop), acc.length + (xs.flatMap fun x => (ys x).filter (p x)).length ≤ sizeLine →
    (∀ x ∈ xs, ∀ R : Ro → Prop, (∀ r1, (∀ (P : List D → Mu → Prop), P ((ys x).map enc1) m → src1 r1 m P) → (∀ y ∈ ys x, ∀ (A : DK) (B : Mu → Prop), (if p x y = true then A (f x y) m else B m) → g1 (enc1 y) (wipeD r1 vs1) fun r2 => tt1 r2 m fun z m1 => if z = true then te r2 m1 A else B m1) → R r1) → g (enc x) r R) →
    Q (acc ++ (xs.flatMap fun x => ((ys x).filter (p x)).map (f x))) m → lcGo2 g dYes src1 vs1 g1 tt1 te r (xs.map enc) acc m Q
  | [], acc, Q, _, _, h => by rw [List.flatMap_nil, List.append_nil] at h; exact h
  | x :: xs, acc, Q, hl, hf, h => by
    rw [List.flatMap_cons, List.length_append] at hl
    rw [List.flatMap_cons] at h
    rw [List.map_cons]
    show g (enc x) r fun r1 => src1 r1 m fun items m2 => lcIn g1 tt1 te (wipeD r1 vs1) items acc m2 fun acc' m3 => lcGo2 g dYes src1 vs1 g1 tt1 te r (xs.map enc) acc' m3 Q
    refine hf x List.mem_cons_self _ fun r1 h1 h2 => h1 _ (lcIn_filt (p x) (f x) (ys x) acc _ (by omega) h2 ?_)
    refine lcGo2_maps ys f p xs _ Q ?_ (fun e he => hf e (List.mem_cons_of_mem _ he)) ?_
    · rw [List.length_append, List.length_map]; omega
    · rw [List.append_assoc]; exact h
end
/-! readings at known data -/
theorem aSl_tup {ds : List D} {l h : Option Int} {m : Mu} {Q : DK} : aSl (.tup ds) l h m Q ↔ Q (.tup (cutD ds l h)) m := Iff.rfl
theorem aSl_lst {ds : List D} {l h : Option Int} {m : Mu} {Q : DK} : aSl (.lst ds) l h m Q ↔ Q (.lst (cutD ds l h)) m := Iff.rfl
theorem sqf_tup {ds : List D} {m : Mu} : seqOf (.tup ds) m = some ds := rfl
theorem sqf_lst {ds : List D} {m : Mu} : seqOf (.lst ds) m = some ds := rfl
theorem sqf_pair {ds : List D} {m : Mu} : seqOf (.pair ds) m = some ds := rfl
/-! what is walked, as a list -/
theorem zip2_map {α β : Type} {ea : α → D} {eb : β → D} : ∀ (as : List α) (bs : List β), zip2 (as.map ea) (bs.map eb) = (as.zip bs).map fun p => D.pair [ea p.1, eb p.2]
  | [], _ => by simp [zip2]
  | _ :: _, [] => by simp [zip2]
  | a :: as, b :: bs => by
    have ih := zip2_map (ea := ea) (eb := eb) as bs
    unfold zip2 at ih ⊢
    rw [List.map_cons, List.map_cons, List.zipWith_cons_cons, ih, List.zip_cons_cons, List.map_cons]
theorem rgD_map (k : Nat) : rgD 0 k = (List.range k).map fun i : Nat => D.int i := by
  unfold rgD
  rw [show ((k : Int) - 0).toNat = k by omega]
  simp only [Int.zero_add]
end Mn

set_option Elab.async false
set_option linter.all false
set_option maxRecDepth 100000
set_option maxHeartbeats 4000000
set_option autoImplicit false
namespace Mn
open PySem PySem.Spec PyProof.Rows L2
variable [Tbs]
/-! ahead of a statement: a mutable list of a register, from here on not changed -/
def xFrz (i : Nat) (t : DS) : DS := fun De r m => ∃ p ds, r[i]? = some (some (.ref p)) ∧ m p = some (.lst ds) ∧ t De (r.set i (some (.lst ds))) (er m p)
section
variable {X : Cx} {st : Stmt} {sts : List Stmt} {t : DS}
/-- a, b, c = x, y, z -/
def xPar3 (i j l : Nat) (ta : DA) : DS := fun De r m => ta r m fun ds m1 => ∃ d e f, ds = [d, e, f] ∧ De.nx (((r.set i (some d)).set j (some e)).set l (some f)) m1
/-! xs.count(k) of a list of whole numbers -/
def dCountL (to te : DT) : DT := fun r m Q => to r m fun o m1 => (lst1 o m1).isSome = true ∧ te r m1 fun d m2 => ∃ (ns : List Int) (k : Int), lst1 o m2 = some (ns.map D.int) ∧ d = .int k ∧ Q (.int (ns.count k : Nat)) m2
end
end Mn

set_option Elab.async false
set_option linter.all false
set_option maxRecDepth 100000
set_option maxHeartbeats 4000000
set_option autoImplicit false
namespace Mn
open PySem PySem.Spec PyProof.Rows L2
variable [Tbs]
/-! zip over any number of lists and tuples, to any target -/
section
variable {prog : Program} {w : World} {A : Around} {E : Value → Shared → Prop}
structure Src where
  k : Bool
  it : Addr
  a : Addr
  items : Array Value
def Src.ok (d : Src) (h : Heap) (i : Nat) : Prop := ItAt d.k h d.it d.a i ∧ IsB d.k h d.a d.items
def IsZ (h : Heap) (z TI TO : Addr) (f0 : Value) (f : Bool) : Prop := h.get? z = some { cls := .type "zip", dict := none, data := .fields #[f0, .bool f, .bool false, .ref TI, .ref TO], slots := #[] }
def IsT (h : Heap) (T : Addr) (arr : Array Value) : Prop := h.get? T = some { cls := .type "tuple", data := .seq arr }
def Own0 (f0 : Value) : Prop := f0 = .none ∨ ∃ T : Addr, f0 = rawInt T
theorem own_free {s : Shared} {z TI TO : Addr} {f0 : Value} {f : Bool} {Q : Bool → Shared → Prop} (hz : IsZ s.heap z TI TO f0 f) (h0 : Own0 f0)
    (h : ∀ b h' f', IsZ h' z TI TO f0 f' → Heap.SameBut z s.heap h' → Q b { s with heap := h' }) : wpAny (model prog w) A (Builtin.SmallTypes.ownedTupleIsFree (.ref z)) Q E s := by
  unfold Builtin.SmallTypes.ownedTupleIsFree
  refine wpAny_bind (wpAny_field hz rfl (x := f0) rfl ?_)
  rcases h0 with rfl | ⟨T, rfl⟩
  · exact wpAny_pure (h true s.heap f hz (Heap.SameBut.refl _ _))
  · show wpAny _ _ (loadIfAlive ((T : Int).toNat) >>= _) _ _ _
    rw [Int.toNat_natCast]
    refine wpAny_bind ?_
    show wpAny _ _ (Sem.loadIfAlive T .pure) _ _ _
    have key : ∀ R : Option Obj → Shared → Prop, R (s.heap.get? T) s → wpAny (model prog w) A (loadIfAlive T) R E s := fun R hR => fun _ _ _ => hR
    refine key _ ?_
    cases e : s.heap.get? T with
    | none => exact wpAny_pure (h true s.heap f hz (Heap.SameBut.refl _ _))
    | some o =>
      simp only [Option.isNone_some, Bool.false_eq_true, if_false]
      refine wpAny_bind (wpAny_field hz rfl (x := .bool f) rfl ?_)
      cases f with
      | true =>
        rw [if_neg (show ¬ ((Value.bool true != Value.bool true) = true) from Bool.false_ne_true)]
        exact wpAny_pure (h false s.heap true hz (Heap.SameBut.refl _ _))
      | false =>
        rw [if_pos (show (Value.bool false != Value.bool true) = true from rfl)]
        exact wpAny_bind (wpAny_setField_rec hz (by simp) fun h₁ hz₁ hs₁ => wpAny_pure (h false h₁ true hz₁ hs₁))
structure Apart (z TI TO : Addr) (ds : List Src) : Prop where
  zI : z ≠ TI
  zO : z ≠ TO
  IO : TI ≠ TO
  it : ∀ d ∈ ds, d.it ≠ z ∧ d.it ≠ TI ∧ d.it ≠ TO ∧ d.a ≠ z ∧ d.a ≠ TO ∧ ∀ e ∈ ds, d.a ≠ e.it
  nd : ds.Pairwise fun d e => d.it ≠ e.it
theorem Src.ok.at {d : Src} {h h' : Heap} {i : Nat} (x : d.ok h i) (q : ∀ c o, c = d.it ∨ c = d.a → h.get? c = some o → h'.get? c = some o) : d.ok h' i := by
  refine ⟨x.1.at fun o e => q _ o (.inl rfl) e, ?_⟩
  have h2 := x.2
  unfold IsB at h2 ⊢
  cases hk : d.k with
  | true => rw [hk] at h2; exact Heap.IsList.at (show h.IsList d.a d.items from h2) fun o e => q _ o (.inr rfl) e
  | false => rw [hk] at h2; exact Heap.IsTuple.at (show h.IsTuple d.a d.items from h2) fun o e => q _ o (.inr rfl) e
theorem Src.ok.over {d : Src} {h h' : Heap} {i : Nat} {x : Addr} (k : d.ok h i) (hs : Heap.SameBut x h h') (h1 : d.it ≠ x) (h2 : d.a ≠ x) : d.ok h' i :=
  k.at fun c o hc e => hs.extBut _ _ (by rcases hc with rfl | rfl <;> assumption) e
def Kept (z TO : Addr) (ds : List Src) (h h' : Heap) : Prop := ∀ c o, c ≠ z → c ≠ TO → (∀ e ∈ ds, c ≠ e.it) → h.get? c = some o → h'.get? c = some o
/-- what a step of zip leaves -/
structure ZnOut (z TI TO : Addr) (ds : List Src) (i : Nat) (h h' : Heap) (T : Addr) : Prop where
  lt : ∀ d ∈ ds, i < d.items.size
  zip : ∃ f0 f, IsZ h' z TI TO f0 f ∧ Own0 f0
  to : ∃ arr : Array Value, IsT h' TO arr ∧ arr.size = ds.length
  ok : ∀ d ∈ ds, d.ok h' (i + 1)
  tup : ∃ vs : List Value, vs.length = ds.length ∧ (∀ (j : Nat) (d : Src), ds[j]? = some d → vs[j]? = d.items[i]?) ∧ IsT h' T vs.toArray
  new : h.objs.size ≤ T
  kept : Kept z TO ds h h'
end
end Mn

set_option Elab.async false
set_option linter.all false
set_option maxRecDepth 100000
set_option maxHeartbeats 4000000
set_option autoImplicit false
namespace Mn
open PySem PySem.Spec PyProof.Rows L2
variable [Tbs]
/-! the turns of a zip of any number -/
def withIt (f : Src → Array Value) (c : Src) : Src := { c with items := f c }
theorem Apart.with {z TI TO : Addr} {cs : List Src} (ap : Apart z TI TO cs) (f : Src → Array Value) : Apart z TI TO (cs.map (withIt f)) where
  zI := ap.zI
  zO := ap.zO
  IO := ap.IO
  it := fun d hd => by
    obtain ⟨c, hc, rfl⟩ := List.mem_map.mp hd
    have q := ap.it c hc
    exact ⟨q.1, q.2.1, q.2.2.1, q.2.2.2.1, q.2.2.2.2.1, fun e he => by obtain ⟨c', hc', rfl⟩ := List.mem_map.mp he; exact q.2.2.2.2.2 c' hc'⟩
  nd := by rw [List.pairwise_map]; exact ap.nd
end Mn

set_option Elab.async false
set_option linter.all false
set_option maxRecDepth 100000
set_option maxHeartbeats 4000000
set_option autoImplicit false
namespace Mn
open PySem PySem.Spec PyProof.Rows L2
variable [Tbs]
theorem nn {n i j : Nat} (h : i ≠ j) : n + i ≠ n + j := by omega
theorem n0 {n i : Nat} (h : i ≠ 0) : n ≠ n + i := by omega
/-! zip of two, to any target -/
section
variable {K : KF}
end
section
variable {X : Cx} {tg e e2 : Expr} {t u : DT} {p pos : Pos}
end
end Mn

set_option Elab.async false
set_option linter.all false
set_option maxRecDepth 100000
set_option maxHeartbeats 4000000
set_option autoImplicit false
namespace Mn
open PySem PySem.Spec PyProof.Rows L2
variable [Tbs]
/-! zip of four -/
end Mn

set_option Elab.async false
set_option linter.all false
set_option maxRecDepth 100000
set_option maxHeartbeats 4000000
set_option autoImplicit false
namespace Mn
open PySem PySem.Spec PyProof.Rows L2
variable [Tbs]
def zip4 : List D → List D → List D → List D → List D
  | x :: xs, y :: ys, z :: zs, w :: ws => .pair [x, y, z, w] :: zip4 xs ys zs ws
  | _, _, _, _ => []
def sZip4 (t u v x : DT) : DI := fun r m Q => t r m fun d m1 => u r m1 fun e m2 => v r m2 fun f m3 => x r m3 fun g m4 => ∃ xs ys zs ws, seqI d = some xs ∧ seqI e = some ys ∧ seqI f = some zs ∧ seqI g = some ws ∧ Q (zip4 xs ys zs ws) m4
section
variable {K : KF}
end
section
variable {X : Cx} {tg e e2 e3 e4 : Expr} {t u v x : DT} {p pos : Pos}
end
end Mn

set_option linter.all false
set_option maxHeartbeats 4000000
set_option autoImplicit false
set_option maxRecDepth 100000
namespace Mn
open PySem L2
variable [Tbs]
local macro_rules | `(tactic| walk_at "d") => `(tactic| (try simp only [xNext, xSeq, xAsg, xRet, xRetF, xDrop, xIf, xPar, xPar3, xFrz, xPut, xAug, xFor, dVar, dC, dOp, dTest, dChain, dAndV, dOrV, dNotV, dAnd, dOr, dNot, dIf, dNil, dCons, dTup, dLst, dLstM, dCB, dIsi, dLc, dLcM, dYes, wipeD, dSlice, oSome, oNone, aSl_tup, aSl_lst, dNeg, dStar, dNewD, dTupVals, dCountL, dExtend, dAppend, dFrz, dLc2, dCountT, dIndexT, sqf_tup, sqf_lst, sqf_pair, sSeq, sSeq_tup, sSeq_lst, sRg1, sRg2, sZip2, sZip3, sZip4, sEnum, gV, gN, gC, gT, tupOf_tup, tupOf_pair, aAdd_int, aAdd_tup, aAdd_lst, aSub_int, aMul_int, aDiv_int, aMod_int, aPow_int, aCmp_int, aIx_tup, aIx_lst, aIx_scr, aIx_pair, aMax_int, aMin_int, aInt_bl, aInt_int, aLen_tup, aLen_lst, aLen_scr, aLen_pair, aTuple_lst, aTuple_tup, aEq_int, aNe_int, startD, List.map_cons, List.map_nil, List.length_cons, List.length_nil, List.cons_append, List.nil_append, List.replicate_zero, List.replicate_succ, List.append_nil, List.getElem?_cons_zero, List.getElem?_cons_succ, List.set_cons_zero, List.set_cons_succ, Option.some.injEq, exists_eq_left', exists_eq_left, exists_eq', D.int.injEq, D.bl.injEq, D.tup.injEq, D.lst.injEq, D.pair.injEq, D.ref.injEq, List.cons.injEq, Nat.sub_self, Nat.zero_add, Nat.add_sub_cancel, seqI_tup, seqI_lst, seqOf_tup, seqOf_lst, tyN_tup, tyN_lst, tyN_int, tyN_bl, tyN_str, tyN_non, isi_tt, at_0, at_1, at_2, at_3, Option.map_some, true_and, and_true, if_true, Bool.false_eq_true, if_false, Bool.not_true, Bool.not_false, ↓reduceIte, Nat.reduceAdd, Nat.reduceSub, exists_and_left, and_assoc]))
/-! attributes, in plain data -/
def maxN (l : List Nat) : Nat := l.foldl max 0
theorem le_maxN {l : List Nat} : ∀ {x : Nat}, x ∈ l → x ≤ maxN l := by
  have key : ∀ (l : List Nat) (a : Nat), a ≤ l.foldl max a ∧ ∀ x ∈ l, x ≤ l.foldl max a := by
    intro l
    induction l with
    | nil => intro a; exact ⟨Nat.le_refl _, fun _ h => nomatch h⟩
    | cons y l ih =>
      intro a
      have := ih (max a y)
      simp only [List.foldl_cons]
      refine ⟨by omega, fun x hx => ?_⟩
      rcases List.mem_cons.mp hx with rfl | hx
      · omega
      · exact this.2 x hx
  intro x hx
  exact (key l 0).2 x hx
theorem maxN_le {b : Nat} : ∀ {l : List Nat}, (∀ x ∈ l, x ≤ b) → maxN l ≤ b := by
  have key : ∀ (l : List Nat) (a : Nat), a ≤ b → (∀ x ∈ l, x ≤ b) → l.foldl max a ≤ b := by
    intro l
    induction l with
    | nil => intro a h _; exact h
    | cons y l ih =>
      intro a h hl
      exact ih (max a y) (by have := hl y List.mem_cons_self; omega) fun x hx => hl x (List.mem_cons_of_mem _ hx)
  intro l hl
  exact key l 0 (Nat.zero_le _) hl
/-- how many groups a level has -/
def At.sz (a : At) : Nat → Nat
  | 0 => a.n
  | l + 1 => maxN (a.ss.getD l []) + 1
def stepG (st : List Nat) (g : Nat) : Nat := st.getD g 0
theorem stepG_get {st : List Nat} {g : Nat} (h : g < st.length) : stepG st g = st[g] := by
  unfold stepG; rw [List.getD_eq_getElem?_getD, List.getElem?_eq_getElem h]; rfl
/-- the group above -/
def At.up (a : At) (g lo hi : Nat) : Nat := ((a.ss.drop lo).take (hi - lo)).foldl (fun g st => stepG st g) g
theorem Stp1.max {g g' : Nat} {s : List Nat} (h : Stp1 g s g') (hg : 1 ≤ g) : maxN s + 1 = g' := by
  obtain ⟨hl, hlt, hx, hy⟩ := h
  have h1 : 1 ≤ g' := by
    cases s with
    | nil => rw [List.length_nil] at hl; omega
    | cons a r => have := hx a (by simp); omega
  have a := maxN_le (b := g' - 1) fun x hx' => by have := hx x hx'; omega
  have b := le_maxN (hy (g' - 1) (by omega))
  omega
theorem stepsV_at : ∀ {ss : List (List Nat)} {g : Nat}, 1 ≤ g → stepsV g ss → ∀ (l : Nat) (s : List Nat), ss[l]? = some s → ∃ gl, (if l = 0 then gl = g else gl = maxN (ss.getD (l - 1) []) + 1) ∧ 1 ≤ gl ∧ gl ≤ g ∧ Stp1 gl s (maxN s + 1)
  | [], _, _, _, l, s, e => by simp at e
  | st :: ss, g, hg, ⟨g', h1, h2⟩, 0, s, e => by
    simp only [List.getElem?_cons_zero, Option.some.injEq] at e
    subst e
    refine ⟨g, by simp, hg, Nat.le_refl _, ?_⟩
    rw [h1.max hg]
    exact h1
  | st :: ss, g, hg, ⟨g', h1, h2⟩, l + 1, s, e => by
    have hm := h1.max hg
    have g1 : 1 ≤ g' := by omega
    obtain ⟨gl, q1, q2, q3, q4⟩ := stepsV_at g1 h2 l s (by simpa using e)
    refine ⟨gl, ?_, q2, ?_, q4⟩
    · rw [if_neg (by omega)]
      cases l with
      | zero => rw [if_pos rfl] at q1; simp [q1, hm]
      | succ k => rw [if_neg (by omega)] at q1; simpa using q1
    · have := h1.2.1; omega
theorem At.V.step {a : At} (h : a.V) {l : Nat} (hl : l < a.ss.length) : Stp1 (a.sz l) (a.ss.getD l []) (a.sz (l + 1)) := by
  obtain ⟨h1, h2, h3, h4⟩ := h
  have e : a.ss[l]? = some (a.ss.getD l []) := by rw [List.getD_eq_getElem?_getD, List.getElem?_eq_getElem hl]; rfl
  obtain ⟨gl, q1, q2, q3, q4⟩ := stepsV_at h1 h4 l _ e
  cases l with
  | zero => rw [if_pos rfl] at q1; rw [q1] at q4; exact q4
  | succ k => rw [if_neg (by omega)] at q1; rw [q1] at q4; exact q4
theorem At.V.sz_le {a : At} (h : a.V) : ∀ {l : Nat}, l ≤ a.ss.length → 1 ≤ a.sz l ∧ a.sz l ≤ a.n
  | 0, _ => ⟨h.1, Nat.le_refl _⟩
  | l + 1, hl => by
    have := (h.step (l := l) hl).2.1
    have ih := h.sz_le (l := l) (by omega)
    refine ⟨by show 1 ≤ maxN _ + 1; omega, by omega⟩
theorem At.V.lt {a : At} (h : a.V) {l g : Nat} (hl : l < a.ss.length) (hg : g < a.sz l) : stepG (a.ss.getD l []) g < a.sz (l + 1) := by
  obtain ⟨s1, s2, s3, s4⟩ := h.step hl
  refine s3 _ ?_
  rw [stepG_get (by omega)]
  exact List.getElem_mem _
theorem up_same_ (a : At) (g l : Nat) : a.up g l l = g := by unfold At.up; rw [Nat.sub_self, List.take_zero]; rfl
theorem up_succ {a : At} {g lo hi : Nat} (h1 : lo ≤ hi) (h2 : hi < a.ss.length) : a.up g lo (hi + 1) = stepG (a.ss.getD hi []) (a.up g lo hi) := by
  unfold At.up
  have e : hi + 1 - lo = (hi - lo) + 1 := by omega
  have hk : hi - lo < (a.ss.drop lo).length := by rw [List.length_drop]; omega
  rw [e, List.take_succ_eq_append_getElem hk, List.foldl_append, List.foldl_cons, List.foldl_nil, List.getElem_drop]
  congr 1
  rw [List.getD_eq_getElem?_getD, List.getElem?_eq_getElem h2]
  simp only [Option.getD_some]
  congr 1
  omega
theorem At.V.up_lt {a : At} (h : a.V) {g lo : Nat} (hg : g < a.sz lo) : ∀ {hi : Nat}, lo ≤ hi → hi ≤ a.ss.length → a.up g lo hi < a.sz hi
  | hi, h1, h2 => by
    induction hi with
    | zero => obtain rfl : lo = 0 := by omega
              rw [up_same_]; exact hg
    | succ k ih =>
      by_cases e : lo = k + 1
      · subst e; rw [up_same_]; exact hg
      · rw [up_succ (by omega) (by omega)]
        exact h.lt (by omega) (ih (by omega) (by omega))
theorem At.V.surj {a : At} (h : a.V) {l y : Nat} (hl : l < a.ss.length) (hy : y < a.sz (l + 1)) : ∃ x, x < a.sz l ∧ stepG (a.ss.getD l []) x = y := by
  obtain ⟨s1, s2, s3, s4⟩ := h.step hl
  obtain ⟨i, hi, e⟩ := List.mem_iff_getElem.mp (s4 y hy)
  exact ⟨i, by omega, by rw [stepG_get hi]; exact e⟩
theorem At.V.up_surj {a : At} (h : a.V) {lo : Nat} : ∀ {hi y : Nat}, lo ≤ hi → hi ≤ a.ss.length → y < a.sz hi → ∃ x, x < a.sz lo ∧ a.up x lo hi = y
  | hi, y, h1, h2, hy => by
    induction hi generalizing y with
    | zero => obtain rfl : lo = 0 := by omega
              exact ⟨y, hy, up_same_ _ _ _⟩
    | succ k ih =>
      by_cases e : lo = k + 1
      · subst e; exact ⟨y, hy, up_same_ _ _ _⟩
      · obtain ⟨z, hz, ez⟩ := h.surj (l := k) (by omega) hy
        obtain ⟨x, hx, ex⟩ := ih _ (by omega) (by omega) hz
        exact ⟨x, hx, by rw [up_succ (by omega) (by omega), ex, ez]⟩
/-! all tuples below -/
def cellsN (ns : List Nat) : List (List Nat) := ns.foldl (fun rows k => rows.flatMap fun row => (List.range k).map fun j => row ++ [j]) [[]]
theorem cellsN_snoc (ns : List Nat) (k : Nat) : cellsN (ns ++ [k]) = (cellsN ns).flatMap fun row => (List.range k).map fun j => row ++ [j] := by
  unfold cellsN; rw [List.foldl_append]; rfl
theorem sum_const {α : Type} (l : List α) (k : Nat) : (l.map fun _ => k).sum = l.length * k := by
  induction l with
  | nil => simp
  | cons a l ih => simp only [List.map_cons, List.sum_cons, ih, List.length_cons]; rw [Nat.add_mul]; omega
theorem cellsN_length_step (rows : List (List Nat)) (k : Nat) : (rows.flatMap fun row => (List.range k).map fun j => row ++ [j]).length = rows.length * k := by
  rw [List.length_flatMap]
  simp only [List.length_map, List.length_range]
  exact sum_const rows k
theorem cellsN_len (ns : List Nat) : (cellsN ns).length = prodN ns := by
  unfold cellsN prodN
  have key : ∀ (ns : List Nat) (rows : List (List Nat)), (ns.foldl (fun rows k => rows.flatMap fun row => (List.range k).map fun j => row ++ [j]) rows).length = ns.foldl (fun a n => a * n) rows.length := by
    intro ns
    induction ns with
    | nil => intro rows; rfl
    | cons k ns ih =>
      intro rows
      rw [List.foldl_cons, List.foldl_cons, ih, cellsN_length_step]
  exact key ns [[]]
/-- c is a cell below ns -/
def Below (c ns : List Nat) : Prop := c.length = ns.length ∧ ∀ (i : Nat) (x n : Nat), c[i]? = some x → ns[i]? = some n → x < n
theorem below_snoc {c ns : List Nat} {x n : Nat} : Below (c ++ [x]) (ns ++ [n]) ↔ Below c ns ∧ x < n := by
  constructor
  · rintro ⟨h1, h2⟩
    rw [List.length_append, List.length_append, List.length_singleton, List.length_singleton] at h1
    have h1 : c.length = ns.length := by omega
    refine ⟨⟨h1, fun i y k hy hk => h2 i y k ?_ ?_⟩, h2 c.length x n ?_ ?_⟩
    · rw [List.getElem?_append_left (List.getElem?_eq_some_iff.mp hy).1]; exact hy
    · rw [List.getElem?_append_left (List.getElem?_eq_some_iff.mp hk).1]; exact hk
    · rw [List.getElem?_append_right (Nat.le_refl _), Nat.sub_self]; rfl
    · rw [h1, List.getElem?_append_right (Nat.le_refl _), Nat.sub_self]; rfl
  · rintro ⟨⟨h1, h2⟩, hx⟩
    refine ⟨by rw [List.length_append, List.length_append, h1]; rfl, fun i y k hy hk => ?_⟩
    by_cases hi : i < c.length
    · rw [List.getElem?_append_left hi] at hy
      rw [List.getElem?_append_left (by omega)] at hk
      exact h2 i y k hy hk
    · rw [List.getElem?_append_right (by omega)] at hy hk
      have : i - c.length = 0 := by
        have := (List.getElem?_eq_some_iff.mp hy).1
        rw [List.length_singleton] at this; omega
      rw [this] at hy
      rw [show i - ns.length = 0 by omega] at hk
      cases hy; cases hk
      exact hx
theorem mem_cellsN (ns : List Nat) : ∀ c, c ∈ cellsN ns ↔ Below c ns := by
  have key : ∀ (n : Nat) (ns : List Nat), ns.length = n → ∀ c, c ∈ cellsN ns ↔ Below c ns := by
    intro n
    induction n with
    | zero =>
      intro ns hn c
      obtain rfl : ns = [] := List.eq_nil_of_length_eq_zero hn
      constructor
      · intro h
        obtain rfl : c = [] := by simpa [cellsN] using h
        exact ⟨rfl, by simp⟩
      · intro h
        obtain rfl : c = [] := List.eq_nil_of_length_eq_zero h.1
        simp [cellsN]
    | succ n ih =>
      intro ns hn c
      obtain ⟨ms, k, rfl⟩ : ∃ ms k, ns = ms ++ [k] := ⟨ns.dropLast, ns.getLast (by intro e; rw [e] at hn; simp at hn), (List.dropLast_concat_getLast _).symm⟩
      rw [List.length_append, List.length_singleton] at hn
      rw [cellsN_snoc, List.mem_flatMap]
      constructor
      · rintro ⟨row, hr, hc⟩
        obtain ⟨j, hj, rfl⟩ := List.mem_map.mp hc
        exact below_snoc.mpr ⟨(ih ms (by omega) row).mp hr, List.mem_range.mp hj⟩
      · intro h
        have hl : c.length = ms.length + 1 := by have := h.1; rw [List.length_append, List.length_singleton] at this; exact this
        obtain ⟨d, x, rfl⟩ : ∃ d x, c = d ++ [x] := ⟨c.dropLast, c.getLast (by intro e; rw [e] at hl; simp at hl), (List.dropLast_concat_getLast _).symm⟩
        obtain ⟨h1, h2⟩ := below_snoc.mp h
        exact ⟨d, (ih ms (by omega) d).mpr h1, List.mem_map.mpr ⟨x, List.mem_range.mpr h2, rfl⟩⟩
  exact key ns.length ns rfl
/-! rollups, cells of schemes -/
def szs (s : Sch) (r : List Nat) : List Nat := List.zipWith At.sz s r
def cellsOf (s : Sch) (r : List Nat) : List (List Nat) := cellsN (szs s r)
def finN (s : Sch) : List Nat := List.replicate s.length 0
theorem Roll.at {s : Sch} {r : List Nat} (h : Roll s r) {i : Nat} {a : At} {l : Nat} (ha : s[i]? = some a) (hl : r[i]? = some l) : l ≤ a.ss.length := by
  simp only [Roll, tD, isRoll, Bool.and_eq_true, decide_eq_true_eq, List.length_map] at h
  have h2 := h.2
  rw [List.all_eq_true] at h2
  have hz : (List.zipWith (fun (a : At) l => betw l 0 a.ss.length) s (r.map nD))[i]? = some (betw (nD l) 0 a.ss.length) := by
    rw [List.getElem?_zipWith, ha, List.getElem?_map, hl]; rfl
  have := h2 _ (List.mem_of_getElem? hz)
  simp only [betw, nD, id, Bool.and_eq_true, decide_eq_true_eq] at this
  omega
theorem prodN_mono : ∀ {l l' : List Nat} (a a' : Nat), a ≤ a' → l.length = l'.length → (∀ (i : Nat) (x y : Nat), l[i]? = some x → l'[i]? = some y → x ≤ y) → l.foldl (fun a n => a * n) a ≤ l'.foldl (fun a n => a * n) a'
  | [], [], a, a', h, _, _ => h
  | [], _ :: _, _, _, _, e, _ => by simp at e
  | _ :: _, [], _, _, _, e, _ => by simp at e
  | x :: l, y :: l', a, a', h, e, hh => by
    rw [List.foldl_cons, List.foldl_cons]
    exact prodN_mono (a * x) (a' * y) (Nat.mul_le_mul h (hh 0 x y rfl rfl)) (by simpa using e) fun i u v hu hv => hh (i + 1) u v (by simpa using hu) (by simpa using hv)
theorem szs_len {s : Sch} {r : List Nat} (h : Roll s r) : (szs s r).length = s.length := by unfold szs; rw [List.length_zipWith, h.len]; omega
theorem szs_at {s : Sch} {r : List Nat} {i k : Nat} (h : (szs s r)[i]? = some k) : ∃ a l, s[i]? = some a ∧ r[i]? = some l ∧ k = a.sz l := by
  unfold szs at h
  rw [List.getElem?_zipWith] at h
  cases ha : s[i]? with
  | none => rw [ha] at h; simp at h
  | some a =>
    cases hl : r[i]? with
    | none => rw [ha, hl] at h; simp at h
    | some l => rw [ha, hl] at h; simp at h; exact ⟨a, l, rfl, rfl, h.symm⟩
theorem szs_prod {s : Sch} {r : List Nat} (hs : SchV s) (h : Roll s r) : prodN (szs s r) ≤ 60 := by
  refine Nat.le_trans (prodN_mono 1 1 (Nat.le_refl _) (by rw [szs_len h, List.length_map]) fun i x y hx hy => ?_) hs.2.2.2
  obtain ⟨a, l, ha, hl, rfl⟩ := szs_at hx
  rw [List.getElem?_map, ha] at hy
  cases hy
  exact ((hs.2.2.1 a (List.mem_of_getElem? ha)).sz_le (h.at ha hl)).2
theorem szs_le {s : Sch} {r : List Nat} (hs : SchV s) (h : Roll s r) : ∀ k ∈ szs s r, 1 ≤ k ∧ k ≤ 6 := by
  intro k hk
  obtain ⟨i, hi⟩ := List.mem_iff_getElem?.mp hk
  obtain ⟨a, l, ha, hl, rfl⟩ := szs_at hi
  have hv := hs.2.2.1 a (List.mem_of_getElem? ha)
  have := hv.sz_le (h.at ha hl)
  have := hv.2.1
  omega
/-- the cell above -/
def abv (s : Sch) (r c o : List Nat) : List Nat := (s.zip (c.zip (r.zip o))).map fun p => p.1.up p.2.1 p.2.2.1 p.2.2.2
end Mn

set_option linter.all false
set_option maxHeartbeats 4000000
set_option autoImplicit false
set_option maxRecDepth 100000
namespace Mn
open PySem L2
variable [Tbs]
local macro_rules | `(tactic| walk_at "d") => `(tactic| (try simp only [xNext, xSeq, xAsg, xRet, xRetF, xDrop, xIf, xPar, xPar3, xFrz, xPut, xAug, xFor, dVar, dC, dOp, dTest, dChain, dAndV, dOrV, dNotV, dAnd, dOr, dNot, dIf, dNil, dCons, dTup, dLst, dLstM, dCB, dIsi, dLc, dLcM, dYes, wipeD, dSlice, oSome, oNone, aSl_tup, aSl_lst, dNeg, dStar, dNewD, dTupVals, dCountL, dExtend, dAppend, dFrz, dLc2, dCountT, dIndexT, sqf_tup, sqf_lst, sqf_pair, sSeq, sSeq_tup, sSeq_lst, sRg1, sRg2, sZip2, sZip3, sZip4, sEnum, gV, gN, gC, gT, tupOf_tup, tupOf_pair, aAdd_int, aAdd_tup, aAdd_lst, aSub_int, aMul_int, aDiv_int, aMod_int, aPow_int, aCmp_int, aIx_tup, aIx_lst, aIx_scr, aIx_pair, aMax_int, aMin_int, aInt_bl, aInt_int, aLen_tup, aLen_lst, aLen_scr, aLen_pair, aTuple_lst, aTuple_tup, aEq_int, aNe_int, startD, List.map_cons, List.map_nil, List.length_cons, List.length_nil, List.cons_append, List.nil_append, List.replicate_zero, List.replicate_succ, List.append_nil, List.getElem?_cons_zero, List.getElem?_cons_succ, List.set_cons_zero, List.set_cons_succ, Option.some.injEq, exists_eq_left', exists_eq_left, exists_eq', D.int.injEq, D.bl.injEq, D.tup.injEq, D.lst.injEq, D.pair.injEq, D.ref.injEq, List.cons.injEq, Nat.sub_self, Nat.zero_add, Nat.add_sub_cancel, seqI_tup, seqI_lst, seqOf_tup, seqOf_lst, tyN_tup, tyN_lst, tyN_int, tyN_bl, tyN_str, tyN_non, isi_tt, at_0, at_1, at_2, at_3, Option.map_some, true_and, and_true, if_true, Bool.false_eq_true, if_false, Bool.not_true, Bool.not_false, ↓reduceIte, Nat.reduceAdd, Nat.reduceSub, exists_and_left, and_assoc]))
theorem at_nat (ds : List D) (k : Nat) : at_ ds (k : Int) = ds[k]? := by
  unfold at_; rw [if_pos (by omega), Int.toNat_natCast]
theorem maxI_nat : ∀ (l : List Nat), l ≠ [] → maxI (l.map fun k : Nat => (k : Int)) = maxN l
  | [], h => absurd rfl h
  | n :: r, _ => by
    unfold maxN
    simp only [List.map_cons, maxI, List.foldl_cons]
    have key : ∀ (r : List Nat) (a : Nat), (r.map fun k : Nat => (k : Int)).foldl max (a : Int) = ((r.foldl max a : Nat) : Int) := by
      intro r
      induction r with
      | nil => intro a; rfl
      | cons x r ih =>
        intro a
        rw [List.map_cons, List.foldl_cons, List.foldl_cons, show max (a : Int) (x : Int) = ((max a x : Nat) : Int) by omega, ih]
    rw [key, Nat.zero_max]
/-- max of a tuple of numbers -/
theorem aMax_tD {l : List Nat} {m : Mu} {Q : DK} (h : l ≠ []) (q : Q (nD (maxN l)) m) : aMax [tD l] m Q := by
  cases l with
  | nil => exact absurd rfl h
  | cons n r =>
    unfold tD
    simp only [aMax]
    refine ⟨(n : Int), r.map fun k : Nat => (k : Int), ?_, ?_⟩
    · first | rfl | (simp only [List.map_cons, List.map_map, nD]; rfl)
    · have e := maxI_nat (n :: r) (by simp)
      simp only [List.map_cons, maxI] at e
      rw [e]
      exact q
/-! groups -/
def s_groups_at : DSp := fun ds m Q => ∃ (a : At) (l : Nat), ds = [a.enc, nD l] ∧ a.V ∧ l ≤ a.ss.length ∧ Q (nD (a.sz l)) m
theorem l_groups_at : ∀ ds m Q, s_groups_at ds m Q → ds.length = 2 := by rintro ds m Q ⟨a, l, rfl, _⟩; rfl
def t_groups_at : DS := (xRet (dIf (dTest (dOp aEq (dVar 1) (dC (.int 0)))) (dOp aIx (dVar 0) (dC (.int 0))) (dOp aAdd (dCB aMax (dCons (dOp aIx (dOp aIx (dVar 0) (dC (.int 1))) (dOp aSub (dVar 1) (dC (.int 1)))) dNil)) (dC (.int 1)))))
theorem v_groups_at : Body 2 t_groups_at s_groups_at := by
  rintro ds m Q ⟨a, l, rfl, ha, hl, q⟩
  have hq := end_rt (m0 := m) q
  unfold t_groups_at At.enc nD
  walk_at "d"
  cases l with
  | zero => exact hq
  | succ k =>
    have hk : ¬ (((k + 1 : Nat) : Int) = 0) := by omega
    have hst := ha.step (l := k) hl
    simp only [hk, decide_false, Bool.false_eq_true, ↓reduceIte]
    rw [show (((k + 1 : Nat) : Int) - 1) = (k : Int) by omega]
    walk_at "d"
    refine ⟨tD (a.ss.getD k []), ?_, ?_⟩
    · rw [at_nat, List.getElem?_map, List.getElem?_eq_getElem (by omega), List.getD_eq_getElem?_getD, List.getElem?_eq_getElem (by omega)]; rfl
    · refine aMax_tD ?_ ?_
      · intro e
        have := hst.1
        rw [e, List.length_nil] at this
        have := (ha.sz_le (l := k) (by omega)).1
        omega
      · unfold nD
        walk_at "d"
        exact hq
theorem filt_true {α : Type} (l : List α) : l.filter (fun _ => true) = l := List.filter_eq_self.mpr fun _ _ => rfl
/-! tuples below -/
def s_tuples_below : DSp := fun ds m Q => ∃ ns : List Nat, ds = [.lst (ns.map nD)] ∧ ns.length ≤ 3 ∧ (∀ k ∈ ns, k ≤ 6) ∧ Q (.lst ((cellsN ns).map tD)) m
theorem l_tuples_below : ∀ ds m Q, s_tuples_below ds m Q → ds.length = 1 := by rintro ds m Q ⟨ns, rfl, _⟩; rfl
def t_tuples_below : DS := (xSeq (xAsg (dLst (dCons (dTup dNil) dNil)) (gV 1))
  (xSeq (xFor (sSeq (dVar 0)) (gV 2) (xAsg (dLc2 (sSeq (dVar 1)) [3, 4] (gV 3) dYes (sRg1 (dVar 2)) [4] (gV 4) dYes (dTup (dStar (dVar 3) (dCons (dVar 4) dNil)))) (gV 1)))
  (xRet (dVar 1))))
theorem prodN_le : ∀ (ns : List Nat), ns.length ≤ 3 → (∀ k ∈ ns, k ≤ 6) → prodN ns ≤ 216
  | [], _, _ => by decide
  | [a], _, h => by have := h a (by simp); unfold prodN; simp only [List.foldl_cons, List.foldl_nil, Nat.one_mul]; omega
  | [a, b], _, h => by
    have h1 := h a (by simp); have h2 := h b (by simp)
    have := Nat.mul_le_mul h1 h2
    unfold prodN; simp only [List.foldl_cons, List.foldl_nil, Nat.one_mul]; omega
  | [a, b, c], _, h => by
    have h1 := h a (by simp); have h2 := h b (by simp); have h3 := h c (by simp)
    have := Nat.mul_le_mul (Nat.mul_le_mul h1 h2) h3
    unfold prodN; simp only [List.foldl_cons, List.foldl_nil, Nat.one_mul]; omega
  | _ :: _ :: _ :: _ :: _, h, _ => by simp at h
theorem cells_item {c : List Nat} {ns : List Nat} (h : c ∈ cellsN ns) : c.length = ns.length := ((mem_cellsN ns c).mp h).1
theorem v_tuples_below : Body 5 t_tuples_below s_tuples_below := by
  rintro ds m Q ⟨ns, rfl, hl, hk, q⟩
  have hq := end_rt (m0 := m) q
  unfold t_tuples_below
  walk_at "d"
  refine ⟨by decide, by decide, _, .inl rfl, ?_⟩
  refine forGo_take (enc := nD) (fun pre r m' => m' = m ∧ ∃ x2 x3 x4, r = [some (.lst (ns.map nD)), some (.lst ((cellsN pre).map tD)), x2, x3, x4]) ns [] _ _ _ rfl ⟨rfl, none, none, none, rfl⟩ ?_ ?_
  · rintro pre k post r m' P e ⟨rfl, x2, x3, x4, rfl⟩ hP
    unfold nD
    walk_at "d"
    have hk6 : k ≤ 6 := hk k (by rw [e]; simp)
    have hp3 : pre.length < 3 := by have := congrArg List.length e; rw [List.length_append, List.length_cons] at this; omega
    have hpp : prodN pre ≤ 216 := prodN_le pre (by omega) fun x hx => hk x (by rw [e]; simp [hx])
    refine ⟨_, .inl rfl, ?_⟩
    refine lcGo2_maps (enc := tD) (enc1 := fun i : Nat => D.int i) (fun _ => List.range k) (fun row j => tD (row ++ [j])) (fun _ _ => true) (cellsN pre) [] _ ?_ ?_ ?_
    · rw [List.length_nil, Nat.zero_add, List.length_flatMap]
      simp only [filt_true, List.length_range]
      rw [sum_const, cellsN_len, sizeLine_eq]
      have := Nat.mul_le_mul hpp hk6
      omega
    · intro row hrow R hR
      walk_at "d"
      have hrl := cells_item hrow
      refine hR _ (fun P2 h2 => ?_) fun j hj A B hAB => ?_
      · walk_at "d"
        refine ⟨by omega, by omega, ?_⟩
        rw [rgD_map]
        exact h2
      · rw [if_pos rfl] at hAB
        walk_at "d"
        refine ⟨row.map nD, by unfold tD; rfl, ?_⟩
        rw [List.length_append, List.length_map]
        refine ⟨small (k := 1000) (by rw [List.length_singleton]; omega), ?_⟩
        unfold tD at hAB
        rw [List.map_append] at hAB
        exact hAB
    · rw [List.nil_append]
      simp only [filt_true]
      have ec : ((cellsN pre).flatMap fun x => (List.range k).map fun j => tD (x ++ [j])) = (cellsN (pre ++ [k])).map tD := by
        rw [cellsN_snoc, List.map_flatMap]
        simp only [List.map_map]
        rfl
      rw [ec]
      exact hP _ _ ⟨rfl, _, _, _, rfl⟩
  · rintro r m' ⟨rfl, x2, x3, x4, rfl⟩
    walk_at "d"
    exact hq
end Mn

set_option linter.all false
set_option maxHeartbeats 4000000
set_option autoImplicit false
set_option maxRecDepth 100000
namespace Mn
open PySem L2
variable [Tbs]
local macro_rules | `(tactic| walk_at "d") => `(tactic| (try simp only [xNext, xSeq, xAsg, xRet, xRetF, xDrop, xIf, xPar, xPut, xAug, xFor, dVar, dC, dOp, dTest, dChain, dAndV, dOrV, dNotV, dAnd, dOr, dNot, dIf, dNil, dCons, dTup, dLst, dLstM, dCB, dIsi, dLc, dLcM, dYes, wipeD, sSeq, sSeq_tup, sSeq_lst, sRg1, sRg2, sZip2, sZip3, sEnum, gV, gN, gC, gT, tupOf_tup, tupOf_pair, aAdd_int, aAdd_tup, aAdd_lst, aSub_int, aMul_int, aDiv_int, aMod_int, aPow_int, aCmp_int, aIx_tup, aIx_lst, aIx_scr, aIx_pair, aMax_int, aMin_int, aInt_bl, aInt_int, aLen_tup, aLen_lst, aLen_scr, aLen_pair, aTuple_lst, aTuple_tup, aEq_int, aNe_int, startD, List.map_cons, List.map_nil, List.length_cons, List.length_nil, List.cons_append, List.nil_append, List.replicate_zero, List.replicate_succ, List.append_nil, List.getElem?_cons_zero, List.getElem?_cons_succ, List.set_cons_zero, List.set_cons_succ, Option.some.injEq, exists_eq_left', exists_eq_left, exists_eq', D.int.injEq, D.bl.injEq, D.tup.injEq, D.lst.injEq, D.pair.injEq, D.ref.injEq, List.cons.injEq, Nat.sub_self, Nat.zero_add, Nat.add_sub_cancel, seqI_tup, seqI_lst, seqOf_tup, seqOf_lst, tyN_tup, tyN_lst, tyN_int, tyN_bl, tyN_str, tyN_non, isi_tt, at_0, at_1, at_2, at_3, Option.map_some, true_and, and_true, if_true, Bool.false_eq_true, if_false, Bool.not_true, Bool.not_false, ↓reduceIte, Nat.reduceAdd, Nat.reduceSub, exists_and_left, and_assoc]))
/-! a supply of numbers: a mutable list of three -/
def PenU (m : Mu) (p : Addr) (n : Nat) (m' : Mu) : Prop := ∃ a b c : Int, m' = up m p (.lst [.int a, .int b, .int c]) ∧ 0 ≤ a ∧ 0 ≤ b ∧ b < 2147483648 ∧ 0 ≤ c ∧ c ≤ n
def Pen (m : Mu) (p : Addr) (n : Nat) : Prop := ∃ a b c : Int, m p = some (.lst [.int a, .int b, .int c]) ∧ 0 ≤ a ∧ 0 ≤ b ∧ b < 2147483648 ∧ 0 ≤ c ∧ c ≤ n
theorem PenU.pen {m m' : Mu} {p : Addr} {n : Nat} (h : PenU m p n m') : Pen m' p n := by
  obtain ⟨a, b, c, rfl, h⟩ := h
  exact ⟨a, b, c, up_same, h⟩
theorem PenU.trans {m m1 m2 : Mu} {p : Addr} {n k : Nat} (h : PenU m p n m1) (h2 : PenU m1 p k m2) : PenU m p k m2 := by
  obtain ⟨a, b, c, rfl, _⟩ := h
  obtain ⟨a', b', c', rfl, h⟩ := h2
  exact ⟨a', b', c', up_up, h⟩
theorem up_self {m : Mu} {p : Addr} {o : MO} (h : m p = some o) : up m p o = m := by
  funext b; unfold up
  by_cases e : b = p
  · rw [if_pos e, e, h]
  · rw [if_neg e]
theorem Pen.u {m : Mu} {p : Addr} {n : Nat} (h : Pen m p n) : PenU m p n m := by
  obtain ⟨a, b, c, e, h⟩ := h
  exact ⟨a, b, c, (up_self e).symm, h⟩
theorem PenU.mono {m m' : Mu} {p : Addr} {n k : Nat} (h : PenU m p n m') (hk : n ≤ k) : PenU m p k m' := by
  obtain ⟨a, b, c, e, h1, h2, h3, h4, h5⟩ := h
  exact ⟨a, b, c, e, h1, h2, h3, h4, by omega⟩
theorem PenU.other {m m' : Mu} {p q : Addr} {n : Nat} (h : PenU m p n m') (hq : q ≠ p) : m' q = m q := by
  obtain ⟨a, b, c, rfl, _⟩ := h
  exact up_ne hq
def s_law_draw : DSp := fun ds m Q => ∃ (p : Addr) (k n : Nat), ds = [.ref p, nD k] ∧ Pen m p n ∧ n ≤ 1000000000 ∧ 1 ≤ k ∧ k ≤ 100000000 ∧ ∀ r m', r < k → PenU m p (n + 1) m' → Q (nD r) m'
theorem l_law_draw : ∀ ds m Q, s_law_draw ds m Q → ds.length = 2 := by rintro ds m Q ⟨s, d, n, rfl, _⟩; rfl
def t_law_draw : DS := (xSeq (xIf (dTest (dOp aGt (dOp aIx (dVar 0) (dC (.int 0))) (dC (.int 0)))) (xSeq (xAsg (dOp aMod (dOp aIx (dVar 0) (dC (.int 0))) (dVar 1)) (gV 3))
  (xSeq (xPut (dOp aDiv (dOp aIx (dVar 0) (dC (.int 0))) (dVar 1)) (dVar 0) (dC (.int 0)))
  (xRet (dVar 3)))) xNext)
  (xSeq (xPut (dOp aAdd (dOp aIx (dVar 0) (dC (.int 2))) (dC (.int 1))) (dVar 0) (dC (.int 2)))
  (xSeq (xAsg (dOp aMod (dOp aMulA (dOp aAdd (dOp aIx (dVar 0) (dC (.int 1))) (dOp aMulA (dC (.int 17)) (dOp aIx (dVar 0) (dC (.int 2))))) (dOp aAdd (dC (.int 69621)) (dOp aMulA (dC (.int 2)) (dOp aIx (dVar 0) (dC (.int 2)))))) (dC (.int 2147483647))) (gV 2))
  (xSeq (xAsg (dOp aMod (dOp aAdd (dOp aAdd (dOp aMulA (dVar 2) (dVar 2)) (dOp aMulA (dC (.int 40503)) (dOp aIx (dVar 0) (dC (.int 2))))) (dC (.int 5))) (dC (.int 2147483629))) (gV 2))
  (xRet (dOp aMod (dOp aDiv (dOp aMod (dOp aMulA (dVar 2) (dC (.int 48271))) (dC (.int 2147483647))) (dC (.int 32))) (dVar 1)))))))
theorem v_law_draw : Body 4 t_law_draw s_law_draw := by
  rintro ds m Q ⟨p, k, n, rfl, ⟨a, b, c, hp, ha, hb, hb2, hc, hcn⟩, hn, hk1, hk2, q⟩
  have hkk : (0 : Int) < k := by omega
  have hkl : (k : Int) < 1073741824 := by omega
  unfold t_law_draw nD
  walk_at "d"
  simp only [aIx_ref hp]
  walk_at "d"
  by_cases h0 : 0 < a
  · simp only [h0, decide_true, ↓reduceIte]
    iterate 2 (simp only [aIx_ref hp]; walk_at "d")
    refine ⟨hkk, ⟨hkk, hkl⟩, _, hp, 0, rfl, ?_⟩
    walk_at "d"
    have r1 := Int.emod_nonneg a (show (k : Int) ≠ 0 by omega)
    have r2 := Int.emod_lt_of_pos a hkk
    have z := q (a % k).toNat (up m p (.lst [.int (a / k), .int b, .int c])) (by omega) ⟨a / k, b, c, rfl, Int.ediv_nonneg ha (by omega), hb, hb2, hc, by omega⟩
    unfold nD at z
    rw [Int.toNat_of_nonneg r1] at z
    exact ⟨_, fun _ _ e => e, z⟩
  · simp only [h0, decide_false, Bool.false_eq_true, ↓reduceIte]
    simp only [aIx_ref hp]
    walk_at "d"
    refine ⟨_, hp, 2, rfl, ?_⟩
    walk_at "d"
    have hp2 : up m p (.lst [.int a, .int b, .int (c + 1)]) p = some (.lst [.int a, .int b, .int (c + 1)]) := up_same
    iterate 5 (try simp only [aIx_ref hp2]; walk_at "d")
    have hm : ∀ x : Int, 0 ≤ x % 2147483647 ∧ x % 2147483647 < 2147483647 := fun x => ⟨Int.emod_nonneg _ (by decide), Int.emod_lt_of_pos _ (by decide)⟩
    have hm2 : ∀ x : Int, 0 ≤ x % 2147483629 ∧ x % 2147483629 < 2147483629 := fun x => ⟨Int.emod_nonneg _ (by decide), Int.emod_lt_of_pos _ (by decide)⟩
    refine ⟨.inl ⟨by decide, by decide⟩, .inl ⟨by decide, by decide⟩, .inr ⟨by omega, by omega⟩, by decide, .inl ⟨by have := hm ((b + 17 * (c + 1)) * (69621 + 2 * (c + 1))); omega, by have := hm ((b + 17 * (c + 1)) * (69621 + 2 * (c + 1))); omega⟩, .inl ⟨by decide, by decide⟩, by decide, .inr ⟨by decide, by decide⟩, by decide, ⟨by decide, by decide⟩, hkk, ?_⟩
    generalize ((((b + 17 * (c + 1)) * (69621 + 2 * (c + 1)) % 2147483647) * ((b + 17 * (c + 1)) * (69621 + 2 * (c + 1)) % 2147483647) + 40503 * (c + 1) + 5) % 2147483629 * 48271 % 2147483647 / 32) = y
    have r1 := Int.emod_nonneg y (show (k : Int) ≠ 0 by omega)
    have r2 := Int.emod_lt_of_pos y hkk
    have z := q (y % k).toNat _ (by omega) ⟨a, b, c + 1, rfl, ha, hb, hb2, by omega, by omega⟩
    unfold nD at z
    rw [Int.toNat_of_nonneg r1] at z
    exact ⟨_, fun _ _ e => e, z⟩
end Mn

set_option linter.all false
set_option maxHeartbeats 4000000
set_option autoImplicit false
set_option maxRecDepth 100000
namespace Mn
open PySem L2
variable [Tbs]
local macro_rules | `(tactic| walk_at "d") => `(tactic| (try simp only [xNext, xSeq, xAsg, xRet, xRetF, xDrop, xIf, xPar, xPut, xAug, xFor, dVar, dC, dOp, dTest, dChain, dAndV, dOrV, dNotV, dAnd, dOr, dNot, dIf, dNil, dCons, dTup, dLst, dLstM, dCB, dIsi, dLc, dLcM, dYes, wipeD, sSeq, sSeq_tup, sSeq_lst, sRg1, sRg2, sZip2, sZip3, sEnum, gV, gN, gC, gT, tupOf_tup, tupOf_pair, aAdd_int, aAdd_tup, aAdd_lst, aSub_int, aMul_int, aDiv_int, aMod_int, aPow_int, aCmp_int, aIx_tup, aIx_lst, aIx_scr, aIx_pair, aMax_int, aMin_int, aInt_bl, aInt_int, aLen_tup, aLen_lst, aLen_scr, aLen_pair, aTuple_lst, aTuple_tup, aEq_int, aNe_int, startD, List.map_cons, List.map_nil, List.length_cons, List.length_nil, List.cons_append, List.nil_append, List.replicate_zero, List.replicate_succ, List.append_nil, List.getElem?_cons_zero, List.getElem?_cons_succ, List.set_cons_zero, List.set_cons_succ, Option.some.injEq, exists_eq_left', exists_eq_left, exists_eq', D.int.injEq, D.bl.injEq, D.tup.injEq, D.lst.injEq, D.pair.injEq, D.ref.injEq, List.cons.injEq, Nat.sub_self, Nat.zero_add, Nat.add_sub_cancel, seqI_tup, seqI_lst, seqOf_tup, seqOf_lst, tyN_tup, tyN_lst, tyN_int, tyN_bl, tyN_str, tyN_non, isi_tt, at_0, at_1, at_2, at_3, Option.map_some, true_and, and_true, if_true, Bool.false_eq_true, if_false, Bool.not_true, Bool.not_false, ↓reduceIte, Nat.reduceAdd, Nat.reduceSub, exists_and_left, and_assoc]))
def s_law_cell_at : DSp := fun ds m Q => ∃ (ns : List Int) (k : Int), ds = [.scr (ns.map D.int), .int k] ∧ 0 ≤ k ∧ ∀ z, Q (.int z) m
theorem l_law_cell_at : ∀ ds m Q, s_law_cell_at ds m Q → ds.length = 2 := by rintro ds m Q ⟨s, d, rfl, _⟩; rfl
def t_law_cell_at : DS := (xSeq (xIf (dTest (dOp aLt (dVar 1) (dCB aLen (dCons (dVar 0) dNil)))) (xRet (dOp aIx (dVar 0) (dVar 1))) xNext)
  (xRet (dC (.int 0))))
theorem v_law_cell_at : Body 2 t_law_cell_at s_law_cell_at := by
  rintro ds m Q ⟨ns, k, rfl, hk, q⟩
  unfold t_law_cell_at
  walk_at "d"
  simp only [aLen_scr, List.length_map]
  walk_at "d"
  by_cases h : k < (ns.length : Int)
  · simp only [h, decide_true, ↓reduceIte]
    refine ⟨.int (ns[k.toNat]'(by omega)), ?_, end_rt (q _)⟩
    unfold at_
    rw [if_pos hk, List.getElem?_map, List.getElem?_eq_getElem (by omega)]
    rfl
  · simp only [h, decide_false, Bool.false_eq_true, ↓reduceIte]
    exact end_rt (q 0)
def s_law_pen : DSp := fun ds m Q => ∃ z : Int, ds = [.int z] ∧ ∀ p m', m p = none → PenU m p 0 m' → Q (.ref p) m'
theorem l_law_pen : ∀ ds m Q, s_law_pen ds m Q → ds.length = 1 := by rintro ds m Q ⟨s, rfl, _⟩; rfl
def t_law_pen : DS := (xRet (dLstM (dCons (dCB aMax (dCons (dC (.int 0)) (dCons (dOp aSub (dVar 0) (dOp aPow (dC (.int 10)) (dC (.int 18)))) dNil))) (dCons (dOp aMod (dVar 0) (dC (.int 1000000007))) (dCons (dC (.int 0)) dNil)))))
theorem v_law_pen : Body 1 t_law_pen s_law_pen := by
  rintro ds m Q ⟨z, rfl, q⟩
  unfold t_law_pen
  walk_at "d"
  refine ⟨⟨by decide, by decide, by decide⟩, by decide, by decide, fun p hp => ?_⟩
  exact end_rtL (m2 := up m p _) (fun _ _ e => e) (q p _ hp ⟨_, _, _, rfl, by omega, Int.emod_nonneg _ (by decide), by have := Int.emod_lt_of_pos z (show (0 : Int) < 1000000007 by decide); omega, by decide, by decide⟩)
/-- a sequence, apart from the pen -/
def Line (p : Addr) (d : D) (es : List D) (m : Mu) : Prop := d = .lst es ∨ d = .tup es ∨ ∃ a, a ≠ p ∧ d = .ref a ∧ m a = some (.lst es)
def s_law_pick : DSp := fun ds m Q => ∃ (p : Addr) (d : D) (es : List D) (n : Nat), ds = [.ref p, d] ∧ Line p d es m ∧ Pen m p n ∧ n ≤ 1000000000 ∧ 1 ≤ es.length ∧ es.length ≤ 1000 ∧ ∀ d m', d ∈ es → PenU m p (n + 1) m' → Q d m'
theorem l_law_pick : ∀ ds m Q, s_law_pick ds m Q → ds.length = 2 := by rintro ds m Q ⟨s, d, es, n, rfl, _⟩; rfl
def t_law_pick : DS := (xRet (dOp aIx (dVar 1) (dCB s_law_draw (dCons (dVar 0) (dCons (dCB aLen (dCons (dVar 1) dNil)) dNil)))))
theorem v_law_pick : Body 2 t_law_pick s_law_pick := by
  rintro ds m Q ⟨p, d, es, n, rfl, hL, hp, hn, h1, h2, q⟩
  unfold t_law_pick
  rcases hL with rfl | rfl | ⟨a, ha, rfl, hm⟩
  · walk_at "d"
    refine ⟨p, es.length, n, rfl, hp, hn, h1, by omega, fun r m' hr hu => ?_⟩
    unfold nD
    simp only [aIx_lst, at_n]
    exact ⟨es[r], List.getElem?_eq_getElem hr, _, fun _ _ e => e, q _ _ (List.getElem_mem hr) hu⟩
  · walk_at "d"
    refine ⟨p, es.length, n, rfl, hp, hn, h1, by omega, fun r m' hr hu => ?_⟩
    unfold nD
    simp only [aIx_tup, at_n]
    exact ⟨es[r], List.getElem?_eq_getElem hr, _, fun _ _ e => e, q _ _ (List.getElem_mem hr) hu⟩
  · walk_at "d"
    simp only [aLen_ref hm]
    refine ⟨p, es.length, n, rfl, hp, hn, h1, by omega, fun r m' hr hu => ?_⟩
    have hm' : m' a = some (.lst es) := by rw [hu.other ha]; exact hm
    unfold nD
    simp only [aIx_ref hm', at_n]
    exact ⟨es[r], List.getElem?_eq_getElem hr, _, fun _ _ e => e, q _ _ (List.getElem_mem hr) hu⟩
def s_law_same : DSp := fun ds m Q => ∃ x y, ds = [x, y] ∧ purM x m = true ∧ purM y m = true ∧ pyM x m = pyM y m ∧ Shows (pyM x m) ∧ Q (.bl true) m
theorem l_law_same : ∀ ds m Q, s_law_same ds m Q → ds.length = 2 := by rintro ds m Q ⟨s, d, rfl, _⟩; rfl
def t_law_same : DS := (xRet (dOp aEq (dCB aRepr (dCons (dVar 0) dNil)) (dCB aRepr (dCons (dVar 1) dNil))))
theorem v_law_same : Body 2 t_law_same s_law_same := by
  rintro ds m Q ⟨x, y, rfl, h1, h2, h3, h4, q⟩
  unfold t_law_same
  walk_at "d"
  refine ⟨_, rfl, h1, h4, _, rfl, h2, h3 ▸ h4, ?_⟩
  rw [h3]
  simp only [aEq, decide_true]
  exact end_rt q
/-! mixing -/
def MixI (m0 : Mu) (p q1 q2 : Addr) (es : List D) (n0 : Nat) : Nat → Ro → Mu → Prop := fun n r m => ∃ left found : List D,
  r = [some (.ref p), some (.lst es), some (.ref q1), some (.ref q2)] ∧ left.length = n ∧ (found ++ left).Perm es ∧ Pen m p (n0 + found.length) ∧ m q1 = some (.lst left) ∧ m q2 = some (.lst found) ∧
  (∀ a, a ≠ p → a ≠ q1 → a ≠ q2 → m a = m0 a)
def s_law_mixed : DSp := fun ds m Q => ∃ (p : Addr) (es : List D) (n : Nat), ds = [.ref p, .lst es] ∧ Pen m p n ∧ n + es.length ≤ 1000000000 ∧ es.length ≤ 1000 ∧ (∀ d ∈ es, Sm d 20 1000) ∧
  ∀ es' m', es'.Perm es → PenU m p (n + es.length) m' → Q (.lst es') m'
theorem l_law_mixed : ∀ ds m Q, s_law_mixed ds m Q → ds.length = 2 := by rintro ds m Q ⟨s, d, n, rfl, _⟩; rfl
def t_law_mixed : DS := (xSeq (xPar 2 3 (dCons (dCB aListM (dCons (dVar 1) dNil)) (dCons (dLstM dNil) dNil)))
  (xSeq (xWhile (dTest (dOp aNe (dVar 2) (dLst dNil))) (xDrop (dAppend (dVar 3) (dPopAt (dVar 2) (dCB s_law_draw (dCons (dVar 0) (dCons (dCB aLen (dCons (dVar 2) dNil)) dNil)))))))
  (xRetF 3)))
theorem perm_out {α : Type} : ∀ {l : List α} {j : Nat} (hj : j < l.length), ([l[j]] ++ l.eraseIdx j).Perm l
  | a :: r, 0, _ => List.Perm.refl _
  | a :: r, j + 1, hj => by
    have := perm_out (l := r) (j := j) (by simpa using hj)
    simp only [List.eraseIdx_cons_succ, List.getElem_cons_succ, List.singleton_append] at this ⊢
    exact (List.Perm.swap _ _ _).trans (List.Perm.cons _ this)
theorem perm_take {left found es : List D} {j : Nat} (h : (found ++ left).Perm es) (hj : j < left.length) : ((found ++ [left[j]]) ++ left.eraseIdx j).Perm es := by
  refine List.Perm.trans ?_ h
  rw [List.append_assoc]
  refine List.Perm.append_left found ?_
  exact perm_out hj
theorem eqv_nil (left : List D) (m : Mu) : PyData.eqv (PyData.list (pyL left)) (pyM (.lst []) m) = decide (left = []) := by
  cases left with
  | nil => rfl
  | cons d r => rfl
theorem v_law_mixed : Body 4 t_law_mixed s_law_mixed := by
  rintro ds m Q ⟨p, es, n, rfl, hp, hn, hl, hs, q⟩
  unfold t_law_mixed
  walk_at "d"
  simp only [aListM, List.cons.injEq, and_true, exists_eq_left', seqOf_lst, Option.some.injEq, exists_and_left]
  intro q1 h1
  refine ⟨by decide, fun q2 h2 => ?_⟩
  have hpe : ∃ o, m p = some o := by obtain ⟨a, b, c, e, _⟩ := hp; exact ⟨_, e⟩
  have n1 : q1 ≠ p := by rintro rfl; obtain ⟨o, e⟩ := hpe; rw [h1] at e; cases e
  have n12 : q2 ≠ q1 := by rintro rfl; rw [up_same] at h2; cases h2
  have h2' : m q2 = none := by rw [up_ne n12] at h2; exact h2
  have n2 : q2 ≠ p := by rintro rfl; obtain ⟨o, e⟩ := hpe; rw [h2'] at e; cases e
  unfold xWhile
  refine ⟨MixI m p q1 q2 es n, ⟨es.length, es, [], rfl, rfl, by simp, ?_, ?_, up_same, ?_⟩, ?_⟩
  · obtain ⟨a, b, c, e, h⟩ := hp
    exact ⟨a, b, c, by rw [up_ne n2.symm, up_ne n1.symm]; exact e, h⟩
  · rw [up_ne n12.symm, up_same]
  · intro a ha hb hc
    rw [up_ne hc, up_ne hb]
  · rintro k r m' ⟨left, found, rfl, rfl, hpm, hpen, e1, e2, hfr⟩
    have hlen : found.length + left.length = es.length := by rw [← List.length_append]; exact hpm.length_eq
    have hsl : ∀ d ∈ left, Sm d 20 1000 := fun d hd => hs d (hpm.subset (List.mem_append_right _ hd))
    walk_at "d"
    have hok : okD (.ref q1) m' := by
      have z := (sm_lst hsl).ok (by decide) m'
      unfold okD at z ⊢
      simp only [purM, pyM, e1]
      exact z
    have hpy : pyM (.ref q1) m' = .list (pyL left) := by simp only [pyM, e1]
    refine ⟨by decide, ?_⟩
    show okD _ _ ∧ okD _ _ ∧ _
    refine ⟨hok, ok_nil _, ?_⟩
    rw [hpy, eqv_nil]
    refine ⟨_, rfl, ?_⟩
    by_cases h0 : left = []
    · subst h0
      simp only [decide_true, Bool.not_true, Bool.false_eq_true, ↓reduceIte]
      refine ⟨found, e2, ?_⟩
      obtain ⟨a, b, c, ep, hh⟩ := hpen
      have hfl : found.length = es.length := by rw [List.length_nil] at hlen; omega
      refine end_rtL (m2 := up m p (.lst [.int a, .int b, .int c])) (fun x o e => ?_) (q found _ (by simpa using hpm) ⟨a, b, c, rfl, by rw [← hfl]; exact hh⟩)
      by_cases hx : x = p
      · subst hx
        rw [up_same] at e
        rw [er_ne n2.symm, ep]; exact e
      · rw [up_ne hx] at e
        have x1 : x ≠ q1 := by rintro rfl; rw [h1] at e; cases e
        have x2 : x ≠ q2 := by rintro rfl; rw [h2'] at e; cases e
        rw [er_ne x2, hfr x hx x1 x2]; exact e
    · have hpos : 0 < left.length := List.length_pos_iff.mpr h0
      simp only [h0, decide_false, Bool.not_false, ↓reduceIte]
      unfold dAppend dPopAt
      walk_at "d"
      refine ⟨_, e2, _, e1, ?_⟩
      simp only [aLen_ref e1]
      refine ⟨p, left.length, _, rfl, hpen, by omega, by omega, by omega, fun r m2 hr hu => ?_⟩
      have u1 : m2 q1 = some (.lst left) := by rw [hu.other n1]; exact e1
      have u2 : m2 q2 = some (.lst found) := by rw [hu.other n2]; exact e2
      refine ⟨left, left[r], r, rfl, u1, List.getElem?_eq_getElem hr, found, by rw [up_ne n12]; exact u2, by show _ < 2 ^ 24; omega, left.length - 1, by omega, left.eraseIdx r, found ++ [left[r]], rfl, ?_, perm_take hpm hr, ?_, ?_, up_same, ?_⟩
      · rw [List.length_eraseIdx_of_lt hr]
      · obtain ⟨a, b, c, e, hh⟩ := hu.pen
        refine ⟨a, b, c, by rw [up_ne n2.symm, up_ne n1.symm]; exact e, ?_⟩
        rw [List.length_append, List.length_singleton, ← Nat.add_assoc]
        exact hh
      · rw [up_ne n12.symm, up_same]
      · intro x hx x1 x2
        rw [up_ne x2, up_ne x1, hu.other hx]
        exact hfr x hx x1 x2

def s_law_attribute : DSp := fun ds m Q => ∃ (p : Addr) (most n : Nat), ds = [.ref p, nD most] ∧ Pen m p n ∧ n ≤ 900000000 ∧ 1 ≤ most ∧ most ≤ 6 ∧ ∀ a m', At.V a → a.n ≤ most → PenU m p (n + 100) m' → Q a.enc m'
theorem l_law_attribute : ∀ ds m Q, s_law_attribute ds m Q → ds.length = 2 := by rintro ds m Q ⟨s, d, n, rfl, _⟩; rfl
def t_law_attribute : DS := (xSeq (xAsg (dOp aAdd (dC (.int 1)) (dCB s_law_draw (dCons (dVar 0) (dCons (dVar 1) dNil)))) (gV 2))
  (xSeq (xPar 4 5 (dCons (dVar 2) (dCons (dLstM dNil) dNil)))
  (xSeq (xFor (sRg1 (dCB s_law_draw (dCons (dVar 0) (dCons (dC (.int 4)) dNil)))) (gV 3) (xIf (dTest (dOp aGt (dVar 4) (dC (.int 1)))) (xSeq (xAsg (dOp aAdd (dC (.int 1)) (dCB s_law_draw (dCons (dVar 0) (dCons (dOp aSub (dVar 4) (dC (.int 1))) dNil)))) (gV 6))
  (xSeq (xAsg (dLc (sRg1 (dOp aSub (dVar 4) (dVar 6))) [8] (gV 8) dYes (dCB s_law_draw (dCons (dVar 0) (dCons (dVar 6) dNil)))) (gV 7))
  (xSeq (xDrop (dAppend (dVar 5) (dCB aTuple (dCons (dCB s_law_mixed (dCons (dVar 0) (dCons (dOp aAdd (dListRg (dVar 6)) (dVar 7)) dNil))) dNil))))
  (xAsg (dVar 6) (gV 4))))) xNext))
  (xRet (dTup (dCons (dVar 2) (dCons (dCB aTuple (dCons (dVar 5) dNil)) dNil)))))))
/-- the steps so far lead from g0 groups to g groups -/
def leads : Nat → List (List Nat) → Nat → Prop
  | g, [], g1 => g = g1
  | g, s :: r, g1 => ∃ g', Stp1 g s g' ∧ leads g' r g1
theorem leads_snoc : ∀ {ss : List (List Nat)} {g g1 g2 : Nat} {s : List Nat}, leads g ss g1 → Stp1 g1 s g2 → leads g (ss ++ [s]) g2
  | [], g, g1, g2, s, h, h2 => by cases h; exact ⟨g2, h2, rfl⟩
  | a :: r, g, g1, g2, s, ⟨g', h1, h3⟩, h2 => ⟨g', h1, leads_snoc h3 h2⟩
theorem leads_V : ∀ {ss : List (List Nat)} {g g1 : Nat}, leads g ss g1 → stepsV g ss
  | [], _, _, _ => trivial
  | s :: r, g, g1, ⟨g', h1, h2⟩ => ⟨g', h1, leads_V h2⟩
theorem perm_map_inv {α β : Type} {f : α → β} {l : List α} {es : List β} (h : es.Perm (l.map f)) : ∃ l' : List α, es = l'.map f ∧ l'.Perm l := by
  have key : ∀ {xs es : List β}, xs.Perm es → ∀ l : List α, xs = l.map f → ∃ l' : List α, es = l'.map f ∧ l'.Perm l := by
    intro xs es h
    induction h with
    | nil => intro l e; exact ⟨[], rfl, by cases l with | nil => exact List.Perm.refl _ | cons a r => cases e⟩
    | cons x h ih =>
      intro l e
      cases l with
      | nil => cases e
      | cons a r =>
        rw [List.map_cons] at e
        obtain ⟨rfl, e2⟩ := List.cons.inj e
        obtain ⟨l', rfl, h2⟩ := ih r e2
        exact ⟨a :: l', rfl, h2.cons a⟩
    | swap x y zs =>
      intro l e
      match l, e with
      | a :: b :: r, e =>
        rw [List.map_cons, List.map_cons] at e
        obtain ⟨rfl, e2⟩ := List.cons.inj e
        obtain ⟨rfl, rfl⟩ := List.cons.inj e2
        exact ⟨b :: a :: r, rfl, List.Perm.swap _ _ _⟩
    | trans h1 h2 i1 i2 =>
      intro l e
      obtain ⟨l1, e1, p1⟩ := i1 l e
      obtain ⟨l2, e2, p2⟩ := i2 l1 e1
      exact ⟨l2, e2, p2.trans p1⟩
  exact key h.symm l rfl
theorem small' {n k : Nat} (h : n ≤ k) (hk : k < 16777216 := by decide) : n < sizeLine := by show n < 2 ^ 24; omega
theorem rgD_nat (k : Nat) : rgD 0 k = (List.range k).map nD := by
  unfold rgD nD
  rw [show ((k : Int) - 0).toNat = k by omega]
  simp only [Int.zero_add]
def AtI (m0 : Mu) (p q : Addr) (most many n0 : Nat) : Nat → Ro → Mu → Prop := fun i r m => ∃ (g : Nat) (ss : List (List Nat)) (x3 x6 x7 x8 : Option D),
  r = [some (.ref p), some (nD most), some (nD many), x3, some (nD g), some (.ref q), x6, x7, x8] ∧ Pen m p (n0 + 20 * i) ∧ m q = some (.lst (ss.map tD)) ∧ ss.length ≤ i ∧ leads many ss g ∧ 1 ≤ g ∧ g ≤ most ∧
  ∀ a, a ≠ p → a ≠ q → m a = m0 a
theorem v_law_attribute : Body 9 t_law_attribute s_law_attribute := by
  rintro ds m Q ⟨p, most, n, rfl, hp, hn, h1, h6, q⟩
  unfold t_law_attribute
  walk_at "d"
  refine ⟨p, most, n, rfl, hp, by omega, h1, by omega, fun r1 m1 hr1 hu1 => ?_⟩
  simp only [nD]
  walk_at "d"
  refine ⟨by decide, fun q1 hq1 => ?_⟩
  have hm1 : ∃ o, m1 p = some o := by obtain ⟨a, b, c, e, _⟩ := hu1.pen; exact ⟨_, e⟩
  have nq : q1 ≠ p := by rintro rfl; obtain ⟨o, e⟩ := hm1; rw [hq1] at e; cases e
  have hq0 : m q1 = none := by rw [hu1.other nq] at hq1; exact hq1
  have hpen : Pen (up m1 q1 (.lst [])) p (n + 1) := by
    obtain ⟨a, b, c, e, h⟩ := hu1.pen
    exact ⟨a, b, c, by rw [up_ne nq.symm]; exact e, h⟩
  refine ⟨p, 4, n + 1, rfl, hpen, by omega, by decide, by decide, fun r2 m2 hr2 hu2 => ⟨(r2 : Nat), rfl, by omega, by omega, ?_⟩⟩
  rw [rgD_nat]
  refine forGo_inv (AtI m p q1 most (1 + r1) (n + 2)) _ _ _ 0 ⟨1 + r1, [], none, none, none, none, rfl, hu2.pen, ?_, Nat.le_refl _, rfl, by omega, by omega, ?_⟩ ?_ ?_
  · rw [hu2.other nq, up_same]; rfl
  · intro a ha hb
    rw [hu2.other ha, up_ne hb, hu1.other ha]
  · rintro j d r m3 P hd ⟨g, ss, x3, x6, x7, x8, rfl, hpen3, hq3, hss, hle, hg1, hg2, hfr⟩ hP
    have hj : j < 4 := by
      have := (List.getElem?_eq_some_iff.mp hd).1
      rw [List.length_map, List.length_range] at this
      omega
    simp only [nD]
    walk_at "d"
    by_cases hg : (1 : Int) < (g : Int)
    · simp only [hg, decide_true, ↓reduceIte]
      refine ⟨p, g - 1, _, by rw [show ((g : Int) - 1) = ((g - 1 : Nat) : Int) by omega]; rfl, hpen3, by omega, by omega, by omega, fun r4 m4 hr4 hu4 => ?_⟩
      simp only [nD]
      walk_at "d"
      rw [show (g : Int) - (1 + (r4 : Int)) = ((g - (1 + r4) : Nat) : Int) by omega, rgD_nat, show (1 + (r4 : Int)) = ((1 + r4 : Nat) : Int) by omega]
      refine ⟨by omega, by omega, small (k := 1000) (by rw [List.length_map, List.length_range]; omega), ?_⟩
      refine lcGo_inv (fun i acc m' => ∃ ks : List Nat, acc = ks.map nD ∧ ks.length = i ∧ (∀ k ∈ ks, k < 1 + r4) ∧ PenU m3 p (n + 2 + 20 * (0 + j) + 1 + i) m') _ [] m4 0 ⟨[], rfl, rfl, (fun _ h => nomatch h), hu4⟩ ?_ ?_
      · rintro i x acc m5 P5 hx ⟨ks, rfl, hks, hlt, hu5⟩ hP5
        have hi : i < 6 := by
          have := (List.getElem?_eq_some_iff.mp hx).1
          rw [List.length_map, List.length_range] at this
          omega
        walk_at "d"
        refine ⟨p, 1 + r4, _, rfl, hu5.pen, by omega, by omega, by omega, fun r6 m6 hr6 hu6 => ?_⟩
        refine hP5 _ _ ⟨ks ++ [r6], by rw [List.map_append]; rfl, by rw [List.length_append, List.length_singleton, hks], fun k hk => ?_, hu5.trans hu6⟩
        rcases List.mem_append.mp hk with hk | hk
        · exact hlt k hk
        · rw [List.mem_singleton.mp hk]; exact hr6
      · rintro acc m5 ⟨ks, rfl, hks, hlt, hu5⟩
        rw [List.length_map, List.length_range] at hks hu5
        unfold dAppend dListRg
        walk_at "d"
        refine ⟨_, by rw [hu5.other nq]; exact hq3, by omega, by omega, ?_⟩
        rw [rgD_nat, ← List.map_append]
        simp only [List.length_map, List.length_range]
        refine ⟨small (k := 1000) (by omega), p, _, _, rfl, hu5.pen, ?_⟩
        have hlen : (List.range (1 + r4) ++ ks).length = g := by rw [List.length_append, List.length_range]; omega
        rw [List.length_map, hlen]
        refine ⟨by omega, by omega, fun d hd => ?_, fun es' m6 hpm hu6 => ?_⟩
        · obtain ⟨k, hk, rfl⟩ := List.mem_map.mp hd
          have : k < 1000 := by
            rcases List.mem_append.mp hk with hk | hk
            · have := List.mem_range.mp hk; omega
            · have := hlt k hk; omega
          exact (sm_int (i := (k : Int)) (by omega)).mono (by decide) (by decide)
        · obtain ⟨st, rfl, hst⟩ := perm_map_inv hpm
          walk_at "d"
          have hu7 := hu5.trans hu6
          refine ⟨ss.map tD, by rw [hu7.other nq]; exact hq3, small' (k := 1000) (by rw [List.length_map]; omega), ?_⟩
          refine hP _ _ ⟨1 + r4, ss ++ [st], _, _, _, _, rfl, ?_, ?_, ?_, leads_snoc hle ⟨?_, by omega, ?_, ?_⟩, by omega, by omega, ?_⟩
          · obtain ⟨a, b, c, e, hh⟩ := (hu7.mono (k := n + 2 + 20 * (0 + j + 1)) (by omega)).pen
            exact ⟨a, b, c, by rw [up_ne nq.symm]; exact e, hh⟩
          · rw [up_same, List.map_append]; rfl
          · rw [List.length_append, List.length_singleton]; omega
          · rw [hst.length_eq]; exact hlen
          · intro x hx
            rcases List.mem_append.mp (hst.subset hx) with hk | hk
            · exact List.mem_range.mp hk
            · exact hlt x hk
          · intro y hy
            exact hst.symm.subset (List.mem_append_left _ (List.mem_range.mpr hy))
          · intro x hx hx1
            rw [up_ne hx1, hu7.other hx]
            exact hfr x hx hx1
    · simp only [hg, decide_false, Bool.false_eq_true, ↓reduceIte]
      refine hP _ _ ⟨g, ss, _, x6, x7, x8, rfl, ?_, hq3, by omega, hle, hg1, hg2, hfr⟩
      exact (hpen3.u.mono (by omega)).pen
  · rintro r m3 ⟨g, ss, x3, x6, x7, x8, rfl, hpen3, hq3, hss, hle, hg1, hg2, hfr⟩
    rw [List.length_map, List.length_range] at hpen3 hss
    simp only [nD]
    walk_at "d"
    simp only [aTuple_ref hq3]
    walk_at "d"
    obtain ⟨a, b, c, ep, hh⟩ := hpen3
    refine ⟨by decide, end_rtL (m2 := up m p (.lst [.int a, .int b, .int c])) (fun x o e => ?_) (q ⟨1 + r1, ss⟩ _ ⟨by show 1 ≤ 1 + r1; omega, by show 1 + r1 ≤ 6; omega, by show ss.length ≤ 3; omega, leads_V hle⟩ (by show 1 + r1 ≤ most; omega) ?_)⟩
    · by_cases hx : x = p
      · subst hx
        rw [up_same] at e
        rw [ep]; exact e
      · rw [up_ne hx] at e
        have x1 : x ≠ q1 := by rintro rfl; rw [hq0] at e; cases e
        rw [hfr x hx x1]; exact e
    · exact ⟨a, b, c, rfl, hh.1, hh.2.1, hh.2.2.1, hh.2.2.2.1, by have := hh.2.2.2.2; omega⟩
end Mn

set_option linter.all false
set_option maxHeartbeats 4000000
set_option autoImplicit false
set_option maxRecDepth 100000
namespace Mn
open PySem L2
variable [Tbs]
local macro_rules | `(tactic| walk_at "d") => `(tactic| (try simp only [xNext, xSeq, xAsg, xRet, xRetF, xDrop, xIf, xPar, xPar3, xFrz, xPut, xAug, xFor, dVar, dC, dOp, dTest, dChain, dAndV, dOrV, dNotV, dAnd, dOr, dNot, dIf, dNil, dCons, dTup, dLst, dLstM, dCB, dIsi, dLc, dLcM, dYes, wipeD, dSlice, oSome, oNone, aSl_tup, aSl_lst, dNeg, dStar, dNewD, dTupVals, dCountL, dExtend, dAppend, dFrz, dLc2, dCountT, dIndexT, sqf_tup, sqf_lst, sqf_pair, sSeq, sSeq_tup, sSeq_lst, sRg1, sRg2, sZip2, sZip3, sZip4, sEnum, gV, gN, gC, gT, tupOf_tup, tupOf_pair, aAdd_int, aAdd_tup, aAdd_lst, aSub_int, aMul_int, aDiv_int, aMod_int, aPow_int, aCmp_int, aIx_tup, aIx_lst, aIx_scr, aIx_pair, aMax_int, aMin_int, aInt_bl, aInt_int, aLen_tup, aLen_lst, aLen_scr, aLen_pair, aTuple_lst, aTuple_tup, aEq_int, aNe_int, startD, List.map_cons, List.map_nil, List.length_cons, List.length_nil, List.cons_append, List.nil_append, List.replicate_zero, List.replicate_succ, List.append_nil, List.getElem?_cons_zero, List.getElem?_cons_succ, List.set_cons_zero, List.set_cons_succ, Option.some.injEq, exists_eq_left', exists_eq_left, exists_eq', D.int.injEq, D.bl.injEq, D.tup.injEq, D.lst.injEq, D.pair.injEq, D.ref.injEq, List.cons.injEq, Nat.sub_self, Nat.zero_add, Nat.add_sub_cancel, seqI_tup, seqI_lst, seqOf_tup, seqOf_lst, tyN_tup, tyN_lst, tyN_int, tyN_bl, tyN_str, tyN_non, isi_tt, at_0, at_1, at_2, at_3, Option.map_some, true_and, and_true, if_true, Bool.false_eq_true, if_false, Bool.not_true, Bool.not_false, ↓reduceIte, Nat.reduceAdd, Nat.reduceSub, exists_and_left, and_assoc]))
theorem zip_mem {α β : Type} {as : List α} {bs : List β} {p : α × β} (h : p ∈ as.zip bs) : ∃ i : Nat, as[i]? = some p.1 ∧ bs[i]? = some p.2 := by
  obtain ⟨i, hi⟩ := List.mem_iff_getElem?.mp h
  rw [List.getElem?_zip_eq_some] at hi
  exact ⟨i, hi⟩
theorem zipWith_zip {α β γ : Type} (f : α → β → γ) : ∀ (as : List α) (bs : List β), List.zipWith f as bs = (as.zip bs).map fun p => f p.1 p.2
  | [], _ => by simp
  | _ :: _, [] => by simp
  | a :: as, b :: bs => by rw [List.zipWith_cons_cons, List.zip_cons_cons, List.map_cons, zipWith_zip f as bs]
def s_sizes_at : DSp := fun ds m Q => ∃ (s : Sch) (r : List Nat), ds = [encS s, tD r] ∧ SchV s ∧ Roll s r ∧ Q (.lst ((szs s r).map nD)) m
theorem l_sizes_at : ∀ ds m Q, s_sizes_at ds m Q → ds.length = 2 := by rintro ds m Q ⟨s, r, rfl, _⟩; rfl
def t_sizes_at : DS := (xRet (dLc (sZip2 (dVar 0) (dVar 1)) [2, 3] (gT 2 (gC (gV 2) (gC (gV 3) gN))) dYes (dCB s_groups_at (dCons (dVar 2) (dCons (dVar 3) dNil)))))
theorem v_sizes_at : Body 4 t_sizes_at s_sizes_at := by
  rintro ds m Q ⟨s, r, rfl, hs, hr, q⟩
  have hq := end_rt (m0 := m) q
  have hl := hr.len; have h3 := hs.2.1
  unfold t_sizes_at encS tD
  walk_at "d"
  rw [zip2_map]
  refine ⟨small (k := 1000) (by rw [List.length_map, List.length_zip]; omega), ?_⟩
  refine lcGo_maps (fun p : At × Nat => nD (p.1.sz p.2)) _ [] _ (fun p hp K hK => ?_) ?_
  · obtain ⟨i, h1, h2⟩ := zip_mem hp
    walk_at "d"
    exact ⟨p.1, p.2, rfl, hs.2.2.1 _ (List.mem_of_getElem? h1), hr.at h1 h2, hK⟩
  · rw [List.nil_append]
    have e : ((s.zip r).map fun p : At × Nat => nD (p.1.sz p.2)) = (szs s r).map nD := by unfold szs; rw [zipWith_zip, List.map_map]; rfl
    rw [e]
    exact hq
def s_cells_of : DSp := fun ds m Q => ∃ (s : Sch) (r : List Nat), ds = [encS s, tD r] ∧ SchV s ∧ Roll s r ∧ Q (.lst ((cellsOf s r).map tD)) m
theorem l_cells_of : ∀ ds m Q, s_cells_of ds m Q → ds.length = 2 := by rintro ds m Q ⟨s, r, rfl, _⟩; rfl
def t_cells_of : DS := (xRet (dCB s_tuples_below (dCons (dCB s_sizes_at (dCons (dVar 0) (dCons (dVar 1) dNil))) dNil)))
theorem v_cells_of : Body 2 t_cells_of s_cells_of := by
  rintro ds m Q ⟨s, r, rfl, hs, hr, q⟩
  have h3 := hs.2.1
  unfold t_cells_of
  walk_at "d"
  exact ⟨s, r, rfl, hs, hr, szs s r, rfl, by rw [szs_len hr]; exact h3, fun k hk => (szs_le hs hr k hk).2, end_rt q⟩
def s_size_of : DSp := fun ds m Q => ∃ (s : Sch) (r : List Nat), ds = [encS s, tD r] ∧ SchV s ∧ Roll s r ∧ Q (nD (prodN (szs s r))) m
theorem l_size_of : ∀ ds m Q, s_size_of ds m Q → ds.length = 2 := by rintro ds m Q ⟨s, r, rfl, _⟩; rfl
def t_size_of : DS := (xRet (dCB s_product_of (dCons (dCB s_sizes_at (dCons (dVar 0) (dCons (dVar 1) dNil))) dNil)))
theorem v_size_of : Body 2 t_size_of s_size_of := by
  rintro ds m Q ⟨s, r, rfl, hs, hr, q⟩
  have h3 := hs.2.1
  unfold t_size_of
  walk_at "d"
  refine ⟨s, r, rfl, hs, hr, (szs s r).map fun k : Nat => (k : Int), by rw [List.map_map]; rfl, fun n hn => ?_, by rw [List.length_map, szs_len hr]; omega, ?_⟩
  · obtain ⟨k, hk, rfl⟩ := List.mem_map.mp hn
    have := szs_le hs hr k hk
    omega
  · have e : prodI ((szs s r).map fun k : Nat => (k : Int)) = (prodN (szs s r) : Nat) := prod_cast (szs s r) 1
    rw [e]
    exact end_rt q
/-! cells -/
def isCell (s : Sch) (r : List Nat) (d : D) : Bool := match d with
  | .tup ds => decide (ds.length = s.length) && (List.zipWith (fun x (k : Nat) => betw x 0 ((k : Int) - 1)) ds (szs s r)).all id
  | _ => false
def Cell (s : Sch) (r c : List Nat) : Prop := Below c (szs s r)
theorem Cell.ok {s : Sch} {r c : List Nat} (hr : Roll s r) (h : Cell s r c) : isCell s r (tD c) = true := by
  have hl := szs_len hr
  simp only [isCell, tD, List.length_map, Bool.and_eq_true, decide_eq_true_eq]
  refine ⟨by have := h.1; omega, ?_⟩
  rw [List.all_eq_true]
  intro b hb
  obtain ⟨i, hi⟩ := List.mem_iff_getElem?.mp hb
  rw [List.getElem?_zipWith, List.getElem?_map] at hi
  cases hc : c[i]? with
  | none => rw [hc] at hi; simp at hi
  | some x =>
    cases hk : (szs s r)[i]? with
    | none => rw [hc, hk] at hi; simp at hi
    | some k =>
      rw [hc, hk] at hi
      simp only [Option.map_some, Option.some.injEq] at hi
      subst hi
      have := h.2 i x k hc hk
      simp only [betw, nD, id, Bool.and_eq_true, decide_eq_true_eq]
      omega
theorem Cell.len {s : Sch} {r c : List Nat} (hr : Roll s r) (h : Cell s r c) : c.length = s.length := by rw [h.1, szs_len hr]
theorem Cell.at {s : Sch} {r c : List Nat} (h : Cell s r c) {i : Nat} {a : At} {l x : Nat} (ha : s[i]? = some a) (hl : r[i]? = some l) (hx : c[i]? = some x) : x < a.sz l := by
  refine h.2 i x _ hx ?_
  unfold szs
  rw [List.getElem?_zipWith, ha, hl]
theorem cell_iff {s : Sch} {r c : List Nat} : c ∈ cellsOf s r ↔ Cell s r c := mem_cellsN _ _
theorem fine_at {a b : List Nat} (h : fineB a b = true) {i x y : Nat} (hx : a[i]? = some x) (hy : b[i]? = some y) : x ≤ y := by
  unfold fineB at h
  rw [List.all_eq_true] at h
  have : (List.zipWith (fun x y => decide (x ≤ y)) a b)[i]? = some (decide (x ≤ y)) := by rw [List.getElem?_zipWith, hx, hy]
  exact of_decide_eq_true (h _ (List.mem_of_getElem? this))
/-! the cell above -/
theorem abv_len {s : Sch} {r c o : List Nat} (hr : r.length = s.length) (hc : c.length = s.length) (ho : o.length = s.length) : (abv s r c o).length = s.length := by
  unfold abv; simp only [List.length_map, List.length_zip]; omega
theorem abv_at {s : Sch} {r c o : List Nat} {i : Nat} {a : At} {x l k : Nat} (ha : s[i]? = some a) (hx : c[i]? = some x) (hl : r[i]? = some l) (hk : o[i]? = some k) : (abv s r c o)[i]? = some (a.up x l k) := by
  unfold abv
  rw [List.getElem?_map]
  have : (s.zip (c.zip (r.zip o)))[i]? = some (a, x, l, k) := by
    rw [List.getElem?_zip_eq_some, List.getElem?_zip_eq_some, List.getElem?_zip_eq_some]
    exact ⟨ha, hx, hl, hk⟩
  rw [this]; rfl
theorem get_ex {α : Type} {l : List α} {i : Nat} (h : i < l.length) : ∃ x, l[i]? = some x := ⟨l[i], List.getElem?_eq_getElem h⟩
end Mn

set_option linter.all false
set_option maxHeartbeats 4000000
set_option autoImplicit false
set_option maxRecDepth 100000
namespace Mn
open PySem L2
variable [Tbs]
local macro_rules | `(tactic| walk_at "d") => `(tactic| (try simp only [xNext, xSeq, xAsg, xRet, xRetF, xDrop, xIf, xPar, xPar3, xFrz, xPut, xAug, xFor, dVar, dC, dOp, dTest, dChain, dAndV, dOrV, dNotV, dAnd, dOr, dNot, dIf, dNil, dCons, dTup, dLst, dLstM, dCB, dIsi, dLc, dLcM, dYes, wipeD, dSlice, oSome, oNone, aSl_tup, aSl_lst, dNeg, dStar, dNewD, dTupVals, dCountL, dExtend, dAppend, dFrz, dLc2, dCountT, dIndexT, sqf_tup, sqf_lst, sqf_pair, sSeq, sSeq_tup, sSeq_lst, sRg1, sRg2, sZip2, sZip3, sZip4, sEnum, gV, gN, gC, gT, tupOf_tup, tupOf_pair, aAdd_int, aAdd_tup, aAdd_lst, aSub_int, aMul_int, aDiv_int, aMod_int, aPow_int, aCmp_int, aIx_tup, aIx_lst, aIx_scr, aIx_pair, aMax_int, aMin_int, aInt_bl, aInt_int, aLen_tup, aLen_lst, aLen_scr, aLen_pair, aTuple_lst, aTuple_tup, aEq_int, aNe_int, startD, List.map_cons, List.map_nil, List.length_cons, List.length_nil, List.cons_append, List.nil_append, List.replicate_zero, List.replicate_succ, List.append_nil, List.getElem?_cons_zero, List.getElem?_cons_succ, List.set_cons_zero, List.set_cons_succ, Option.some.injEq, exists_eq_left', exists_eq_left, exists_eq', D.int.injEq, D.bl.injEq, D.tup.injEq, D.lst.injEq, D.pair.injEq, D.ref.injEq, List.cons.injEq, Nat.sub_self, Nat.zero_add, Nat.add_sub_cancel, seqI_tup, seqI_lst, seqOf_tup, seqOf_lst, tyN_tup, tyN_lst, tyN_int, tyN_bl, tyN_str, tyN_non, isi_tt, at_0, at_1, at_2, at_3, Option.map_some, true_and, and_true, if_true, Bool.false_eq_true, if_false, Bool.not_true, Bool.not_false, ↓reduceIte, Nat.reduceAdd, Nat.reduceSub, exists_and_left, and_assoc]))
/-! own groups -/
end Mn

set_option linter.all false
set_option maxHeartbeats 4000000
set_option autoImplicit false
set_option maxRecDepth 100000
namespace Mn
open PySem L2
variable [Tbs]
local macro_rules | `(tactic| walk_at "d") => `(tactic| (try simp only [xNext, xSeq, xAsg, xRet, xRetF, xDrop, xIf, xPar, xPar3, xFrz, xPut, xAug, xFor, dVar, dC, dOp, dTest, dChain, dAndV, dOrV, dNotV, dAnd, dOr, dNot, dIf, dNil, dCons, dTup, dLst, dLstM, dCB, dIsi, dLc, dLcM, dYes, wipeD, dSlice, oSome, oNone, aSl_tup, aSl_lst, dNeg, dStar, dNewD, dTupVals, dCountL, dExtend, dAppend, dFrz, dLc2, dCountT, dIndexT, sqf_tup, sqf_lst, sqf_pair, sSeq, sSeq_tup, sSeq_lst, sRg1, sRg2, sZip2, sZip3, sZip4, sEnum, gV, gN, gC, gT, tupOf_tup, tupOf_pair, aAdd_int, aAdd_tup, aAdd_lst, aSub_int, aMul_int, aDiv_int, aMod_int, aPow_int, aCmp_int, aIx_tup, aIx_lst, aIx_scr, aIx_pair, aMax_int, aMin_int, aInt_bl, aInt_int, aLen_tup, aLen_lst, aLen_scr, aLen_pair, aTuple_lst, aTuple_tup, aEq_int, aNe_int, startD, List.map_cons, List.map_nil, List.length_cons, List.length_nil, List.cons_append, List.nil_append, List.replicate_zero, List.replicate_succ, List.append_nil, List.getElem?_cons_zero, List.getElem?_cons_succ, List.set_cons_zero, List.set_cons_succ, Option.some.injEq, exists_eq_left', exists_eq_left, exists_eq', D.int.injEq, D.bl.injEq, D.tup.injEq, D.lst.injEq, D.pair.injEq, D.ref.injEq, List.cons.injEq, Nat.sub_self, Nat.zero_add, Nat.add_sub_cancel, seqI_tup, seqI_lst, seqOf_tup, seqOf_lst, tyN_tup, tyN_lst, tyN_int, tyN_bl, tyN_str, tyN_non, isi_tt, at_0, at_1, at_2, at_3, Option.map_some, true_and, and_true, if_true, Bool.false_eq_true, if_false, Bool.not_true, Bool.not_false, ↓reduceIte, Nat.reduceAdd, Nat.reduceSub, exists_and_left, and_assoc]))
/-! dicts of cells -/
def kyT (c : List Nat) : NestedKey := .tup (c.map fun k : Nat => NestedKey.num (k : Int))
def dct (cs : List (List Nat)) (f : List Nat → D) : List (NestedKey × D) := cs.map fun c => (kyT c, f c)
/-! sums by cells -/
def iD (xs : List Int) : D := .tup (xs.map D.int)
def addF (f : List Nat → Int) (p : List Nat × Int) : List Nat → Int := fun c => if c = p.1 then f c + p.2 else f c
def rolF (kx : List (List Nat × Int)) : List Nat → Int := kx.foldl addF fun _ => 0
def kxOf (s : Sch) (r : List Nat) (xs : List Int) (o : List Nat) : List (List Nat × Int) := ((cellsOf s r).zip xs).map fun p => (abv s r p.1 o, p.2)
def rolN (s : Sch) (r : List Nat) (xs : List Int) (o : List Nat) : List Int := (cellsOf s o).map (rolF (kxOf s r xs o))
def isAm (s : Sch) (r : List Nat) (d : D) : Bool := match d with
  | .tup ds => decide (ds.length = prodN (szs s r)) && ds.all isIntD
  | _ => false
theorem Cell.abv {s : Sch} {r c o : List Nat} (hs : SchV s) (hr : Roll s r) (hc : Cell s r c) (ho : Roll s o) (hf : fineB r o = true) : Cell s o (abv s r c o) := by
  have hrl := hr.len; have hol := ho.len; have hcl := hc.len hr
  refine ⟨by rw [abv_len hrl hcl hol, szs_len ho], fun i x k hx hk => ?_⟩
  obtain ⟨a, l', ha, hl', rfl⟩ := szs_at hk
  have hil : i < s.length := (List.getElem?_eq_some_iff.mp ha).1
  obtain ⟨y, hy⟩ := get_ex (l := c) (i := i) (by omega)
  obtain ⟨l, hl⟩ := get_ex (l := r) (i := i) (by omega)
  rw [abv_at ha hy hl hl'] at hx
  cases hx
  exact (hs.2.2.1 a (List.mem_of_getElem? ha)).up_lt (hc.at ha hl hy) (fine_at hf hl hl') (ho.at ha hl')
theorem cells_small {s : Sch} {r : List Nat} (hs : SchV s) (hr : Roll s r) : (cellsOf s r).length ≤ 60 := by
  unfold cellsOf; rw [cellsN_len]; exact szs_prod hs hr
end Mn

set_option linter.all false
set_option maxHeartbeats 4000000
set_option autoImplicit false
set_option maxRecDepth 100000
namespace Mn
open PySem L2
variable [Tbs]
local macro_rules | `(tactic| walk_at "d") => `(tactic| (try simp only [xNext, xSeq, xAsg, xRet, xRetF, xDrop, xIf, xPar, xPar3, xFrz, xPut, xAug, xFor, dVar, dC, dOp, dTest, dChain, dAndV, dOrV, dNotV, dAnd, dOr, dNot, dIf, dNil, dCons, dTup, dLst, dLstM, dCB, dIsi, dLc, dLcM, dYes, wipeD, dSlice, oSome, oNone, aSl_tup, aSl_lst, dNeg, dStar, dNewD, dTupVals, dCountL, dExtend, dAppend, dFrz, dLc2, dCountT, dIndexT, sqf_tup, sqf_lst, sqf_pair, sSeq, sSeq_tup, sSeq_lst, sRg1, sRg2, sZip2, sZip3, sZip4, sEnum, gV, gN, gC, gT, tupOf_tup, tupOf_pair, aAdd_int, aAdd_tup, aAdd_lst, aSub_int, aMul_int, aDiv_int, aMod_int, aPow_int, aCmp_int, aIx_tup, aIx_lst, aIx_scr, aIx_pair, aMax_int, aMin_int, aInt_bl, aInt_int, aLen_tup, aLen_lst, aLen_scr, aLen_pair, aTuple_lst, aTuple_tup, aEq_int, aNe_int, startD, List.map_cons, List.map_nil, List.length_cons, List.length_nil, List.cons_append, List.nil_append, List.replicate_zero, List.replicate_succ, List.append_nil, List.getElem?_cons_zero, List.getElem?_cons_succ, List.set_cons_zero, List.set_cons_succ, Option.some.injEq, exists_eq_left', exists_eq_left, exists_eq', D.int.injEq, D.bl.injEq, D.tup.injEq, D.lst.injEq, D.pair.injEq, D.ref.injEq, List.cons.injEq, Nat.sub_self, Nat.zero_add, Nat.add_sub_cancel, seqI_tup, seqI_lst, seqOf_tup, seqOf_lst, tyN_tup, tyN_lst, tyN_int, tyN_bl, tyN_str, tyN_non, isi_tt, at_0, at_1, at_2, at_3, Option.map_some, true_and, and_true, if_true, Bool.false_eq_true, if_false, Bool.not_true, Bool.not_false, ↓reduceIte, Nat.reduceAdd, Nat.reduceSub, exists_and_left, and_assoc]))
/-! the law's own view: rows of groups, value by value -/
def rowN (a : At) (l : Nat) : List Nat := (List.range a.n).map fun v => a.up v 0 l
def rowsN (a : At) : List (List Nat) := (List.range (a.ss.length + 1)).map (rowN a)
def lD (l : List Nat) : D := .lst (l.map nD)
def s_law_rows : DSp := fun ds m Q => ∃ a : At, ds = [a.enc] ∧ a.V ∧ Q (.lst ((rowsN a).map lD)) m
theorem l_law_rows : ∀ ds m Q, s_law_rows ds m Q → ds.length = 1 := by rintro ds m Q ⟨a, rfl, _⟩; rfl
def t_law_rows : DS := (xSeq (xAsg (dLstM (dCons (dListRg (dOp aIx (dVar 0) (dC (.int 0)))) dNil)) (gV 1))
  (xSeq (xFor (sSeq (dOp aIx (dVar 0) (dC (.int 1)))) (gV 2) (xDrop (dAppend (dVar 1) (dLc (sSeq (dOp aIx (dVar 1) (dNeg (dC (.int 1))))) [3] (gV 3) dYes (dOp aIx (dVar 2) (dVar 3))))))
  (xRetF 1)))
theorem rowN_zero (a : At) : rowN a 0 = List.range a.n := by
  unfold rowN
  have : ∀ v ∈ List.range a.n, a.up v 0 0 = id v := fun v _ => up_same_ a v 0
  rw [List.map_congr_left this, List.map_id]
theorem at_last (ds : List D) (d : D) : at_ (ds ++ [d]) (-1) = some d := by
  unfold at_
  rw [if_neg (by decide), if_pos (by rw [List.length_append, List.length_singleton]; omega), List.length_append, List.length_singleton]
  rw [show (-1 + ((ds.length + 1 : Nat) : Int)).toNat = ds.length by omega, List.getElem?_append_right (Nat.le_refl _), Nat.sub_self]
  rfl
theorem er_back {m : Mu} {p : Addr} {o : MO} (h : m p = none) : er (up m p o) p = m := er_up h
theorem v_law_rows : Body 4 t_law_rows s_law_rows := by
  rintro ds m Q ⟨a, rfl, ha, q⟩
  have hq := end_rt (m0 := m) q
  have h6 := ha.2.1; have h3 := ha.2.2.1
  unfold t_law_rows At.enc dListRg nD
  walk_at "d"
  refine ⟨by omega, by omega, by decide, fun p hp => ?_⟩
  rw [rgD_nat]
  refine ⟨_, .inr rfl, ?_⟩
  refine forGo_take (enc := tD) (fun pre rr m' => ∃ x2 x3, rr = [some a.enc, some (.ref p), x2, x3] ∧ m' = up m p (.lst (((List.range (pre.length + 1)).map (rowN a)).map lD))) a.ss [] _ _ _ rfl ⟨none, none, rfl, ?_⟩ ?_ ?_
  · rw [List.length_nil, Nat.zero_add, show List.range 1 = [0] from rfl, List.map_cons, List.map_nil, List.map_cons, List.map_nil, rowN_zero]; rfl
  · rintro pre st post rr m' P e ⟨x2, x3, rfl, rfl⟩ hP
    have hpl : pre.length < a.ss.length := by have := congrArg List.length e; rw [List.length_append, List.length_cons] at this; omega
    have hst : st = a.ss.getD pre.length [] := by
      rw [List.getD_eq_getElem?_getD, e, List.getElem?_append_right (Nat.le_refl _), Nat.sub_self]; rfl
    have hs := ha.step hpl
    have hlast : ((List.range (pre.length + 1)).map (rowN a)).map lD = (((List.range pre.length).map (rowN a)).map lD) ++ [lD (rowN a pre.length)] := by
      rw [List.range_succ, List.map_append, List.map_append]; rfl
    walk_at "d"
    refine ⟨_, up_same, ?_⟩
    simp only [aIx_ref up_same]
    refine ⟨lD (rowN a pre.length), by rw [hlast]; exact at_last _ _, _, .inl rfl, small (k := 1000) (by rw [List.length_map]; unfold rowN; rw [List.length_map, List.length_range]; omega), ?_⟩
    refine lcGo_maps (fun g => nD (stepG st g)) (rowN a pre.length) [] _ (fun g hg K hK => ?_) ?_
    · obtain ⟨v, hv, rfl⟩ := List.mem_map.mp hg
      have hlt : a.up v 0 pre.length < a.sz pre.length := ha.up_lt (List.mem_range.mp hv) (Nat.zero_le _) (by omega)
      unfold tD nD
      walk_at "d"
      refine ⟨_, ?_, hK⟩
      rw [at_nat, List.getElem?_map, List.getElem?_eq_getElem (by rw [hst, hs.1]; exact hlt), stepG_get (by rw [hst, hs.1]; exact hlt)]
      rfl
    · rw [List.nil_append]
      refine ⟨_, up_same, small' (k := 1000) (by rw [List.length_map, List.length_map, List.length_range]; omega), ?_⟩
      rw [up_up]
      refine hP _ _ ⟨_, _, rfl, ?_⟩
      have erow : ((rowN a pre.length).map fun g => nD (stepG st g)) = (rowN a (pre.length + 1)).map nD := by
        unfold rowN
        rw [List.map_map, List.map_map]
        refine List.map_congr_left fun v _ => ?_
        simp only [Function.comp]
        rw [up_succ (Nat.zero_le _) hpl, ← hst]
      have e2 : ((List.range (pre.length + 1 + 1)).map (rowN a)).map lD = ((List.range (pre.length + 1)).map (rowN a)).map lD ++ [lD (rowN a (pre.length + 1))] := by
        rw [List.range_succ (n := pre.length + 1), List.map_append, List.map_append]; rfl
      rw [List.length_append, List.length_singleton, e2, erow]
      rfl
  · rintro rr m' ⟨x2, x3, rfl, rfl⟩
    walk_at "d"
    refine ⟨_, up_same, ?_⟩
    rw [er_back hp]
    exact hq
def s_law_tuples3 : DSp := fun ds m Q => ∃ ns : List Nat, ds = [.lst (ns.map nD)] ∧ ns.length ≤ 3 ∧ (∀ k ∈ ns, k ≤ 6) ∧ Q (.lst ((cellsN ns).map tD)) m
def s_law_tuples8 : DSp := fun ds m Q => ∃ ns : List Nat, ds = [.lst (ns.map nD)] ∧ ns.length ≤ 8 ∧ (∀ k ∈ ns, k ≤ 2) ∧ Q (.lst ((cellsN ns).map tD)) m
def s_law_tuples : DSp := fun ds m Q => s_law_tuples3 ds m Q ∨ s_law_tuples8 ds m Q
theorem l_law_tuples : ∀ ds m Q, s_law_tuples ds m Q → ds.length = 1 := by rintro ds m Q (⟨ns, rfl, _⟩ | ⟨ns, rfl, _⟩) <;> rfl
def t_law_tuples : DS := (xSeq (xAsg (dLst (dCons (dTup dNil) dNil)) (gV 1))
  (xSeq (xFor (sSeq (dVar 0)) (gV 2) (xSeq (xAsg (dLstM dNil) (gV 3))
  (xSeq (xFor (sSeq (dVar 1)) (gV 4) (xDrop (dExtend (dVar 3) (dLc (sRg1 (dVar 2)) [5] (gV 5) dYes (dOp aAdd (dVar 4) (dTup (dCons (dVar 5) dNil)))))))
  (xAsg (dFrz 3) (gV 1)))))
  (xRet (dVar 1))))
theorem prodN_le2 (ns : List Nat) (h : ns.length ≤ 8) (hk : ∀ k ∈ ns, k ≤ 2) : prodN ns ≤ 256 := by
  have key : ∀ ns : List Nat, (∀ k ∈ ns, k ≤ 2) → ∀ a, ns.foldl (· * ·) a ≤ a * 2 ^ ns.length := fun ns => by
    induction ns with
    | nil => intro _ a; simp
    | cons k ns ih =>
      intro hk a
      rw [List.foldl_cons, List.length_cons, Nat.pow_succ]
      refine Nat.le_trans (ih (fun x hx => hk x (List.mem_cons_of_mem _ hx)) (a * k)) ?_
      rw [Nat.mul_comm (2 ^ ns.length), ← Nat.mul_assoc]
      exact Nat.mul_le_mul_right _ (Nat.mul_le_mul_left _ (hk k List.mem_cons_self))
  refine Nat.le_trans (key ns hk 1) ?_
  rw [Nat.one_mul]
  exact Nat.pow_le_pow_right (n := 2) (by decide) h
theorem v_law_tuples3 : Body 6 t_law_tuples s_law_tuples3 := by
  rintro ds m Q ⟨ns, rfl, hl, hk, q⟩
  have hq := end_rt (m0 := m) q
  unfold t_law_tuples
  walk_at "d"
  refine ⟨by decide, by decide, _, .inl rfl, ?_⟩
  refine forGo_take (enc := nD) (fun pre r m' => m' = m ∧ ∃ x2 x3 x4 x5, r = [some (.lst (ns.map nD)), some (.lst ((cellsN pre).map tD)), x2, x3, x4, x5]) ns [] _ _ _ rfl ⟨rfl, none, none, none, none, rfl⟩ ?_ ?_
  · rintro pre k post r m' P e ⟨rfl, x2, x3, x4, x5, rfl⟩ hP
    unfold nD
    walk_at "d"
    have hk6 : k ≤ 6 := hk k (by rw [e]; simp)
    have hp3 : pre.length < 3 := by have := congrArg List.length e; rw [List.length_append, List.length_cons] at this; omega
    have hpp : prodN pre ≤ 216 := prodN_le pre (by omega) fun x hx => hk x (by rw [e]; simp [hx])
    refine ⟨by decide, fun p hp => ⟨_, .inl rfl, ?_⟩⟩
    refine forGo_take (enc := tD) (fun done r2 m2 => m2 = up m' p (.lst ((done.flatMap fun row => (List.range k).map fun j => row ++ [j]).map tD)) ∧ ∃ x4 x5, r2 = [some (.lst (ns.map nD)), some (.lst ((cellsN pre).map tD)), some (nD k), some (.ref p), x4, x5]) (cellsN pre) [] _ _ _ rfl ⟨rfl, x4, x5, rfl⟩ ?_ ?_
    · rintro done row post2 r2 m2 P2 e2 ⟨rfl, y4, y5, rfl⟩ hP2
      unfold nD
      walk_at "d"
      have hrow : row ∈ cellsN pre := by rw [e2]; simp
      have hrl := cells_item hrow
      have hdl : done.length ≤ 216 := by
        have := congrArg List.length e2
        rw [cellsN_len, List.length_append] at this
        omega
      refine ⟨_, up_same, by omega, by omega, ?_⟩
      rw [rgD_map]
      refine ⟨small (k := 1000) (by rw [List.length_map, List.length_range]; omega), ?_⟩
      refine lcGo_maps (fun j : Nat => tD (row ++ [j])) (List.range k) [] _ (fun j hj K hK => ?_) ?_
      · unfold tD at hK ⊢
        walk_at "d"
        refine ⟨by decide, small (k := 1000) (by rw [List.length_map]; omega), ?_⟩
        rw [List.map_append] at hK
        exact hK
      · rw [List.nil_append]
        refine ⟨_, up_same, _, rfl, ?_, ?_⟩
        · rw [List.length_map, List.length_map, List.length_range, cellsN_length_step, sizeLine_eq]
          have := Nat.mul_le_mul hdl hk6
          omega
        · rw [up_up]
          refine hP2 _ _ ⟨?_, _, _, rfl⟩
          rw [List.flatMap_append, List.map_append, List.flatMap_cons, List.flatMap_nil, List.append_nil, List.map_map]
          rfl
    · rintro r2 m2 ⟨rfl, y4, y5, rfl⟩
      walk_at "d"
      refine ⟨_, up_same, ?_⟩
      rw [er_back hp, ← cellsN_snoc]
      exact hP _ _ ⟨rfl, _, _, _, _, rfl⟩
  · rintro r m' ⟨rfl, x2, x3, x4, x5, rfl⟩
    walk_at "d"
    exact hq
theorem v_law_tuples8 : Body 6 t_law_tuples s_law_tuples8 := by
  rintro ds m Q ⟨ns, rfl, hl, hk, q⟩
  have hq := end_rt (m0 := m) q
  unfold t_law_tuples
  walk_at "d"
  refine ⟨by decide, by decide, _, .inl rfl, ?_⟩
  refine forGo_take (enc := nD) (fun pre r m' => m' = m ∧ ∃ x2 x3 x4 x5, r = [some (.lst (ns.map nD)), some (.lst ((cellsN pre).map tD)), x2, x3, x4, x5]) ns [] _ _ _ rfl ⟨rfl, none, none, none, none, rfl⟩ ?_ ?_
  · rintro pre k post r m' P e ⟨rfl, x2, x3, x4, x5, rfl⟩ hP
    unfold nD
    walk_at "d"
    have hk6 : k ≤ 2 := hk k (by rw [e]; simp)
    have hp3 : pre.length < 8 := by have := congrArg List.length e; rw [List.length_append, List.length_cons] at this; omega
    have hpp : prodN pre ≤ 256 := prodN_le2 pre (by omega) fun x hx => hk x (by rw [e]; simp [hx])
    refine ⟨by decide, fun p hp => ⟨_, .inl rfl, ?_⟩⟩
    refine forGo_take (enc := tD) (fun done r2 m2 => m2 = up m' p (.lst ((done.flatMap fun row => (List.range k).map fun j => row ++ [j]).map tD)) ∧ ∃ x4 x5, r2 = [some (.lst (ns.map nD)), some (.lst ((cellsN pre).map tD)), some (nD k), some (.ref p), x4, x5]) (cellsN pre) [] _ _ _ rfl ⟨rfl, x4, x5, rfl⟩ ?_ ?_
    · rintro done row post2 r2 m2 P2 e2 ⟨rfl, y4, y5, rfl⟩ hP2
      unfold nD
      walk_at "d"
      have hrow : row ∈ cellsN pre := by rw [e2]; simp
      have hrl := cells_item hrow
      have hdl : done.length ≤ 256 := by
        have := congrArg List.length e2
        rw [cellsN_len, List.length_append] at this
        omega
      refine ⟨_, up_same, by omega, by omega, ?_⟩
      rw [rgD_map]
      refine ⟨small (k := 1000) (by rw [List.length_map, List.length_range]; omega), ?_⟩
      refine lcGo_maps (fun j : Nat => tD (row ++ [j])) (List.range k) [] _ (fun j hj K hK => ?_) ?_
      · unfold tD at hK ⊢
        walk_at "d"
        refine ⟨by decide, small (k := 1000) (by rw [List.length_map]; omega), ?_⟩
        rw [List.map_append] at hK
        exact hK
      · rw [List.nil_append]
        refine ⟨_, up_same, _, rfl, ?_, ?_⟩
        · rw [List.length_map, List.length_map, List.length_range, cellsN_length_step, sizeLine_eq]
          have := Nat.mul_le_mul hdl hk6
          omega
        · rw [up_up]
          refine hP2 _ _ ⟨?_, _, _, rfl⟩
          rw [List.flatMap_append, List.map_append, List.flatMap_cons, List.flatMap_nil, List.append_nil, List.map_map]
          rfl
    · rintro r2 m2 ⟨rfl, y4, y5, rfl⟩
      walk_at "d"
      refine ⟨_, up_same, ?_⟩
      rw [er_back hp, ← cellsN_snoc]
      exact hP _ _ ⟨rfl, _, _, _, _, rfl⟩
  · rintro r m' ⟨rfl, x2, x3, x4, x5, rfl⟩
    walk_at "d"
    exact hq
theorem v_law_tuples : Body 6 t_law_tuples s_law_tuples := by
  rintro ds m Q (h | h)
  · exact v_law_tuples3 ds m Q h
  · exact v_law_tuples8 ds m Q h
theorem rowsN_at {a : At} {l : Nat} (h : l ≤ a.ss.length) : (rowsN a)[l]? = some (rowN a l) := by
  unfold rowsN
  rw [List.getElem?_map, List.getElem?_range (by omega)]; rfl
def grps (s : Sch) (r : List Nat) : List (List Nat) := List.zipWith rowN s r
def s_law_groups : DSp := fun ds m Q => ∃ (s : Sch) (r : List Nat), ds = [encS s, tD r] ∧ SchV s ∧ Roll s r ∧ Q (.lst ((grps s r).map lD)) m
theorem l_law_groups : ∀ ds m Q, s_law_groups ds m Q → ds.length = 2 := by rintro ds m Q ⟨s, r, rfl, _⟩; rfl
def t_law_groups : DS := (xRet (dLc (sZip2 (dVar 0) (dVar 1)) [2, 3] (gT 2 (gC (gV 2) (gC (gV 3) gN))) dYes (dOp aIx (dCB s_law_rows (dCons (dVar 2) dNil)) (dVar 3))))
theorem v_law_groups : Body 4 t_law_groups s_law_groups := by
  rintro ds m Q ⟨s, r, rfl, hs, hr, q⟩
  have hq := end_rt (m0 := m) q
  have hl := hr.len; have h3 := hs.2.1
  unfold t_law_groups encS tD
  walk_at "d"
  rw [zip2_map]
  refine ⟨small (k := 1000) (by rw [List.length_map, List.length_zip]; omega), ?_⟩
  refine lcGo_maps (fun p : At × Nat => lD (rowN p.1 p.2)) _ [] _ (fun p hp K hK => ?_) ?_
  · obtain ⟨i, h1, h2⟩ := zip_mem hp
    unfold nD
    walk_at "d"
    refine ⟨p.1, rfl, hs.2.2.1 _ (List.mem_of_getElem? h1), ?_⟩
    walk_at "d"
    refine ⟨_, ?_, hK⟩
    rw [at_nat, List.getElem?_map, rowsN_at (hr.at h1 h2)]; rfl
  · rw [List.nil_append]
    have e : ((s.zip r).map fun p : At × Nat => lD (rowN p.1 p.2)) = (grps s r).map lD := by unfold grps; rw [zipWith_zip, List.map_map]; rfl
    rw [e]
    exact hq
theorem aMax_lD {l : List Nat} {m : Mu} {Q : DK} (h : l ≠ []) (q : Q (nD (maxN l)) m) : aMax [lD l] m Q := by
  cases l with
  | nil => exact absurd rfl h
  | cons n r =>
    unfold lD
    simp only [aMax]
    refine ⟨(n : Int), r.map fun k : Nat => (k : Int), ?_, ?_⟩
    · first | rfl | (simp only [List.map_cons, List.map_map, nD]; rfl)
    · have e := maxI_nat (n :: r) (by simp)
      simp only [List.map_cons, maxI] at e
      rw [e]
      exact q
theorem row_max {a : At} (ha : a.V) {l : Nat} (hl : l ≤ a.ss.length) : maxN (rowN a l) + 1 = a.sz l := by
  have hz := ha.sz_le hl
  have h1 : maxN (rowN a l) ≤ a.sz l - 1 := maxN_le fun x hx => by
    obtain ⟨v, hv, rfl⟩ := List.mem_map.mp hx
    have := ha.up_lt (g := v) (lo := 0) (List.mem_range.mp hv) (Nat.zero_le _) hl
    omega
  obtain ⟨x, hx, ex⟩ := ha.up_surj (lo := 0) (Nat.zero_le _) hl (show a.sz l - 1 < a.sz l by omega)
  have h2 : a.sz l - 1 ≤ maxN (rowN a l) := le_maxN (List.mem_map.mpr ⟨x, List.mem_range.mpr hx, ex⟩)
  omega
def s_law_all_cells : DSp := fun ds m Q => ∃ (s : Sch) (r : List Nat), ds = [encS s, tD r] ∧ SchV s ∧ Roll s r ∧ Q (.lst ((cellsOf s r).map tD)) m
theorem l_law_all_cells : ∀ ds m Q, s_law_all_cells ds m Q → ds.length = 2 := by rintro ds m Q ⟨s, r, rfl, _⟩; rfl
def t_law_all_cells : DS := (xRet (dCB s_law_tuples (dCons (dLc (sSeq (dCB s_law_groups (dCons (dVar 0) (dCons (dVar 1) dNil)))) [2] (gV 2) dYes (dOp aAdd (dC (.int 1)) (dCB aMax (dCons (dVar 2) dNil)))) dNil)))
theorem v_law_all_cells : Body 3 t_law_all_cells s_law_all_cells := by
  rintro ds m Q ⟨s, r, rfl, hs, hr, q⟩
  have hl := hr.len; have h3 := hs.2.1
  unfold t_law_all_cells
  walk_at "d"
  refine ⟨s, r, rfl, hs, hr, ?_⟩
  refine ⟨_, .inl rfl, small (k := 1000) (by rw [List.length_map]; unfold grps; rw [List.length_zipWith]; omega), ?_⟩
  have hg : ∀ row ∈ grps s r, ∃ a l, a.V ∧ l ≤ a.ss.length ∧ row = rowN a l := fun row hrow => by
    unfold grps at hrow
    rw [zipWith_zip] at hrow
    obtain ⟨p, hp, rfl⟩ := List.mem_map.mp hrow
    obtain ⟨i, h1, h2⟩ := zip_mem hp
    exact ⟨p.1, p.2, hs.2.2.1 _ (List.mem_of_getElem? h1), hr.at h1 h2, rfl⟩
  refine lcGo_maps (fun row : List Nat => nD (maxN row + 1)) (grps s r) [] _ (fun row hrow K hK => ?_) ?_
  · obtain ⟨a, l, ha, hla, rfl⟩ := hg row hrow
    walk_at "d"
    refine aMax_lD ?_ ?_
    · intro e
      have := congrArg List.length e
      unfold rowN at this
      rw [List.length_map, List.length_range, List.length_nil] at this
      have := ha.1
      omega
    · unfold nD at hK ⊢
      walk_at "d"
      rw [show (1 : Int) + (maxN (rowN a l) : Int) = ((maxN (rowN a l) + 1 : Nat) : Int) by omega]
      exact hK
  · rw [List.nil_append]
    have e : ((grps s r).map fun row : List Nat => nD (maxN row + 1)) = (szs s r).map nD := by
      unfold grps szs
      rw [zipWith_zip, zipWith_zip, List.map_map, List.map_map]
      refine List.map_congr_left fun p hp => ?_
      obtain ⟨i, h1, h2⟩ := zip_mem hp
      simp only [Function.comp]
      rw [row_max (hs.2.2.1 _ (List.mem_of_getElem? h1)) (hr.at h1 h2)]
    rw [e]
    exact .inl ⟨szs s r, rfl, by rw [szs_len hr]; exact h3, fun k hk => (szs_le hs hr k hk).2, end_rt q⟩
end Mn

set_option linter.all false
set_option maxHeartbeats 4000000
set_option autoImplicit false
set_option maxRecDepth 100000
namespace Mn
open PySem L2
variable [Tbs]
local macro_rules | `(tactic| walk_at "d") => `(tactic| (try simp only [xNext, xSeq, xAsg, xRet, xRetF, xDrop, xIf, xPar, xPut, xAug, xFor, dVar, dC, dOp, dTest, dChain, dAndV, dOrV, dNotV, dAnd, dOr, dNot, dIf, dNil, dCons, dTup, dLst, dLstM, dCB, dIsi, dLc, dLcM, dYes, wipeD, sSeq, sSeq_tup, sSeq_lst, sRg1, sRg2, sZip2, sZip3, sEnum, gV, gN, gC, gT, tupOf_tup, tupOf_pair, aAdd_int, aAdd_tup, aAdd_lst, aSub_int, aMul_int, aDiv_int, aMod_int, aPow_int, aCmp_int, aIx_tup, aIx_lst, aIx_scr, aIx_pair, aMax_int, aMin_int, aInt_bl, aInt_int, aLen_tup, aLen_lst, aLen_scr, aLen_pair, aTuple_lst, aTuple_tup, aEq_int, aNe_int, startD, List.map_cons, List.map_nil, List.length_cons, List.length_nil, List.cons_append, List.nil_append, List.replicate_zero, List.replicate_succ, List.append_nil, List.getElem?_cons_zero, List.getElem?_cons_succ, List.set_cons_zero, List.set_cons_succ, Option.some.injEq, exists_eq_left', exists_eq_left, exists_eq', D.int.injEq, D.bl.injEq, D.tup.injEq, D.lst.injEq, D.pair.injEq, D.ref.injEq, List.cons.injEq, Nat.sub_self, Nat.zero_add, Nat.add_sub_cancel, seqI_tup, seqI_lst, seqOf_tup, seqOf_lst, tyN_tup, tyN_lst, tyN_int, tyN_bl, tyN_str, tyN_non, isi_tt, at_0, at_1, at_2, at_3, Option.map_some, true_and, and_true, if_true, Bool.false_eq_true, if_false, Bool.not_true, Bool.not_false, ↓reduceIte, Nat.reduceAdd, Nat.reduceSub, exists_and_left, and_assoc]))
theorem prodN_snoc (l : List Nat) (a : Nat) : prodN (l ++ [a]) = prodN l * a := by unfold prodN; rw [List.foldl_append]; rfl
def mss : List (List Nat) := [[6], [6, 6], [4, 6], [3, 3, 3], [6, 3, 3], [2, 4, 4], [6, 5, 2]]
theorem mss_ok : ∀ ms ∈ mss, 1 ≤ ms.length ∧ ms.length ≤ 3 ∧ prodN ms ≤ 60 ∧ ∀ k ∈ ms, 1 ≤ k ∧ k ≤ 6 := by decide
def s_law_scheme : DSp := fun ds m Q => ∃ (p : Addr) (n : Nat), ds = [.ref p] ∧ Pen m p n ∧ n ≤ 800000000 ∧ ∀ s m', SchV s → PenU m p (n + 400) m' → Q (encS s) m'
theorem l_law_scheme : ∀ ds m Q, s_law_scheme ds m Q → ds.length = 1 := by rintro ds m Q ⟨s, n, rfl, _⟩; rfl
def t_law_scheme : DS := (xSeq (xAsg (dCB s_law_pick (dCons (dVar 0) (dCons (dLst (dCons (dLst (dCons (dC (.int 6)) dNil)) (dCons (dLst (dCons (dC (.int 6)) (dCons (dC (.int 6)) dNil))) (dCons (dLst (dCons (dC (.int 4)) (dCons (dC (.int 6)) dNil))) (dCons (dLst (dCons (dC (.int 3)) (dCons (dC (.int 3)) (dCons (dC (.int 3)) dNil)))) (dCons (dLst (dCons (dC (.int 6)) (dCons (dC (.int 3)) (dCons (dC (.int 3)) dNil)))) (dCons (dLst (dCons (dC (.int 2)) (dCons (dC (.int 4)) (dCons (dC (.int 4)) dNil)))) (dCons (dLst (dCons (dC (.int 6)) (dCons (dC (.int 5)) (dCons (dC (.int 2)) dNil)))) dNil)))))))) dNil))) (gV 1))
  (xRet (dCB aTuple (dCons (dLc (sSeq (dVar 1)) [2] (gV 2) dYes (dCB s_law_attribute (dCons (dVar 0) (dCons (dVar 2) dNil)))) dNil))))
theorem v_law_scheme : Body 3 t_law_scheme s_law_scheme := by
  rintro ds m Q ⟨p, n, rfl, hp, hn, q⟩
  unfold t_law_scheme
  walk_at "d"
  refine ⟨by decide, by decide, by decide, by decide, by decide, by decide, by decide, by decide, p, _, _, n, rfl, Or.inl rfl, hp, by omega, by decide, by decide, fun d m1 hd hu1 => ?_⟩
  have hd' : d ∈ mss.map fun ms => D.lst (ms.map nD) := hd
  obtain ⟨ms, hms, rfl⟩ := List.mem_map.mp hd'
  obtain ⟨k1, k2, k3, k4⟩ := mss_ok ms hms
  walk_at "d"
  refine ⟨_, .inl rfl, by rw [List.length_map]; exact small (k := 1000) (by omega), ?_⟩
  refine lcGo_inv (fun i acc m' => ∃ s : Sch, acc = s.map At.enc ∧ s.length = i ∧ (∀ a ∈ s, a.V) ∧ prodN (s.map At.n) ≤ prodN (ms.take i) ∧ PenU m p (n + 1 + 100 * i) m') _ [] m1 0 ⟨[], rfl, rfl, (fun _ h => nomatch h), Nat.le_refl _, hu1⟩ ?_ ?_
  · rintro i x acc m5 P5 hx ⟨s, rfl, hks, hV, hpr, hu5⟩ hP5
    rw [List.getElem?_map] at hx
    obtain ⟨k, hk, rfl⟩ := Option.map_eq_some_iff.mp hx
    have hki := k4 k (List.mem_of_getElem? hk)
    have hi : i < ms.length := (List.getElem?_eq_some_iff.mp hk).1
    walk_at "d"
    refine ⟨p, k, _, rfl, hu5.pen, by omega, hki.1, hki.2, fun a m6 ha hak hu6 => ?_⟩
    refine hP5 _ _ ⟨s ++ [a], by rw [List.map_append]; rfl, by rw [List.length_append, List.length_singleton, hks], fun b hb => ?_, ?_, (hu5.trans hu6).mono (by omega)⟩
    · rcases List.mem_append.mp hb with hb | hb
      · exact hV b hb
      · rw [List.mem_singleton.mp hb]; exact ha
    · rw [List.map_append, List.map_singleton, prodN_snoc, Nat.zero_add, List.take_add_one, hk, Option.toList_some, prodN_snoc]
      rw [Nat.zero_add] at hpr
      exact Nat.mul_le_mul hpr hak
  · rintro acc m5 ⟨s, rfl, hks, hV, hpr, hu5⟩
    rw [List.length_map] at hks hu5 hpr
    walk_at "d"
    rw [Nat.zero_add, List.take_length] at hpr
    exact ⟨_, fun _ _ e => e, q s _ ⟨by omega, by omega, hV, by omega⟩ (hu5.mono (by omega))⟩
theorem roll_of {s : Sch} {l : List Nat} (hl : l.length = s.length) (h : ∀ (i : Nat) (a : At) (k : Nat), s[i]? = some a → l[i]? = some k → k ≤ a.ss.length) : Roll s l := by
  simp only [Roll, tD, isRoll, Bool.and_eq_true, decide_eq_true_eq, List.length_map]
  refine ⟨hl, ?_⟩
  rw [List.all_eq_true]
  intro b hb
  obtain ⟨i, hi, rfl⟩ := List.mem_iff_getElem.mp hb
  rw [List.length_zipWith, List.length_map] at hi
  rw [List.getElem_zipWith, List.getElem_map]
  have := h i s[i] l[i] (List.getElem?_eq_getElem (by omega)) (List.getElem?_eq_getElem (by omega))
  simp only [betw, nD, id, Bool.and_eq_true, decide_eq_true_eq]
  omega
end Mn

set_option linter.all false
set_option maxHeartbeats 4000000
set_option autoImplicit false
set_option maxRecDepth 100000
namespace Mn
open PySem L2
variable [Tbs]
local macro_rules | `(tactic| walk_at "d") => `(tactic| (try simp only [xNext, xSeq, xAsg, xRet, xRetF, xDrop, xIf, xPar, xPar3, xFrz, xPut, xAug, xFor, dVar, dC, dOp, dTest, dChain, dAndV, dOrV, dNotV, dAnd, dOr, dNot, dIf, dNil, dCons, dTup, dLst, dLstM, dCB, dIsi, dLc, dLcM, dYes, wipeD, dSlice, oSome, oNone, aSl_tup, aSl_lst, dNeg, dStar, dNewD, dTupVals, dCountL, dExtend, dAppend, dFrz, dLc2, dCountT, dIndexT, sqf_tup, sqf_lst, sqf_pair, sSeq, sSeq_tup, sSeq_lst, sRg1, sRg2, sZip2, sZip3, sZip4, sEnum, gV, gN, gC, gT, tupOf_tup, tupOf_pair, aAdd_int, aAdd_tup, aAdd_lst, aSub_int, aMul_int, aDiv_int, aMod_int, aPow_int, aCmp_int, aIx_tup, aIx_lst, aIx_scr, aIx_pair, aMax_int, aMin_int, aInt_bl, aInt_int, aLen_tup, aLen_lst, aLen_scr, aLen_pair, aTuple_lst, aTuple_tup, aEq_int, aNe_int, startD, List.map_cons, List.map_nil, List.length_cons, List.length_nil, List.cons_append, List.nil_append, List.replicate_zero, List.replicate_succ, List.append_nil, List.getElem?_cons_zero, List.getElem?_cons_succ, List.set_cons_zero, List.set_cons_succ, Option.some.injEq, exists_eq_left', exists_eq_left, exists_eq', D.int.injEq, D.bl.injEq, D.tup.injEq, D.lst.injEq, D.pair.injEq, D.ref.injEq, List.cons.injEq, Nat.sub_self, Nat.zero_add, Nat.add_sub_cancel, seqI_tup, seqI_lst, seqOf_tup, seqOf_lst, tyN_tup, tyN_lst, tyN_int, tyN_bl, tyN_str, tyN_non, isi_tt, at_0, at_1, at_2, at_3, Option.map_some, true_and, and_true, if_true, Bool.false_eq_true, if_false, Bool.not_true, Bool.not_false, ↓reduceIte, Nat.reduceAdd, Nat.reduceSub, exists_and_left, and_assoc]))
/-! the law's own sums -/
/-! all rollups -/
def rolls (s : Sch) : List (List Nat) := cellsN (s.map fun a => a.ss.length + 1)
theorem rolls_roll {s : Sch} {r : List Nat} (h : r ∈ rolls s) : Roll s r := by
  rw [rolls, mem_cellsN] at h
  obtain ⟨h1, h2⟩ := h
  rw [List.length_map] at h1
  exact roll_of h1 fun i a k ha hk => by
    have := h2 i k (a.ss.length + 1) hk (by rw [List.getElem?_map, ha]; rfl)
    omega
def s_law_all_rollups : DSp := fun ds m Q => ∃ s : Sch, ds = [encS s] ∧ SchV s ∧ Q (.lst ((rolls s).map tD)) m
theorem l_law_all_rollups : ∀ ds m Q, s_law_all_rollups ds m Q → ds.length = 1 := by rintro ds m Q ⟨s, rfl, _⟩; rfl
def t_law_all_rollups : DS := (xRet (dCB s_law_tuples (dCons (dLc (sSeq (dVar 0)) [1] (gV 1) dYes (dOp aAdd (dCB aLen (dCons (dOp aIx (dVar 1) (dC (.int 1))) dNil)) (dC (.int 1)))) dNil)))
theorem v_law_all_rollups : Body 2 t_law_all_rollups s_law_all_rollups := by
  rintro ds m Q ⟨s, rfl, hs, q⟩
  have h3 := hs.2.1
  have e0 : encS s = .tup (s.map At.enc) := rfl
  unfold t_law_all_rollups
  walk_at "d"
  refine ⟨_, Or.inr e0, small (k := 1000) (by rw [List.length_map]; omega), ?_⟩
  refine lcGo_maps (enc := At.enc) (fun a : At => nD (a.ss.length + 1)) s [] _ (fun a ha K hK => ?_) ?_
  · unfold At.enc
    walk_at "d"
    rw [List.length_map]
    exact hK
  · rw [List.nil_append]
    refine .inl ⟨s.map fun a : At => a.ss.length + 1, by rw [List.map_map]; rfl, by rw [List.length_map]; exact h3, fun k hk => ?_, end_rt q⟩
    obtain ⟨a, ha, rfl⟩ := List.mem_map.mp hk
    have := (hs.2.2.1 a ha).2.2.1
    omega
/-! tables drawn -/
def TabI (m0 : Mu) (p p2 : Addr) (s : Sch) (N w n : Nat) : Nat → Ro → Mu → Prop := fun i rr m' =>
  (∃ x3 x6, rr = [some (.ref p), some (encS s), some (.ref p2), x3, some (nD N), some (nD w), x6]) ∧ Pen m' p (n + 4 * i) ∧
  (∃ xs : List Int, xs.length = i ∧ (∀ x ∈ xs, -1000000 ≤ x ∧ x ≤ 1000000) ∧ m' p2 = some (.lst (xs.map D.int))) ∧ ∀ b, b ≠ p → b ≠ p2 → m' b = m0 b
/-- the last part of a lap: the amount is put behind -/
theorem TabI.put {m0 : Mu} {p p2 : Addr} {s : Sch} {N w n i : Nat} (n2 : p2 ≠ p) (hi : i ≤ 60) {m' : Mu} {P : Ro → Mu → Prop} (hP : ∀ r m, TabI m0 p p2 s N w n (i + 1) r m → P r m) {xs : List Int} (hx : xs.length = i) (hb : ∀ x ∈ xs, -1000000 ≤ x ∧ x ≤ 1000000)
    (e2 : m' p2 = some (.lst (xs.map D.int))) (hfr : ∀ b, b ≠ p → b ≠ p2 → m' b = m0 b) {k : Nat} (hp : Pen m' p k) (hk : k ≤ n + 4 * (i + 1)) {x : Int} (h1 : -1000000 ≤ x) (h2 : x ≤ 1000000) {x3 : Option D} :
    ∃ ds0, m' p2 = some (.lst ds0) ∧ ∃ ds, m' p2 = some (.lst ds) ∧ ds.length < sizeLine ∧ P [some (.ref p), some (encS s), some (.ref p2), x3, some (nD N), some (nD w), some (.int x)] (up m' p2 (.lst (ds ++ [.int x]))) := by
  refine ⟨_, e2, _, e2, small' (k := 1000) (by rw [List.length_map]; omega), hP _ _ ⟨⟨_, _, rfl⟩, ?_, ⟨xs ++ [x], by rw [List.length_append, List.length_singleton, hx], ?_, ?_⟩, ?_⟩⟩
  · obtain ⟨a, b, c, e, hh⟩ := hp
    exact ⟨a, b, c, by rw [up_ne n2.symm]; exact e, by omega⟩
  · intro y hy
    rcases List.mem_append.mp hy with hy | hy
    · exact hb y hy
    · rw [List.mem_singleton] at hy; subst hy; exact ⟨h1, h2⟩
  · rw [up_same, List.map_append]; rfl
  · intro b hb1 hb2
    rw [up_ne hb2]; exact hfr b hb1 hb2
end Mn

set_option linter.all false
set_option maxHeartbeats 4000000
set_option autoImplicit false
set_option maxRecDepth 100000
namespace Mn
open PySem L2
variable [Tbs]
local macro_rules | `(tactic| walk_at "d") => `(tactic| (try simp only [xNext, xSeq, xAsg, xRet, xRetF, xDrop, xIf, xPar, xPar3, xFrz, xPut, xAug, xFor, dVar, dC, dOp, dTest, dChain, dAndV, dOrV, dNotV, dAnd, dOr, dNot, dIf, dNil, dCons, dTup, dLst, dLstM, dCB, dIsi, dLc, dLcM, dYes, wipeD, dSlice, oSome, oNone, aSl_tup, aSl_lst, dNeg, dStar, dNewD, dTupVals, dCountL, dExtend, dAppend, dFrz, dLc2, dCountT, dIndexT, sqf_tup, sqf_lst, sqf_pair, sSeq, sSeq_tup, sSeq_lst, sRg1, sRg2, sZip2, sZip3, sZip4, sEnum, gV, gN, gC, gT, tupOf_tup, tupOf_pair, aAdd_int, aAdd_tup, aAdd_lst, aSub_int, aMul_int, aDiv_int, aMod_int, aPow_int, aCmp_int, aIx_tup, aIx_lst, aIx_scr, aIx_pair, aMax_int, aMin_int, aInt_bl, aInt_int, aLen_tup, aLen_lst, aLen_scr, aLen_pair, aTuple_lst, aTuple_tup, aEq_int, aNe_int, startD, List.map_cons, List.map_nil, List.length_cons, List.length_nil, List.cons_append, List.nil_append, List.replicate_zero, List.replicate_succ, List.append_nil, List.getElem?_cons_zero, List.getElem?_cons_succ, List.set_cons_zero, List.set_cons_succ, Option.some.injEq, exists_eq_left', exists_eq_left, exists_eq', D.int.injEq, D.bl.injEq, D.tup.injEq, D.lst.injEq, D.pair.injEq, D.ref.injEq, List.cons.injEq, Nat.sub_self, Nat.zero_add, Nat.add_sub_cancel, seqI_tup, seqI_lst, seqOf_tup, seqOf_lst, tyN_tup, tyN_lst, tyN_int, tyN_bl, tyN_str, tyN_non, isi_tt, at_0, at_1, at_2, at_3, Option.map_some, true_and, and_true, if_true, Bool.false_eq_true, if_false, Bool.not_true, Bool.not_false, ↓reduceIte, Nat.reduceAdd, Nat.reduceSub, exists_and_left, and_assoc]))
/-! the scaffold of a law: the pens and the laps -/
def tKs (t : DS) : DS := (xSeq (xFor (sRg1 (dCB aMax (dCons (dC (.int 1)) (dCons (dCB aMin (dCons (dCB aLen (dCons (dVar 0) dNil)) (dCons (dC (.int 3)) dNil))) dNil)))) (gV 1) (xSeq (xAsg (dCB s_law_pen (dCons (dCB s_law_cell_at (dCons (dVar 0) (dCons (dVar 1) dNil))) dNil)) (gV 2)) t))
  (xRet (dC (.bl true))))
def s_law : DSp := fun ds m Q => ∃ ns : List Int, ds = [.scr (ns.map D.int)] ∧ ns.length ≤ 63 ∧ ∀ m, Q (.bl true) m
theorem l_law : ∀ ds m Q, s_law ds m Q → ds.length = 1 := by rintro ds m Q ⟨ns, rfl, _⟩; rfl
theorem s_law_ok : ∀ (ns : List Int) (Q : DK), ns.length ≤ 63 → (∀ m, Q (.bl true) m) → s_law [.scr (ns.map D.int)] (fun _ => none) Q := fun ns Q hl h => ⟨ns, rfl, hl, h⟩
theorem scaf_ks {n : Nat} {t : DS} {ns : List Int} {m : Mu} {De : DE} {xs : Ro} {x1 x2 : Option D} (hl : ns.length ≤ 63) (hn : xs.length = n) (q : ∀ m, De.rt (.bl true) m)
    (H : ∀ (De : DE) (x1 : Option D) (xs : Ro) (m : Mu) (p : Addr), xs.length = n → Pen m p 0 → (∀ x1 x2 xs m, xs.length = n → De.nx (some (.scr (ns.map D.int)) :: x1 :: x2 :: xs) m) → t De (some (.scr (ns.map D.int)) :: x1 :: some (.ref p) :: xs) m) :
    tKs t De (some (.scr (ns.map D.int)) :: x1 :: x2 :: xs) m := by
  unfold tKs
  walk_at "d"
  simp only [List.length_map]
  refine ⟨by omega, by omega, ?_⟩
  refine forGo_inv (fun i r m => ∃ x1 x2 xs, r = some (D.scr (ns.map D.int)) :: x1 :: x2 :: xs ∧ xs.length = n) _ _ _ 0 ⟨_, _, _, rfl, hn⟩ ?_ ?_
  · rintro j d r m1 P hd ⟨x1, x2, xs, rfl, hn⟩ hP
    obtain ⟨k, hk⟩ : ∃ k : Nat, d = .int k := by
      unfold rgD at hd
      rw [List.getElem?_map] at hd
      obtain ⟨i, _, rfl⟩ := Option.map_eq_some_iff.mp hd
      exact ⟨i, by rw [Int.zero_add]⟩
    subst hk
    walk_at "d"
    refine ⟨ns, _, rfl, by omega, fun z => ⟨z, rfl, fun p m2 hp hu2 => ?_⟩⟩
    walk_at "d"
    exact H _ _ _ _ _ hn hu2.pen fun x1 x2 xs m h => hP _ _ ⟨_, _, _, rfl, h⟩
  · rintro r m1 ⟨x1, x2, xs, rfl, hn⟩
    walk_at "d"
    exact q m1
theorem scaf_laps {n L c : Nat} {t : DS} {ns : List Int} {m : Mu} {De : DE} {xs : Ro} {p : Addr} {x1 x3 : Option D} (hL : L ≤ 100) (hn : xs.length = n) (hp : Pen m p 0)
    (q : ∀ x1 x2 xs m, xs.length = n + 1 → De.nx (some (.scr (ns.map D.int)) :: x1 :: x2 :: xs) m)
    (H : ∀ (De : DE) (j : Nat) (x1 : Option D) (xs : Ro) (m : Mu), j < L → xs.length = n → Pen m p (c * j) → (∀ x1 x3 xs m, xs.length = n → Pen m p (c * (j + 1)) → De.nx (some (.scr (ns.map D.int)) :: x1 :: some (.ref p) :: x3 :: xs) m) →
      t De (some (.scr (ns.map D.int)) :: x1 :: some (.ref p) :: some (.int (j : Nat)) :: xs) m) :
    xFor (sRg1 (dC (.int (L : Nat)))) (gV 3) t De (some (.scr (ns.map D.int)) :: x1 :: some (.ref p) :: x3 :: xs) m := by
  walk_at "d"
  refine ⟨by omega, by omega, ?_⟩
  refine forGo_inv (fun i r m => ∃ x1 x3 xs, r = some (D.scr (ns.map D.int)) :: x1 :: some (.ref p) :: x3 :: xs ∧ xs.length = n ∧ Pen m p (c * i)) _ _ _ 0 ⟨_, _, _, rfl, hn, by rw [Nat.mul_zero]; exact hp⟩ ?_ ?_
  · rintro j d r m1 P hd ⟨x1, x3, xs, rfl, hn, hp⟩ hP
    obtain ⟨hj, rfl⟩ : j < L ∧ d = .int (j : Nat) := by
      unfold rgD at hd
      rw [List.getElem?_map] at hd
      obtain ⟨i, hi, rfl⟩ := Option.map_eq_some_iff.mp hd
      rw [List.getElem?_eq_some_iff] at hi
      obtain ⟨hi, e⟩ := hi
      rw [List.getElem_range] at e
      rw [List.length_range] at hi
      exact ⟨by omega, by rw [← e, Int.zero_add]⟩
    rw [Nat.zero_add] at hp hP
    walk_at "d"
    exact H _ j _ _ _ hj hn hp fun x1 x3 xs m h hp => hP _ _ ⟨_, _, _, rfl, h, hp⟩
  · rintro r m1 ⟨x1, x3, xs, rfl, hn, hp⟩
    exact q _ _ _ _ (by rw [List.length_cons, hn])
/-- a part of the registers, one by one -/
theorem len_cons {xs : Ro} {n : Nat} (h : xs.length = n + 1) : ∃ x ys, xs = x :: ys ∧ ys.length = n := by
  cases xs with
  | nil => cases h
  | cons x ys => exact ⟨x, ys, rfl, by rw [List.length_cons] at h; omega⟩
theorem len_nil {xs : Ro} (h : xs.length = 0) : xs = [] := List.length_eq_zero_iff.mp h
theorem len1 {xs : Ro} (h : xs.length = 1) : ∃ a0, xs = [a0] := let ⟨x, _, e, h⟩ := len_cons h; ⟨x, by rw [e, len_nil h]⟩
theorem len2 {xs : Ro} (h : xs.length = 2) : ∃ a0 a1, xs = [a0, a1] := let ⟨x, ys, e, h⟩ := len_cons h; let ⟨b0, e2⟩ := len1 h; ⟨x, b0, by rw [e, e2]⟩
theorem len3 {xs : Ro} (h : xs.length = 3) : ∃ a0 a1 a2, xs = [a0, a1, a2] := let ⟨x, ys, e, h⟩ := len_cons h; let ⟨b0, b1, e2⟩ := len2 h; ⟨x, b0, b1, by rw [e, e2]⟩
theorem len4 {xs : Ro} (h : xs.length = 4) : ∃ a0 a1 a2 a3, xs = [a0, a1, a2, a3] := let ⟨x, ys, e, h⟩ := len_cons h; let ⟨b0, b1, b2, e2⟩ := len3 h; ⟨x, b0, b1, b2, by rw [e, e2]⟩
theorem len5 {xs : Ro} (h : xs.length = 5) : ∃ a0 a1 a2 a3 a4, xs = [a0, a1, a2, a3, a4] := let ⟨x, ys, e, h⟩ := len_cons h; let ⟨b0, b1, b2, b3, e2⟩ := len4 h; ⟨x, b0, b1, b2, b3, by rw [e, e2]⟩
theorem len6 {xs : Ro} (h : xs.length = 6) : ∃ a0 a1 a2 a3 a4 a5, xs = [a0, a1, a2, a3, a4, a5] := let ⟨x, ys, e, h⟩ := len_cons h; let ⟨b0, b1, b2, b3, b4, e2⟩ := len5 h; ⟨x, b0, b1, b2, b3, b4, by rw [e, e2]⟩
theorem len7 {xs : Ro} (h : xs.length = 7) : ∃ a0 a1 a2 a3 a4 a5 a6, xs = [a0, a1, a2, a3, a4, a5, a6] := let ⟨x, ys, e, h⟩ := len_cons h; let ⟨b0, b1, b2, b3, b4, b5, e2⟩ := len6 h; ⟨x, b0, b1, b2, b3, b4, b5, by rw [e, e2]⟩
theorem len8 {xs : Ro} (h : xs.length = 8) : ∃ a0 a1 a2 a3 a4 a5 a6 a7, xs = [a0, a1, a2, a3, a4, a5, a6, a7] := let ⟨x, ys, e, h⟩ := len_cons h; let ⟨b0, b1, b2, b3, b4, b5, b6, e2⟩ := len7 h; ⟨x, b0, b1, b2, b3, b4, b5, b6, by rw [e, e2]⟩
theorem two_sm {d : D} {k n : Nat} (h : Sm d k n) : Sm (D.lst [d, d]) (k + 1) (2 * (n + 2) + 3) := sm_lst fun e he => by
  simp only [List.mem_cons, List.not_mem_nil, or_false, or_self] at he
  subst he; exact h
theorem sm_tD {l : List Nat} {n : Nat} (hn : l.length ≤ n) (h : ∀ k ∈ l, k ≤ 1000000) : Sm (tD l) 1 (n * 22 + 3) := by
  have z := sm_tup (k := 0) (n := 20) (ds := l.map nD) fun d hd => by
    obtain ⟨k, hk, rfl⟩ := List.mem_map.mp hd
    have := h k hk
    exact sm_int (by omega)
  refine z.mono (Nat.le_refl _) ?_
  rw [List.length_map]
  omega
theorem aNe_str_self {x : Str} {m : Mu} {Q : DK} (q : Q (.bl false) m) : aNe (.str x) (.str x) m Q := by
  simp only [aNe, decide_true, Bool.not_true]; exact q
end Mn

set_option Elab.async false
set_option linter.all false
set_option maxRecDepth 100000
set_option maxHeartbeats 4000000
set_option autoImplicit false
namespace Mn
open PySem PySem.Spec PyProof.Rows L2
variable [Tbs]
/-! sorted(set(t)), t a list or a tuple of tuples of ints -/
abbrev nset (w : World) : Obj := { cls := .type "set", dict := none, data := .set #[] 0 (.fresh 0 0 (!w.params.followText "set-order")) }
section
variable {P : Program} {w : World} {A : Around} {E : Value → Shared → Prop} {s : Shared}
set_option maxHeartbeats 6400000 in
theorem call_set_tt {l : Addr} {its : Array Value} (ks : List (Addr × List Int)) {Q : Value → Shared → Prop} (nh : A.handled = none) (lt : s.heap.IsTuple l its) (ei : its.toList = ks.map fun p => Value.ref p.1)
    (kt : ∀ p ∈ ks, L2.IsT P w s.heap p.2 p.1) (few : ks.length < 64) (ru : A.units + 3 < cLine)
    (fin : ∀ (h' : Heap) (tk : Nat) L es ep t, SetTR P w h' s.heap.objs.size L es ep t → Got ks ks.length L → (∀ b o, s.heap.get? b = some o → h'.get? b = some o) → Q (.ref s.heap.objs.size) { s with heap := h', toks := tk }) : wpAny (model P w) A (call (.type "set") [.ref l]) Q E s := by
  have zi : its.size = ks.length := by rw [← Array.length_toList, ei, List.length_map]
  obtain ⟨_, _, e0⟩ := F.called_set.mro
  have e1 := F.called_set.made; have e2 := F.called_set.sub
  refine wpAny_call (codeAny_of_tree ?_)
  show wpAny _ _ (callAny (.type "set") _) _ _ _
  refine wpAny_pure ⟨Code.quiet_builtin _ (by decide +kernel), codeAny_builtin F.entry_type_call ?_⟩
  rw [Around.under_plain (weight_type_call_type "set" [.ref l] []) rfl]
  have e3 := F.called_set.notType; have e4 := F.called_set.canCreate; have e5 := F.typeCall_set_1 (.ref l)
  repeat (any_goals (first | assumption | wp_step))
  refine codeAny_mono (code_set_led1 (.ref l) (E := E) (Q₁ := fun x t => x = .ref s.heap.objs.size ∧ t = { s with heap := s.heap.push (nset w) }) ⟨rfl, rfl⟩) fun r t hr => ?_
  cases r with
  | error e => exact hr
  | ok fl =>
    cases fl with
    | ret obj =>
      obtain ⟨rfl, rfl⟩ := hr
      have a1 : (s.heap.push (nset w)).get? s.heap.objs.size = some (nset w) := Heap.get?_push_size _ rfl
      have a2 : Shared.TypeIs { s with heap := s.heap.push (nset w) } (.ref s.heap.objs.size) "set" := ⟨_, a1, rfl⟩
      have a3 := F.called_set.init.lookup; have a4 := F.called_set.init.bind (.ref s.heap.objs.size)
      repeat (any_goals (first | assumption | wp_step))
      refine codeAny_mono (codeAny_call_builtin (R := wants (fun r u => r = .none ∧ ∃ h' tk L es ep t, u = { s with heap := h', toks := tk } ∧ SetTR P w h' s.heap.objs.size L es ep t ∧ Got ks ks.length L ∧ (∀ b o, s.heap.get? b = some o → h'.get? b = some o)) E) F.called_set.init.plain F.entry_set_init (check_set_init_1 a2 ?_)) fun r u hu => ?_
      · obtain ⟨⟨c0, d0, x0, y0⟩, hol, hcl, nl, hdl⟩ := lt
        simp only at hcl hdl
        subst hcl; subst hdl
        have b0 : (s.heap.push (nset w)).get? l = some { cls := .type "tuple", dict := d0, data := .seq its nl, slots := y0 } := Heap.get?_push_of_some _ hol
        have b1 := F.sub_tuple_set; have b2 := F.sub_tuple_frozenset
        have b3 : (Value.type "tuple" == Value.type "dict") = false := by decide
        have b4 : (s.heap.push (nset w)).IsTuple l its := ⟨_, b0, rfl, nl, rfl⟩
        unfold Builtin.«set.__init__» noKeywords Builtin.Frozenset.updateFrom
        generalize hPI : pyIter = PI
        wp_walk
        subst hPI
        refine wpAny_pyIter_tuple b4 (wpAny_bind (wpAny_runValue ?_))
        have lS : l < s.heap.objs.size := Heap.lt_size hol
        have nh3 : A.in1.in1.in1.handled = none := by simp [nh]
        have sz : (s.heap.push (nset w)).objs.size = s.heap.objs.size + 1 := Heap.size_push ..
        have lI : l ≠ (s.heap.push (nset w)).objs.size := by rw [sz]; exact Nat.ne_of_lt (Nat.lt_succ_of_lt lS)
        have sf : s.heap.objs.size ∉ [(s.heap.push (nset w)).objs.size, l] := by
          rw [sz]; simp only [List.mem_cons, List.mem_singleton, List.not_mem_nil, or_false, not_or]
          exact ⟨Nat.ne_of_lt (Nat.lt_succ_self _), Nat.ne_of_gt lS⟩
        have gv : ∀ (i : Nat) (v : Value), its[i]? = some v → ∃ p, ks[i]? = some p ∧ v = .ref p.1 := fun i v hv => by
          have q : (ks.map fun p => Value.ref p.1)[i]? = some v := by rw [← ei, Array.getElem?_toList]; exact hv
          rw [List.getElem?_map] at q
          obtain ⟨p, h1, h2⟩ := Option.map_eq_some_iff.mp q
          exact ⟨p, h1, h2.symm⟩
        have nn : ∀ b, s.heap.objs.size ≤ b → s.heap.get? b = none := fun b hb => by
          cases q : s.heap.get? b with
          | none => rfl
          | some o => exact absurd (Nat.lt_of_lt_of_le (Heap.lt_size q) hb) (Nat.lt_irrefl _)
        refine set_update_tups ((Walks.tuple nh3 _ l lI its).toS) s.heap.objs.size sf ks zi few gv s.heap kt (nn _ (Nat.le_refl _)) (fun b hb => nn b (by rw [List.mem_singleton.mp hb, sz]; exact Nat.le_succ _)) ru
          (its.size - 0) 0 _ (by omega) (Nat.zero_le _) ⟨⟨_, Heap.get?_push_size _ rfl, rfl, rfl⟩, (b4.push _)⟩ (fun b o e => Heap.get?_push_of_some _ (Heap.get?_push_of_some _ e)) ?c1 ?c2
        case c1 => exact ⟨[], #[], 0, _, setTR_fresh (Heap.get?_push_of_some _ a1), Got.zero ks⟩
        case c2 =>
          intro s' L es ep t hm hS' g' hkp
          obtain ⟨h', g2, d', tk', os'⟩ := s'
          have eg : g2 = s.gens := hm.gens
          have ed : d' = s.drawn := hm.drawn
          have eo : os' = s.os := hm.os
          subst eg; subst ed; subst eo
          show wpAny _ _ _ _ _ _
          refine wpAny_pure ?_
          show wpAny _ _ (ret Value.none) _ _ _
          rw [zi] at g'
          exact wpAny_pure ⟨rfl, h', tk', L, es, ep, t, rfl, hS', g', hkp⟩
      · cases r with
        | error e => exact hu
        | ok f2 =>
          cases f2 with
          | ret r =>
            obtain ⟨rfl, h', tk, L, es, ep, t, rfl, x1, x2, x3⟩ := hu
            repeat (any_goals (first | assumption | wp_step))
            exact fin _ _ _ _ _ _ x1 x2 x3
          | _ => exact hu.elim
    | _ => exact hr.elim
end
section
variable {X : Cx}
end
/-! over data -/
def tupI (ns : List Int) : D := .tup (ns.map D.int)
/-- the place of a tuple in the order -/
abbrev cd (ns : List Int) : Int := TS.code 64 ns
def srtK (d : D) (Q : D → Prop) : Prop := ∃ (ks : List (List Int)) (n : Nat), seqI d = some (ks.map tupI) ∧ ks.length < 64 ∧ 1 ≤ n ∧ (∀ k ∈ ks, k.length = n ∧ TS.Bd 64 k) ∧
  ∀ out : List (List Int), (∀ k, k ∈ out ↔ k ∈ ks) → out.Nodup → out.Pairwise (fun a b => cd a ≤ cd b) → Q (.lst (out.map tupI))
def dSortSet (ta : DT) : DT := fun r m Q => ta r m fun d m1 => srtK d fun x => Q x m1
section
variable {X : Cx}
end
/-! what is sorted without doubles is known by its members -/
end Mn

set_option Elab.async false
set_option linter.all false
set_option maxRecDepth 100000
set_option maxHeartbeats 4000000
set_option autoImplicit false
namespace Mn
open PySem PySem.Spec PyProof.Rows L2
variable [Tbs]
/-! match a, b: case "word", k: .. -/
abbrev MArm := Str × Int × DS
inductive PDMs (X : Cx) : List MatchCase → List MArm → Prop
  | nil : PDMs X [] []
  | cons {x : Str} {k : Int} {j1 j2 : Nat} {p1 p2 p3 p4 p5 : Pos} {body : List Stmt} {t : DS} {rest : List MatchCase} {ts : List MArm} : PDSs X body t → PDMs X rest ts →
      PDMs X (⟨.MatchSequence [.MatchValue (.Constant (.str x) j1 p1) p2, .MatchValue (.Constant (.int k) j2 p3) p4] p5, none, body⟩ :: rest) ((x, k, t) :: ts)
def mGo : List MArm → Str → Int → DS
  | [], _, _ => xNext
  | (x, k, t) :: ts, y, n => fun De r m => if y = x ∧ n = k then t De r m else mGo ts y n De r m
def xMatch (ta : DA) (ts : List MArm) : DS := fun De r m => ta r m fun ds m1 => ∃ x n, ds = [.str x, .int n] ∧ mGo ts x n De r m1
section
variable {X : Cx}
end
end Mn

set_option Elab.async false
set_option linter.all false
set_option maxRecDepth 100000
set_option maxHeartbeats 4000000
set_option autoImplicit false
namespace Mn
open PySem PySem.Spec PyProof.Rows L2
variable [Tbs]
/-! xs * k, xs a list -/
/-! is, is not, of bools -/
def aIsB : DR2 := fun x y m Q => ∃ a b : Bool, x = .bl a ∧ y = .bl b ∧ Q (.bl (decide (a = b))) m
def aNotB : DR2 := fun x y m Q => ∃ a b : Bool, x = .bl a ∧ y = .bl b ∧ Q (.bl (!decide (a = b))) m
theorem aIsB_bl {a b : Bool} {m : Mu} {Q : DK} : aIsB (.bl a) (.bl b) m Q ↔ Q (.bl (decide (a = b))) m := by simp [aIsB]
theorem aNotB_bl {a b : Bool} {m : Mu} {Q : DK} : aNotB (.bl a) (.bl b) m Q ↔ Q (.bl (!decide (a = b))) m := by simp [aNotB]
/-! data that may be compared, whatever the numbers' size -/
def Cm (d : D) (k : Nat) : Prop := pur d = true ∧ (py d).canLay0 = true ∧ (py d).depth ≤ k
theorem Cm.ok {d : D} {k : Nat} (h : Cm d k) (hk : k ≤ 64) (m : Mu) : okD d m := by
  obtain ⟨e1, e2⟩ := pyM_of h.1 m
  refine ⟨by rw [e2]; exact h.1, ?_⟩
  rw [e1, SeqAt.shaped, h.2.1, Bool.true_and, decide_eq_true_eq]
  have := h.2.2
  omega
theorem Cm.mono {d : D} {k k' : Nat} (h : Cm d k) (hk : k ≤ k') : Cm d k' := ⟨h.1, h.2.1, Nat.le_trans h.2.2 hk⟩
end Mn

set_option linter.all false
set_option maxHeartbeats 4000000
set_option autoImplicit false
set_option maxRecDepth 100000
namespace Mn
open PySem L2
variable [Tbs]
local macro_rules | `(tactic| walk_at "d") => `(tactic| (try simp only [xNext, xSeq, xAsg, xRet, xRetF, xDrop, xIf, xPar, xPar3, xMatch, mGo, xFrz, xPut, xAug, xFor, dVar, dC, dOp, dTest, dChain, dAndV, dOrV, dNotV, dAnd, dOr, dNot, dIf, dNil, dCons, dTup, dLst, dLstM, dCB, dIsi, dLc, dLcM, dYes, wipeD, dSlice, oSome, oNone, aSl_tup, aSl_lst, dNeg, dStar, dNewD, dTupVals, dSortSet, dCountL, dExtend, dAppend, dFrz, dLc2, dCountT, dIndexT, sqf_tup, sqf_lst, sqf_pair, sSeq, sSeq_tup, sSeq_lst, sRg1, sRg2, sZip2, sZip3, sZip4, sEnum, gV, gN, gC, gT, tupOf_tup, tupOf_pair, aAdd_int, aAdd_tup, aAdd_lst, aSub_int, aMul_int, aDiv_int, aMod_int, aPow_int, aCmp_int, aIx_tup, aIx_lst, aIx_scr, aIx_pair, aMax_int, aMin_int, aInt_bl, aInt_int, aLen_tup, aLen_lst, aLen_scr, aLen_pair, aTuple_lst, aTuple_tup, aIsB_bl, aNotB_bl, aEq_int, aNe_int, startD, List.map_cons, List.map_nil, List.length_cons, List.length_nil, List.cons_append, List.nil_append, List.replicate_zero, List.replicate_succ, List.append_nil, List.getElem?_cons_zero, List.getElem?_cons_succ, List.set_cons_zero, List.set_cons_succ, Option.some.injEq, exists_eq_left', exists_eq_left, exists_eq', D.int.injEq, D.bl.injEq, D.tup.injEq, D.lst.injEq, D.pair.injEq, D.ref.injEq, List.cons.injEq, Nat.sub_self, Nat.zero_add, Nat.add_sub_cancel, seqI_tup, seqI_lst, seqOf_tup, seqOf_lst, tyN_tup, tyN_lst, tyN_int, tyN_bl, tyN_str, tyN_non, isi_tt, at_0, at_1, at_2, at_3, Option.map_some, true_and, and_true, if_true, Bool.false_eq_true, if_false, Bool.not_true, Bool.not_false, ↓reduceIte, Nat.reduceAdd, Nat.reduceSub, exists_and_left, and_assoc]))
namespace B
def s_law_draw : DSp := Mn.s_law_draw
theorem l_law_draw : ∀ ds m Q, s_law_draw ds m Q → ds.length = 2 := Mn.l_law_draw
def t_law_draw : DS := (xSeq (xIf (dTest (dOp aGt (dOp aIx (dVar 0) (dC (.int 0))) (dC (.int 0)))) (xSeq (xAsg (dOp aMod (dOp aIx (dVar 0) (dC (.int 0))) (dVar 1)) (gV 3))
  (xSeq (xPut (dOp aDiv (dOp aIx (dVar 0) (dC (.int 0))) (dVar 1)) (dVar 0) (dC (.int 0)))
  (xRet (dVar 3)))) xNext)
  (xSeq (xPut (dOp aAdd (dOp aIx (dVar 0) (dC (.int 2))) (dC (.int 1))) (dVar 0) (dC (.int 2)))
  (xSeq (xPut (dOp aMod (dOp aAdd (dOp aAdd (dOp aMulA (dOp aIx (dVar 0) (dC (.int 1))) (dC (.int 48271))) (dOp aMulA (dC (.int 1009)) (dOp aIx (dVar 0) (dC (.int 2))))) (dC (.int 7))) (dC (.int 2147483647))) (dVar 0) (dC (.int 1)))
  (xSeq (xAsg (dOp aMod (dOp aAdd (dOp aAdd (dOp aMulA (dOp aIx (dVar 0) (dC (.int 1))) (dOp aIx (dVar 0) (dC (.int 1)))) (dOp aMulA (dC (.int 69621)) (dOp aIx (dVar 0) (dC (.int 1))))) (dC (.int 11))) (dC (.int 2147483629))) (gV 2))
  (xSeq (xAsg (dOp aMod (dOp aAdd (dOp aMulA (dVar 2) (dVar 2)) (dOp aMulA (dC (.int 40014)) (dVar 2))) (dC (.int 2147483587))) (gV 2))
  (xRet (dOp aMod (dOp aDiv (dVar 2) (dC (.int 16))) (dVar 1))))))))
theorem v_law_draw : Body 4 t_law_draw s_law_draw := by
  rintro ds m Q ⟨p, k, n, rfl, ⟨a, b, c, hp, ha, hb, hb2, hc, hcn⟩, hn, hk1, hk2, q⟩
  have hkk : (0 : Int) < k := by omega
  have hkl : (k : Int) < 1073741824 := by omega
  unfold t_law_draw nD
  walk_at "d"
  simp only [aIx_ref hp]
  walk_at "d"
  by_cases h0 : 0 < a
  · simp only [h0, decide_true, ↓reduceIte]
    iterate 2 (simp only [aIx_ref hp]; walk_at "d")
    refine ⟨hkk, ⟨hkk, hkl⟩, _, hp, 0, rfl, ?_⟩
    walk_at "d"
    have r1 := Int.emod_nonneg a (show (k : Int) ≠ 0 by omega)
    have r2 := Int.emod_lt_of_pos a hkk
    have z := q (a % k).toNat (up m p (.lst [.int (a / k), .int b, .int c])) (by omega) ⟨a / k, b, c, rfl, Int.ediv_nonneg ha (by omega), hb, hb2, hc, by omega⟩
    unfold nD at z
    rw [Int.toNat_of_nonneg r1] at z
    exact ⟨_, fun _ _ e => e, z⟩
  · simp only [h0, decide_false, Bool.false_eq_true, ↓reduceIte]
    simp only [aIx_ref hp]
    walk_at "d"
    refine ⟨_, hp, 2, rfl, ?_⟩
    walk_at "d"
    have hp2 : up m p (.lst [.int a, .int b, .int (c + 1)]) p = some (.lst [.int a, .int b, .int (c + 1)]) := up_same
    iterate 5 (try simp only [aIx_ref hp2]; walk_at "d")
    have hm : ∀ x : Int, 0 ≤ x % 2147483647 ∧ x % 2147483647 < 2147483647 := fun x => ⟨Int.emod_nonneg _ (by decide), Int.emod_lt_of_pos _ (by decide)⟩
    have hm2 : ∀ x : Int, 0 ≤ x % 2147483629 ∧ x % 2147483629 < 2147483629 := fun x => ⟨Int.emod_nonneg _ (by decide), Int.emod_lt_of_pos _ (by decide)⟩
    refine ⟨.inr ⟨by decide, by decide⟩, .inl ⟨by decide, by decide⟩, by decide, _, hp2, 1, rfl, ?_⟩
    have hb3 := hm (b * 48271 + 1009 * (c + 1) + 7)
    generalize (b * 48271 + 1009 * (c + 1) + 7) % 2147483647 = b1 at hb3 ⊢
    rw [up_up]
    walk_at "d"
    have hp3 : up m p (.lst [.int a, .int b1, .int (c + 1)]) p = some (.lst [.int a, .int b1, .int (c + 1)]) := up_same
    iterate 5 (try simp only [aIx_ref hp3]; walk_at "d")
    refine ⟨.inl ⟨by omega, by omega⟩, .inl ⟨by decide, by decide⟩, by decide, ?_⟩
    have hy := hm2 (b1 * b1 + 69621 * b1 + 11)
    generalize (b1 * b1 + 69621 * b1 + 11) % 2147483629 = y1 at hy ⊢
    refine ⟨.inl ⟨by omega, by omega⟩, .inl ⟨by decide, by decide⟩, by decide, ⟨by decide, by decide⟩, hkk, ?_⟩
    generalize (y1 * y1 + 40014 * y1) % 2147483587 / 16 = y
    have r1 := Int.emod_nonneg y (show (k : Int) ≠ 0 by omega)
    have r2 := Int.emod_lt_of_pos y hkk
    have z := q (y % k).toNat _ (by omega) ⟨a, b1, c + 1, rfl, ha, hb3.1, by omega, by omega, by omega⟩
    unfold nD at z
    rw [Int.toNat_of_nonneg r1] at z
    exact ⟨_, fun _ _ e => e, z⟩
def s_law_choose : DSp := Mn.s_law_pick
def s_law_step : DSp := fun ds m Q => ∃ (p : Addr) (g n : Nat), ds = [.ref p, nD g] ∧ Pen m p n ∧ n ≤ 900001000 ∧ 2 ≤ g ∧ g ≤ 6 ∧ ∀ st g' m', Stp1 g st g' → 1 ≤ g' → PenU m p (n + 20) m' → Q (tD st) m'
def s_law_attribute : DSp := Mn.s_law_attribute
theorem l_law_attribute : ∀ ds m Q, s_law_attribute ds m Q → ds.length = 2 := Mn.l_law_attribute
def t_law_attribute : DS := (xSeq (xAsg (dCB aMax (dCons (dOp aAdd (dC (.int 1)) (dCB s_law_draw (dCons (dVar 0) (dCons (dVar 1) dNil)))) (dCons (dOp aAdd (dC (.int 1)) (dCB s_law_draw (dCons (dVar 0) (dCons (dVar 1) dNil)))) dNil))) (gV 2))
  (xSeq (xPar 4 5 (dCons (dVar 2) (dCons (dTup dNil) dNil)))
  (xSeq (xFor (sRg1 (dCB s_law_draw (dCons (dVar 0) (dCons (dC (.int 4)) dNil)))) (gV 3) (xIf (dTest (dOp aGt (dVar 4) (dC (.int 1)))) (xSeq (xAsg (dOp aAdd (dVar 5) (dTup (dCons (dCB s_law_step (dCons (dVar 0) (dCons (dVar 4) dNil))) dNil))) (gV 5))
  (xAsg (dOp aAdd (dCB aMax (dCons (dOp aIx (dVar 5) (dNeg (dC (.int 1)))) dNil)) (dC (.int 1))) (gV 4))) xNext))
  (xRet (dTup (dCons (dVar 2) (dCons (dVar 5) dNil)))))))
def AtI (m0 : Mu) (p : Addr) (most many n0 : Nat) : Nat → Ro → Mu → Prop := fun i r m => ∃ (g : Nat) (ss : List (List Nat)) (x3 : Option D),
  r = [some (.ref p), some (nD most), some (nD many), x3, some (nD g), some (.tup (ss.map tD))] ∧ PenU m0 p (n0 + 20 * i) m ∧ ss.length ≤ i ∧ leads many ss g ∧ 1 ≤ g ∧ g ≤ most
theorem maxI_nat : ∀ {l : List Nat}, l ≠ [] → maxI (l.map fun k : Nat => (k : Int)) = (maxN l : Nat) := by
  intro l h
  cases l with
  | nil => exact absurd rfl h
  | cons a r =>
    have key : ∀ (r : List Nat) (a : Nat), (r.map fun k : Nat => (k : Int)).foldl max (a : Int) = ((r.foldl max a : Nat) : Int) := by
      intro r
      induction r with
      | nil => intro a; rfl
      | cons b r ih => intro a; rw [List.map_cons, List.foldl_cons, List.foldl_cons, ← ih]; congr 1; omega
    show (r.map fun k : Nat => (k : Int)).foldl max (a : Int) = _
    rw [key]
    unfold maxN
    rw [List.foldl_cons, Nat.zero_max]
theorem aMax_tD {st : List Nat} {m : Mu} {Q : DK} (h : st ≠ []) (q : Q (nD (maxN st)) m) : aMax [tD st] m Q := by
  cases st with
  | nil => exact absurd rfl h
  | cons a r =>
    refine ⟨(a : Int), r.map fun k : Nat => (k : Int), ?_, ?_⟩
    · show some (nD a :: r.map nD) = _
      rw [List.map_map]
      rfl
    · have := maxI_nat h
      rw [List.map_cons] at this
      unfold nD at q
      rw [← this] at q
      exact q
theorem v_law_attribute : Body 6 t_law_attribute s_law_attribute := by
  rintro ds m Q ⟨p, most, n, rfl, hp, hn, h1, h6, q⟩
  unfold t_law_attribute
  walk_at "d"
  refine ⟨p, most, n, rfl, hp, by omega, h1, by omega, fun r1 m1 hr1 hu1 => ?_⟩
  simp only [nD]
  walk_at "d"
  refine ⟨p, most, n + 1, rfl, hu1.pen, by omega, h1, by omega, fun r2 m2 hr2 hu2 => ?_⟩
  simp only [nD]
  walk_at "d"
  refine ⟨by decide, p, 4, n + 2, rfl, hu2.pen, by omega, by decide, by decide, fun r3 m3 hr3 hu3 => ⟨(r3 : Nat), rfl, by omega, by omega, ?_⟩⟩
  rw [rgD_nat, show max (1 + (r1 : Int)) (1 + (r2 : Int)) = ((1 + max r1 r2 : Nat) : Int) by omega]
  have hu3' := (hu1.trans hu2).trans hu3
  refine forGo_inv (AtI m p most (1 + max r1 r2) (n + 3)) _ _ _ 0 ⟨1 + max r1 r2, [], none, rfl, hu3', Nat.le_refl _, rfl, by omega, by omega⟩ ?_ ?_
  · rintro j d r m4 P hd ⟨g, ss, x3, rfl, hu4, hss, hle, hg1, hg2⟩ hP
    have hj : j < 4 := by
      have := (List.getElem?_eq_some_iff.mp hd).1
      rw [List.length_map, List.length_range] at this
      omega
    simp only [nD]
    walk_at "d"
    by_cases hg : (1 : Int) < (g : Int)
    · simp only [hg, decide_true, ↓reduceIte]
      refine ⟨p, g, _, rfl, hu4.pen, by omega, by omega, by omega, fun st g' m5 hst hg' hu5 => ?_⟩
      walk_at "d"
      refine ⟨by decide, small (k := 1000) (by rw [List.length_map]; show ss.length + 1 ≤ _; omega), ?_⟩
      have hne : st ≠ [] := by rintro rfl; have := hst.1; rw [List.length_nil] at this; omega
      refine ⟨tD st, ?_, ?_⟩
      · unfold at_
        rw [if_neg (by decide), if_pos (by rw [List.length_append, List.length_singleton]; omega), List.length_append, List.length_singleton, List.length_map, show (-1 + ((ss.length + 1 : Nat) : Int)).toNat = ss.length by omega, List.getElem?_append_right (by rw [List.length_map]; exact Nat.le_refl _), List.length_map, Nat.sub_self]
        rfl
      · refine aMax_tD hne ?_
        unfold nD
        walk_at "d"
        have hmx := hst.max hg1
        refine hP _ _ ⟨g', ss ++ [st], some d, ?_, (hu4.trans hu5).mono (by omega), by rw [List.length_append, List.length_singleton]; omega, leads_snoc hle hst, hg', by have := hst.2.1; omega⟩
        rw [List.map_append, List.map_singleton, ← hmx]
        rfl
    · simp only [hg, decide_false, Bool.false_eq_true, ↓reduceIte]
      exact hP _ _ ⟨g, ss, _, rfl, hu4.mono (by omega), by omega, hle, hg1, hg2⟩
  · rintro r m4 ⟨g, ss, x3, rfl, hu4, hss, hle, hg1, hg2⟩
    rw [List.length_map, List.length_range] at hu4 hss
    simp only [nD]
    walk_at "d"
    exact ⟨by decide, end_rtL (m2 := m4) (fun _ _ e => e) (q ⟨1 + max r1 r2, ss⟩ _ ⟨by show 1 ≤ 1 + max r1 r2; omega, by show 1 + max r1 r2 ≤ 6; omega, by show ss.length ≤ 3; omega, leads_V hle⟩ (by show 1 + max r1 r2 ≤ most; omega) (hu4.mono (by omega)))⟩
def mss : List (List Nat) := [[6], [6, 6], [4, 6], [5, 4, 3], [3, 4, 5], [3, 3, 3], [2, 2, 2]]
theorem mss_ok : ∀ ms ∈ mss, 1 ≤ ms.length ∧ ms.length ≤ 3 ∧ prodN ms ≤ 60 ∧ ∀ k ∈ ms, 1 ≤ k ∧ k ≤ 6 := by decide
def s_law_scheme : DSp := Mn.s_law_scheme
theorem l_law_scheme : ∀ ds m Q, s_law_scheme ds m Q → ds.length = 1 := Mn.l_law_scheme
def t_law_scheme : DS := (xSeq (xAsg (dCB s_law_choose (dCons (dVar 0) (dCons (dLst (dCons (dTup (dCons (dC (.int 6)) dNil)) (dCons (dTup (dCons (dC (.int 6)) (dCons (dC (.int 6)) dNil))) (dCons (dTup (dCons (dC (.int 4)) (dCons (dC (.int 6)) dNil))) (dCons (dTup (dCons (dC (.int 5)) (dCons (dC (.int 4)) (dCons (dC (.int 3)) dNil)))) (dCons (dTup (dCons (dC (.int 3)) (dCons (dC (.int 4)) (dCons (dC (.int 5)) dNil)))) (dCons (dTup (dCons (dC (.int 3)) (dCons (dC (.int 3)) (dCons (dC (.int 3)) dNil)))) (dCons (dTup (dCons (dC (.int 2)) (dCons (dC (.int 2)) (dCons (dC (.int 2)) dNil)))) dNil)))))))) dNil))) (gV 1))
  (xRet (dCB aTuple (dCons (dLc (sSeq (dVar 1)) [2] (gV 2) dYes (dCB s_law_attribute (dCons (dVar 0) (dCons (dVar 2) dNil)))) dNil))))
theorem v_law_scheme : Body 3 t_law_scheme s_law_scheme := by
  rintro ds m Q ⟨p, n, rfl, hp, hn, q⟩
  unfold t_law_scheme
  walk_at "d"
  refine ⟨by decide, by decide, by decide, by decide, by decide, by decide, by decide, by decide, p, _, _, n, rfl, Or.inl rfl, hp, by omega, by decide, by decide, fun d m1 hd hu1 => ?_⟩
  have hd' : d ∈ mss.map fun ms => D.tup (ms.map nD) := hd
  obtain ⟨ms, hms, rfl⟩ := List.mem_map.mp hd'
  obtain ⟨k1, k2, k3, k4⟩ := mss_ok ms hms
  walk_at "d"
  refine ⟨_, .inr rfl, by rw [List.length_map]; exact small (k := 1000) (by omega), ?_⟩
  refine lcGo_inv (fun i acc m' => ∃ s : Sch, acc = s.map At.enc ∧ s.length = i ∧ (∀ a ∈ s, a.V) ∧ prodN (s.map At.n) ≤ prodN (ms.take i) ∧ PenU m p (n + 1 + 100 * i) m') _ [] m1 0 ⟨[], rfl, rfl, (fun _ h => nomatch h), Nat.le_refl _, hu1⟩ ?_ ?_
  · rintro i x acc m5 P5 hx ⟨s, rfl, hks, hV, hpr, hu5⟩ hP5
    rw [List.getElem?_map] at hx
    obtain ⟨k, hk, rfl⟩ := Option.map_eq_some_iff.mp hx
    have hki := k4 k (List.mem_of_getElem? hk)
    have hi : i < ms.length := (List.getElem?_eq_some_iff.mp hk).1
    walk_at "d"
    refine ⟨p, k, _, rfl, hu5.pen, by omega, hki.1, hki.2, fun a m6 ha hak hu6 => ?_⟩
    refine hP5 _ _ ⟨s ++ [a], by rw [List.map_append]; rfl, by rw [List.length_append, List.length_singleton, hks], fun b hb => ?_, ?_, (hu5.trans hu6).mono (by omega)⟩
    · rcases List.mem_append.mp hb with hb | hb
      · exact hV b hb
      · rw [List.mem_singleton.mp hb]; exact ha
    · rw [List.map_append, List.map_singleton, prodN_snoc, Nat.zero_add, List.take_add_one, hk, Option.toList_some, prodN_snoc]
      rw [Nat.zero_add] at hpr
      exact Nat.mul_le_mul hpr hak
  · rintro acc m5 ⟨s, rfl, hks, hV, hpr, hu5⟩
    rw [List.length_map] at hks hu5 hpr
    walk_at "d"
    rw [Nat.zero_add, List.take_length] at hpr
    exact ⟨_, fun _ _ e => e, q s _ ⟨by omega, by omega, hV, by omega⟩ (hu5.mono (by omega))⟩
end B
end Mn

set_option linter.all false
set_option maxHeartbeats 4000000
set_option autoImplicit false
set_option maxRecDepth 100000
namespace Mn
open PySem L2
variable [Tbs]
local macro_rules | `(tactic| walk_at "d") => `(tactic| (try simp only [xNext, xSeq, xAsg, xRet, xRetF, xDrop, xIf, xPar, xPar3, xMatch, mGo, xFrz, xPut, xAug, xFor, dVar, dC, dOp, dTest, dChain, dAndV, dOrV, dNotV, dAnd, dOr, dNot, dIf, dNil, dCons, dTup, dLst, dLstM, dCB, dIsi, dLc, dLcM, dYes, wipeD, dSlice, oSome, oNone, aSl_tup, aSl_lst, dNeg, dStar, dNewD, dTupVals, dSortSet, dCountL, dExtend, dAppend, dFrz, dLc2, dCountT, dIndexT, sqf_tup, sqf_lst, sqf_pair, sSeq, sSeq_tup, sSeq_lst, sRg1, sRg2, sZip2, sZip3, sZip4, sEnum, gV, gN, gC, gT, tupOf_tup, tupOf_pair, aAdd_int, aAdd_tup, aAdd_lst, aSub_int, aMul_int, aDiv_int, aMod_int, aPow_int, aCmp_int, aIx_tup, aIx_lst, aIx_scr, aIx_pair, aMax_int, aMin_int, aInt_bl, aInt_int, aLen_tup, aLen_lst, aLen_scr, aLen_pair, aTuple_lst, aTuple_tup, aIsB_bl, aNotB_bl, aEq_int, aNe_int, startD, List.map_cons, List.map_nil, List.length_cons, List.length_nil, List.cons_append, List.nil_append, List.replicate_zero, List.replicate_succ, List.append_nil, List.getElem?_cons_zero, List.getElem?_cons_succ, List.set_cons_zero, List.set_cons_succ, Option.some.injEq, exists_eq_left', exists_eq_left, exists_eq', D.int.injEq, D.bl.injEq, D.tup.injEq, D.lst.injEq, D.pair.injEq, D.ref.injEq, List.cons.injEq, Nat.sub_self, Nat.zero_add, Nat.add_sub_cancel, seqI_tup, seqI_lst, seqOf_tup, seqOf_lst, tyN_tup, tyN_lst, tyN_int, tyN_bl, tyN_str, tyN_non, isi_tt, at_0, at_1, at_2, at_3, Option.map_some, true_and, and_true, if_true, Bool.false_eq_true, if_false, Bool.not_true, Bool.not_false, ↓reduceIte, Nat.reduceAdd, Nat.reduceSub, exists_and_left, and_assoc]))
/-! the order of cells -/
/-! places: for each cell of the finest rollup the cell above -/
theorem flatMap_cong {α β : Type} {f g : α → List β} : ∀ {l : List α}, (∀ x ∈ l, f x = g x) → l.flatMap f = l.flatMap g
  | [], _ => rfl
  | x :: l, h => by rw [List.flatMap_cons, List.flatMap_cons, h x List.mem_cons_self, flatMap_cong fun y hy => h y (List.mem_cons_of_mem _ hy)]
namespace B
theorem cutD_to (ds : List D) (hi : Nat) (h : hi ≤ ds.length) : cutD ds none (some (hi : Int)) = ds.take hi := by
  unfold cutD
  rw [HT.sIx_nat, Nat.min_eq_left h, show HT.sIx ds.length 0 none = 0 from rfl, List.drop_zero, Nat.sub_zero]
def s_law_groups : DSp := fun ds m Q => ∃ (a : At) (l : Nat), ds = [a.enc, nD l] ∧ a.V ∧ l ≤ a.ss.length ∧ Q (lD (rowN a l)) m
theorem l_law_groups : ∀ ds m Q, s_law_groups ds m Q → ds.length = 2 := by rintro ds m Q ⟨a, l, rfl, _⟩; rfl
def t_law_groups : DS := (xSeq (xAsg (dListRg (dOp aIx (dVar 0) (dC (.int 0)))) (gV 2))
  (xSeq (xFor (sSeq (dSlice (dOp aIx (dVar 0) (dC (.int 1))) oNone (oSome (dVar 1)))) (gV 3) (xAsg (dLc (sSeq (dVar 2)) [4] (gV 4) dYes (dOp aIx (dVar 3) (dVar 4))) (gV 2)))
  (xRet (dVar 2))))
theorem v_law_groups : Body 5 t_law_groups s_law_groups := by
  rintro ds m Q ⟨a, l, rfl, ha, hl, q⟩
  have hq := end_rt (m0 := m) q
  have h6 := ha.2.1; have h3 := ha.2.2.1
  unfold t_law_groups At.enc dListRg nD
  walk_at "d"
  refine ⟨by omega, by omega, ?_⟩
  rw [rgD_nat, cutD_to _ _ (by rw [List.length_map]; exact hl), ← List.map_take]
  refine ⟨_, .inr rfl, ?_⟩
  refine forGo_take (enc := tD) (fun pre rr m' => m' = m ∧ ∃ x3 x4, rr = [some (.tup [.int (a.n : Int), .tup (a.ss.map tD)]), some (.int (l : Int)), some (lD (rowN a pre.length)), x3, x4]) (a.ss.take l) [] _ _ _ rfl ⟨rfl, none, none, ?_⟩ ?_ ?_
  · rw [List.length_nil, rowN_zero]; rfl
  · rintro pre st post rr m' P e ⟨rfl, x3, x4, rfl⟩ hP
    have hpl : pre.length < l := by
      have := congrArg List.length e
      rw [List.length_append, List.length_cons, List.length_take] at this
      omega
    have hst : st = a.ss.getD pre.length [] := by
      have e1 : (a.ss.take l)[pre.length]? = some st := by rw [e, List.getElem?_append_right (Nat.le_refl _), Nat.sub_self]; rfl
      rw [List.getElem?_take_of_lt (by omega)] at e1
      rw [List.getD_eq_getElem?_getD, e1]; rfl
    have hs := ha.step (l := pre.length) (by omega)
    unfold lD
    walk_at "d"
    refine ⟨_, .inl rfl, small (k := 1000) (by rw [List.length_map]; unfold rowN; rw [List.length_map, List.length_range]; omega), ?_⟩
    refine lcGo_maps (fun g => nD (stepG st g)) (rowN a pre.length) [] _ (fun g hg K hK => ?_) ?_
    · obtain ⟨v, hv, rfl⟩ := List.mem_map.mp hg
      have hlt : a.up v 0 pre.length < a.sz pre.length := ha.up_lt (List.mem_range.mp hv) (Nat.zero_le _) (by omega)
      unfold tD nD
      walk_at "d"
      refine ⟨_, ?_, hK⟩
      rw [at_nat, List.getElem?_map, List.getElem?_eq_getElem (by rw [hst, hs.1]; exact hlt), stepG_get (by rw [hst, hs.1]; exact hlt)]
      rfl
    · rw [List.nil_append]
      have erow : ((rowN a pre.length).map fun g => nD (stepG st g)) = (rowN a (pre.length + 1)).map nD := by
        unfold rowN
        rw [List.map_map, List.map_map]
        refine List.map_congr_left fun v _ => ?_
        simp only [Function.comp]
        rw [up_succ (Nat.zero_le _) (by omega), ← hst]
      rw [erow]
      refine hP _ _ ⟨rfl, some (tD st), x4, ?_⟩
      rw [List.length_append, List.length_singleton]
      rfl
  · rintro rr m' ⟨rfl, x3, x4, rfl⟩
    rw [List.length_take, Nat.min_eq_left hl]
    walk_at "d"
    exact hq
end B
end Mn

set_option linter.all false
set_option maxHeartbeats 4000000
set_option autoImplicit false
set_option maxRecDepth 100000
namespace Mn
open PySem L2
variable [Tbs]
local macro_rules | `(tactic| walk_at "d") => `(tactic| (try simp only [xNext, xSeq, xAsg, xRet, xRetF, xDrop, xIf, xPar, xPar3, xFrz, xPut, xAug, xFor, dVar, dC, dOp, dTest, dChain, dAndV, dOrV, dNotV, dAnd, dOr, dNot, dIf, dNil, dCons, dTup, dLst, dLstM, dCB, dIsi, dLc, dLcM, dYes, wipeD, dSlice, oSome, oNone, aSl_tup, aSl_lst, dNeg, dStar, dNewD, dTupVals, dCountL, dExtend, dAppend, dFrz, dLc2, dCountT, dIndexT, sqf_tup, sqf_lst, sqf_pair, sSeq, sSeq_tup, sSeq_lst, sRg1, sRg2, sZip2, sZip3, sZip4, sEnum, gV, gN, gC, gT, tupOf_tup, tupOf_pair, aAdd_int, aAdd_tup, aAdd_lst, aSub_int, aMul_int, aDiv_int, aMod_int, aPow_int, aCmp_int, aIx_tup, aIx_lst, aIx_scr, aIx_pair, aMax_int, aMin_int, aInt_bl, aInt_int, aLen_tup, aLen_lst, aLen_scr, aLen_pair, aTuple_lst, aTuple_tup, aEq_int, aNe_int, startD, List.map_cons, List.map_nil, List.length_cons, List.length_nil, List.cons_append, List.nil_append, List.replicate_zero, List.replicate_succ, List.append_nil, List.getElem?_cons_zero, List.getElem?_cons_succ, List.set_cons_zero, List.set_cons_succ, Option.some.injEq, exists_eq_left', exists_eq_left, exists_eq', D.int.injEq, D.bl.injEq, D.tup.injEq, D.lst.injEq, D.pair.injEq, D.ref.injEq, List.cons.injEq, Nat.sub_self, Nat.zero_add, Nat.add_sub_cancel, seqI_tup, seqI_lst, seqOf_tup, seqOf_lst, tyN_tup, tyN_lst, tyN_int, tyN_bl, tyN_str, tyN_non, isi_tt, at_0, at_1, at_2, at_3, Option.map_some, true_and, and_true, if_true, Bool.false_eq_true, if_false, Bool.not_true, Bool.not_false, ↓reduceIte, Nat.reduceAdd, Nat.reduceSub, exists_and_left, and_assoc]))
/-! loops that return -/
section
variable {α : Type} {enc : α → D} {g : DG} {tb : DS} {De : DE}
end
/-! the stored -/
def stD (st : List (List Nat)) : D := .tup (st.map tD)
def Stv (s : Sch) (st : List (List Nat)) : Prop := st.length ≤ 8 ∧ ∀ r ∈ st, Roll s r
def isRolls (s : Sch) (d : D) : Bool := match d with
  | .tup ds => decide (ds.length ≤ 8) && ds.all (isRoll s)
  | _ => false
theorem Stv.ok {s : Sch} {st : List (List Nat)} (h : Stv s st) : isRolls s (stD st) = true := by
  simp only [isRolls, stD, List.length_map, h.1, decide_true, Bool.true_and, List.all_map, List.all_eq_true]
  intro r hr
  exact h.2 r hr
/-! the place -/
/-! the two values taken -/
/-! the two tables -/
/-! the answer -/
end Mn

set_option linter.all false
set_option maxHeartbeats 4000000
set_option autoImplicit false
set_option maxRecDepth 100000
namespace Mn
open PySem L2
variable [Tbs]
local macro_rules | `(tactic| walk_at "d") => `(tactic| (try simp only [xNext, xSeq, xAsg, xRet, xRetF, xDrop, xIf, xPar, xPar3, xFrz, xPut, xAug, xFor, dVar, dC, dOp, dTest, dChain, dAndV, dOrV, dNotV, dAnd, dOr, dNot, dIf, dNil, dCons, dTup, dLst, dLstM, dCB, dIsi, dLc, dLcM, dYes, wipeD, dSlice, oSome, oNone, aSl_tup, aSl_lst, dNeg, dStar, dNewD, dTupVals, dCountL, dExtend, dAppend, dFrz, dLc2, dCountT, dIndexT, sqf_tup, sqf_lst, sqf_pair, sSeq, sSeq_tup, sSeq_lst, sRg1, sRg2, sZip2, sZip3, sZip4, sEnum, gV, gN, gC, gT, tupOf_tup, tupOf_pair, aAdd_int, aAdd_tup, aAdd_lst, aSub_int, aMul_int, aDiv_int, aMod_int, aPow_int, aCmp_int, aIx_tup, aIx_lst, aIx_scr, aIx_pair, aMax_int, aMin_int, aInt_bl, aInt_int, aLen_tup, aLen_lst, aLen_scr, aLen_pair, aTuple_lst, aTuple_tup, aEq_int, aNe_int, startD, List.map_cons, List.map_nil, List.length_cons, List.length_nil, List.cons_append, List.nil_append, List.replicate_zero, List.replicate_succ, List.append_nil, List.getElem?_cons_zero, List.getElem?_cons_succ, List.set_cons_zero, List.set_cons_succ, Option.some.injEq, exists_eq_left', exists_eq_left, exists_eq', D.int.injEq, D.bl.injEq, D.tup.injEq, D.lst.injEq, D.pair.injEq, D.ref.injEq, List.cons.injEq, Nat.sub_self, Nat.zero_add, Nat.add_sub_cancel, seqI_tup, seqI_lst, seqOf_tup, seqOf_lst, tyN_tup, tyN_lst, tyN_int, tyN_bl, tyN_str, tyN_non, isi_tt, at_0, at_1, at_2, at_3, Option.map_some, true_and, and_true, if_true, Bool.false_eq_true, if_false, Bool.not_true, Bool.not_false, ↓reduceIte, Nat.reduceAdd, Nat.reduceSub, exists_and_left, and_assoc]))
/-! which levels keep the values of a group together -/
def clsN (a : At) (v l : Nat) : List Nat := (List.range a.n).filter fun w => decide (a.up w 0 l = a.up v 0 l)
/-! the law -/
end Mn

set_option linter.all false
set_option maxHeartbeats 4000000
set_option autoImplicit false
set_option maxRecDepth 100000
namespace Mn
open PySem L2
variable [Tbs]
local macro_rules | `(tactic| walk_at "d") => `(tactic| (try simp only [xNext, xSeq, xAsg, xRet, xRetF, xDrop, xIf, xPar, xPar3, xMatch, mGo, xFrz, xPut, xAug, xFor, dVar, dC, dOp, dTest, dChain, dAndV, dOrV, dNotV, dAnd, dOr, dNot, dIf, dNil, dCons, dTup, dLst, dLstM, dCB, dIsi, dLc, dLcM, dYes, wipeD, dSlice, oSome, oNone, aSl_tup, aSl_lst, dNeg, dStar, dNewD, dTupVals, dSortSet, dCountL, dExtend, dAppend, dFrz, dLc2, dCountT, dIndexT, sqf_tup, sqf_lst, sqf_pair, sSeq, sSeq_tup, sSeq_lst, sRg1, sRg2, sZip2, sZip3, sZip4, sEnum, gV, gN, gC, gT, tupOf_tup, tupOf_pair, aAdd_int, aAdd_tup, aAdd_lst, aSub_int, aMul_int, aDiv_int, aMod_int, aPow_int, aCmp_int, aIx_tup, aIx_lst, aIx_scr, aIx_pair, aMax_int, aMin_int, aInt_bl, aInt_int, aLen_tup, aLen_lst, aLen_scr, aLen_pair, aTuple_lst, aTuple_tup, aIsB_bl, aNotB_bl, aEq_int, aNe_int, startD, List.map_cons, List.map_nil, List.length_cons, List.length_nil, List.cons_append, List.nil_append, List.replicate_zero, List.replicate_succ, List.append_nil, List.getElem?_cons_zero, List.getElem?_cons_succ, List.set_cons_zero, List.set_cons_succ, Option.some.injEq, exists_eq_left', exists_eq_left, exists_eq', D.int.injEq, D.bl.injEq, D.tup.injEq, D.lst.injEq, D.pair.injEq, D.ref.injEq, List.cons.injEq, Nat.sub_self, Nat.zero_add, Nat.add_sub_cancel, seqI_tup, seqI_lst, seqOf_tup, seqOf_lst, tyN_tup, tyN_lst, tyN_int, tyN_bl, tyN_str, tyN_non, isi_tt, at_0, at_1, at_2, at_3, Option.map_some, true_and, and_true, if_true, Bool.false_eq_true, if_false, Bool.not_true, Bool.not_false, ↓reduceIte, Nat.reduceAdd, Nat.reduceSub, exists_and_left, and_assoc]))
/-! sorted without doubles -/
/-! tuples compared -/
/-! needed -/
end Mn

set_option linter.all false
set_option maxHeartbeats 4000000
set_option autoImplicit false
set_option maxRecDepth 100000
namespace Mn
open PySem L2
variable [Tbs]
local macro_rules | `(tactic| walk_at "d") => `(tactic| (try simp only [xNext, xSeq, xAsg, xRet, xRetF, xDrop, xIf, xPar, xPar3, xFrz, xPut, xAug, xFor, dVar, dC, dOp, dTest, dChain, dAndV, dOrV, dNotV, dAnd, dOr, dNot, dIf, dNil, dCons, dTup, dLst, dLstM, dCB, dIsi, dLc, dLcM, dYes, wipeD, dSlice, oSome, oNone, aSl_tup, aSl_lst, dNeg, dStar, dNewD, dTupVals, dCountL, dExtend, dAppend, dFrz, dLc2, dCountT, dIndexT, sqf_tup, sqf_lst, sqf_pair, sSeq, sSeq_tup, sSeq_lst, sRg1, sRg2, sZip2, sZip3, sZip4, sEnum, gV, gN, gC, gT, tupOf_tup, tupOf_pair, aAdd_int, aAdd_tup, aAdd_lst, aSub_int, aMul_int, aDiv_int, aMod_int, aPow_int, aCmp_int, aIx_tup, aIx_lst, aIx_scr, aIx_pair, aMax_int, aMin_int, aInt_bl, aInt_int, aLen_tup, aLen_lst, aLen_scr, aLen_pair, aTuple_lst, aTuple_tup, aEq_int, aNe_int, startD, List.map_cons, List.map_nil, List.length_cons, List.length_nil, List.cons_append, List.nil_append, List.replicate_zero, List.replicate_succ, List.append_nil, List.getElem?_cons_zero, List.getElem?_cons_succ, List.set_cons_zero, List.set_cons_succ, Option.some.injEq, exists_eq_left', exists_eq_left, exists_eq', D.int.injEq, D.bl.injEq, D.tup.injEq, D.lst.injEq, D.pair.injEq, D.ref.injEq, List.cons.injEq, Nat.sub_self, Nat.zero_add, Nat.add_sub_cancel, seqI_tup, seqI_lst, seqOf_tup, seqOf_lst, tyN_tup, tyN_lst, tyN_int, tyN_bl, tyN_str, tyN_non, isi_tt, at_0, at_1, at_2, at_3, Option.map_some, true_and, and_true, if_true, Bool.false_eq_true, if_false, Bool.not_true, Bool.not_false, ↓reduceIte, Nat.reduceAdd, Nat.reduceSub, exists_and_left, and_assoc]))
/-! the values taken for a cell -/
def others (a : At) (v l : Nat) : List Nat := (clsN a v (l + 1)).filter fun x => !(clsN a v l).contains x
/-! the answer for a cell -/
end Mn

set_option linter.all false
set_option maxHeartbeats 4000000
set_option autoImplicit false
set_option maxRecDepth 100000
namespace Mn
open PySem L2
variable [Tbs]
local macro_rules | `(tactic| walk_at "d") => `(tactic| (try simp only [xNext, xSeq, xAsg, xRet, xRetF, xDrop, xIf, xPar, xPar3, xMatch, mGo, xFrz, xPut, xAug, xFor, dVar, dC, dOp, dTest, dChain, dAndV, dOrV, dNotV, dAnd, dOr, dNot, dIf, dNil, dCons, dTup, dLst, dLstM, dCB, dIsi, dLc, dLcM, dYes, wipeD, dSlice, oSome, oNone, aSl_tup, aSl_lst, dNeg, dStar, dNewD, dTupVals, dSortSet, dCountL, dExtend, dAppend, dFrz, dLc2, dCountT, dIndexT, sqf_tup, sqf_lst, sqf_pair, sSeq, sSeq_tup, sSeq_lst, sRg1, sRg2, sZip2, sZip3, sZip4, sEnum, gV, gN, gC, gT, tupOf_tup, tupOf_pair, aAdd_int, aAdd_tup, aAdd_lst, aSub_int, aMul_int, aDiv_int, aMod_int, aPow_int, aCmp_int, aIx_tup, aIx_lst, aIx_scr, aIx_pair, aMax_int, aMin_int, aInt_bl, aInt_int, aLen_tup, aLen_lst, aLen_scr, aLen_pair, aTuple_lst, aTuple_tup, aIsB_bl, aNotB_bl, aEq_int, aNe_int, startD, List.map_cons, List.map_nil, List.length_cons, List.length_nil, List.cons_append, List.nil_append, List.replicate_zero, List.replicate_succ, List.append_nil, List.getElem?_cons_zero, List.getElem?_cons_succ, List.set_cons_zero, List.set_cons_succ, Option.some.injEq, exists_eq_left', exists_eq_left, exists_eq', D.int.injEq, D.bl.injEq, D.tup.injEq, D.lst.injEq, D.pair.injEq, D.ref.injEq, List.cons.injEq, Nat.sub_self, Nat.zero_add, Nat.add_sub_cancel, seqI_tup, seqI_lst, seqOf_tup, seqOf_lst, tyN_tup, tyN_lst, tyN_int, tyN_bl, tyN_str, tyN_non, isi_tt, at_0, at_1, at_2, at_3, Option.map_some, true_and, and_true, if_true, Bool.false_eq_true, if_false, Bool.not_true, Bool.not_false, ↓reduceIte, Nat.reduceAdd, Nat.reduceSub, exists_and_left, and_assoc]))
/-! sums compared -/
def amI (d : D) : List Int := match d with
  | .tup ds => ds.map toI
  | _ => []
/-! a stored rollup that is fine enough -/
/-! tables with the same stored sums -/
def alike (s : Sch) (st : List (List Nat)) (a b : D) : Bool := isAm s (finN s) a && isAm s (finN s) b && st.all fun r => decide (rolN s (finN s) (amI a) r = rolN s (finN s) (amI b) r)
/-! what shows an answer -/
def isStrD (d : D) : Bool := match d with
  | .str _ => true
  | _ => false
/-- how such a function looks at a value first -/
inductive Look2 : D → Prop
  | no (d : D) : isTupD d = false → Look2 d
  | few (ds : List D) : ds.length < 2 → Look2 (.tup ds)
  | odd (e : D) (ds : List D) : isStrD e = false → 1 ≤ ds.length → Look2 (.tup (e :: ds))
  | two (x : Str) (p : D) : Look2 (.tup [.str x, p])
  | three (x : Str) (a b : D) : Look2 (.tup [.str x, a, b])
  | four (x : Str) (a b c : D) (ds : List D) : Look2 (.tup (.str x :: a :: b :: c :: ds))
/-! the sum at one cell -/
end Mn

set_option linter.all false
set_option maxHeartbeats 4000000
set_option autoImplicit false
set_option maxRecDepth 100000
namespace Mn
open PySem L2
variable [Tbs]
local macro_rules | `(tactic| walk_at "d") => `(tactic| (try simp only [xNext, xSeq, xAsg, xRet, xRetF, xDrop, xIf, xPar, xPar3, xMatch, mGo, xFrz, xPut, xAug, xFor, dVar, dC, dOp, dTest, dChain, dAndV, dOrV, dNotV, dAnd, dOr, dNot, dIf, dNil, dCons, dTup, dLst, dLstM, dCB, dIsi, dLc, dLcM, dYes, wipeD, dSlice, oSome, oNone, aSl_tup, aSl_lst, dNeg, dStar, dNewD, dTupVals, dSortSet, dCountL, dExtend, dAppend, dFrz, dLc2, dCountT, dIndexT, sqf_tup, sqf_lst, sqf_pair, sSeq, sSeq_tup, sSeq_lst, sRg1, sRg2, sZip2, sZip3, sZip4, sEnum, gV, gN, gC, gT, tupOf_tup, tupOf_pair, aAdd_int, aAdd_tup, aAdd_lst, aSub_int, aMul_int, aDiv_int, aMod_int, aPow_int, aCmp_int, aIx_tup, aIx_lst, aIx_scr, aIx_pair, aMax_int, aMin_int, aInt_bl, aInt_int, aLen_tup, aLen_lst, aLen_scr, aLen_pair, aTuple_lst, aTuple_tup, aIsB_bl, aNotB_bl, aEq_int, aNe_int, startD, List.map_cons, List.map_nil, List.length_cons, List.length_nil, List.cons_append, List.nil_append, List.replicate_zero, List.replicate_succ, List.append_nil, List.getElem?_cons_zero, List.getElem?_cons_succ, List.set_cons_zero, List.set_cons_succ, Option.some.injEq, exists_eq_left', exists_eq_left, exists_eq', D.int.injEq, D.bl.injEq, D.tup.injEq, D.lst.injEq, D.pair.injEq, D.ref.injEq, List.cons.injEq, Nat.sub_self, Nat.zero_add, Nat.add_sub_cancel, seqI_tup, seqI_lst, seqOf_tup, seqOf_lst, tyN_tup, tyN_lst, tyN_int, tyN_bl, tyN_str, tyN_non, isi_tt, at_0, at_1, at_2, at_3, Option.map_some, true_and, and_true, if_true, Bool.false_eq_true, if_false, Bool.not_true, Bool.not_false, ↓reduceIte, Nat.reduceAdd, Nat.reduceSub, exists_and_left, and_assoc]))
/-! sums over lists -/
/-! cells from the front -/
theorem cells_fold : ∀ (ns : List Nat) (rows : List (List Nat)), ns.foldl (fun rows k => rows.flatMap fun row => (List.range k).map fun j => row ++ [j]) rows = rows.flatMap fun row => (cellsN ns).map fun x => row ++ x
  | [], rows => by
    simp only [cellsN, List.foldl_nil, List.map_cons, List.map_nil, List.append_nil]
    exact (List.flatMap_singleton' rows).symm
  | k :: ns, rows => by
    have e : cellsN (k :: ns) = ([[]].flatMap fun row => (List.range k).map fun j => row ++ [j]).flatMap fun row => (cellsN ns).map fun x => row ++ x := cells_fold ns _
    rw [List.foldl_cons, cells_fold ns, e, List.flatMap_assoc]
    refine flatMap_cong fun row _ => ?_
    rw [List.flatMap_cons, List.flatMap_nil, List.append_nil, List.flatMap_map, List.flatMap_map, List.map_flatMap]
    refine flatMap_cong fun j _ => ?_
    rw [List.map_map]
    refine List.map_congr_left fun x _ => ?_
    simp
theorem cellsN_cons (n : Nat) (ns : List Nat) : cellsN (n :: ns) = (List.range n).flatMap fun v => (cellsN ns).map fun x => v :: x := by
  have e : cellsN (n :: ns) = ([[]].flatMap fun row => (List.range n).map fun j => row ++ [j]).flatMap fun row => (cellsN ns).map fun x => row ++ x := cells_fold ns _
  rw [e, List.flatMap_cons, List.flatMap_nil, List.append_nil, List.flatMap_map]
  rfl
/-! the difference of the two tables -/
def dl (v : Nat) (t : List Nat) : Int := if v = t.headD 0 then 1 else if t.contains v = true then -1 else 0
end Mn

set_option linter.all false
set_option maxHeartbeats 4000000
set_option autoImplicit false
set_option maxRecDepth 100000
namespace Mn
open PySem L2
variable [Tbs]
local macro_rules | `(tactic| walk_at "d") => `(tactic| (try simp only [xNext, xSeq, xAsg, xRet, xRetF, xDrop, xIf, xPar, xPar3, xMatch, mGo, xFrz, xPut, xAug, xFor, dVar, dC, dOp, dTest, dChain, dAndV, dOrV, dNotV, dAnd, dOr, dNot, dIf, dNil, dCons, dTup, dLst, dLstM, dCB, dIsi, dLc, dLcM, dYes, wipeD, dSlice, oSome, oNone, aSl_tup, aSl_lst, dNeg, dStar, dNewD, dTupVals, dSortSet, dCountL, dExtend, dAppend, dFrz, dLc2, dCountT, dIndexT, sqf_tup, sqf_lst, sqf_pair, sSeq, sSeq_tup, sSeq_lst, sRg1, sRg2, sZip2, sZip3, sZip4, sEnum, gV, gN, gC, gT, tupOf_tup, tupOf_pair, aAdd_int, aAdd_tup, aAdd_lst, aSub_int, aMul_int, aDiv_int, aMod_int, aPow_int, aCmp_int, aIx_tup, aIx_lst, aIx_scr, aIx_pair, aMax_int, aMin_int, aInt_bl, aInt_int, aLen_tup, aLen_lst, aLen_scr, aLen_pair, aTuple_lst, aTuple_tup, aIsB_bl, aNotB_bl, aEq_int, aNe_int, startD, List.map_cons, List.map_nil, List.length_cons, List.length_nil, List.cons_append, List.nil_append, List.replicate_zero, List.replicate_succ, List.append_nil, List.getElem?_cons_zero, List.getElem?_cons_succ, List.set_cons_zero, List.set_cons_succ, Option.some.injEq, exists_eq_left', exists_eq_left, exists_eq', D.int.injEq, D.bl.injEq, D.tup.injEq, D.lst.injEq, D.pair.injEq, D.ref.injEq, List.cons.injEq, Nat.sub_self, Nat.zero_add, Nat.add_sub_cancel, seqI_tup, seqI_lst, seqOf_tup, seqOf_lst, tyN_tup, tyN_lst, tyN_int, tyN_bl, tyN_str, tyN_non, isi_tt, at_0, at_1, at_2, at_3, Option.map_some, true_and, and_true, if_true, Bool.false_eq_true, if_false, Bool.not_true, Bool.not_false, ↓reduceIte, Nat.reduceAdd, Nat.reduceSub, exists_and_left, and_assoc]))
/-! what is taken tells the tables apart -/
def Tk2 (a : At) (t : List Nat) (L g : Nat) : Prop :=
  (L = a.ss.length ∧ ∃ x, t = [x] ∧ x < a.n ∧ a.up x 0 L = g) ∨ (L < a.ss.length ∧ ∃ x y, t = [x, y] ∧ x < a.n ∧ y < a.n ∧ x ≠ y ∧ a.up x 0 L = g ∧ a.up y 0 L ≠ g ∧ a.up x 0 (L + 1) = a.up y 0 (L + 1))
def Tks (s : Sch) (ts : List (List Nat)) (Ls gs : List Nat) : Prop := ts.length = s.length ∧ Ls.length = s.length ∧ gs.length = s.length ∧
  ∀ (i : Nat) (a : At) (t : List Nat) (L g : Nat), s[i]? = some a → ts[i]? = some t → Ls[i]? = some L → gs[i]? = some g → Tk2 a t L g
theorem Tk2.ne {a : At} {t : List Nat} {L g : Nat} (h : Tk2 a t L g) : t ≠ [] := by
  rcases h with ⟨_, x, e, _⟩ | ⟨_, x, y, e, _⟩ <;> rw [e] <;> simp
theorem Tks.ne {s : Sch} {ts : List (List Nat)} {Ls gs : List Nat} (h : Tks s ts Ls gs) : ∀ t ∈ ts, t ≠ [] := fun t ht => by
  obtain ⟨i, hi⟩ := List.mem_iff_getElem?.mp ht
  have hl := (List.getElem?_eq_some_iff.mp hi).1
  obtain ⟨a, ha⟩ := get_ex (l := s) (i := i) (by have := h.1; omega)
  obtain ⟨L, hL⟩ := get_ex (l := Ls) (i := i) (by have := h.1; have := h.2.1; omega)
  obtain ⟨g, hg⟩ := get_ex (l := gs) (i := i) (by have := h.1; have := h.2.2.1; omega)
  exact (h.2.2.2 i a t L g ha hi hL hg).ne
/-! the first two values that a level tells apart -/
end Mn

set_option Elab.async false
set_option linter.all false
set_option maxRecDepth 100000
set_option maxHeartbeats 4000000
set_option autoImplicit false
namespace Mn
open PySem PySem.Spec PyProof.Rows L2
variable [Tbs]
/-! t[::k], k = 1 or -1 -/
section
variable {prog : Program} {w : World} {A : Around} {E : Value → Shared → Prop} {s : Shared}
end
section
variable {X : Cx}
/-- over data -/
def dStep (te tk : DT) : DT := fun r m Q => te r m fun d m1 => tk r m1 fun k m2 => ∃ ds, d = .tup ds ∧ ((k = .int (-1) ∧ Q (.tup ds.reverse) m2) ∨ (k = .int 1 ∧ Q (.tup ds) m2))
end
end Mn

set_option Elab.async false
set_option linter.all false
set_option maxRecDepth 100000
set_option maxHeartbeats 4000000
set_option autoImplicit false
namespace Mn
open PySem PySem.Spec PyProof.Rows L2
variable [Tbs]
/-! t.index(x), t a tuple of any data -/
section
variable {X : Cx}
def ixK (o d : D) (m : Mu) (P : Nat → Prop) : Prop := ∃ es j z, o = .tup es ∧ okD o m ∧ okD d m ∧ es[j]? = some z ∧ PyData.eqv (py z) (pyM d m) = true ∧ (∀ i z', i < j → es[i]? = some z' → PyData.eqv (py z') (pyM d m) = false) ∧ P j
def dIndexTD (to te : DT) : DT := fun r m Q => to r m fun o m1 => (∃ es, o = .tup es) ∧ te r m1 fun d m2 => ixK o d m2 fun j => Q (.int (j : Nat)) m2
end
end Mn

set_option linter.all false
set_option maxHeartbeats 4000000
set_option autoImplicit false
set_option maxRecDepth 100000
namespace Mn
open PySem L2
variable [Tbs]
local macro_rules | `(tactic| walk_at "d") => `(tactic| (try simp only [xNext, xSeq, xAsg, xRet, xRetF, xDrop, xIf, xPar, xPar3, xMatch, mGo, xFrz, xPut, xAug, xFor, dVar, dC, dOp, dTest, dChain, dAndV, dOrV, dNotV, dAnd, dOr, dNot, dIf, dNil, dCons, dTup, dLst, dLstM, dCB, dIsi, dLc, dLcM, dYes, wipeD, dSlice, oSome, oNone, aSl_tup, aSl_lst, dNeg, dStar, dNewD, dTupVals, dSortSet, dStep, dIndexTD, dCountL, dExtend, dAppend, dFrz, dLc2, dCountT, dIndexT, sqf_tup, sqf_lst, sqf_pair, sSeq, sSeq_tup, sSeq_lst, sRg1, sRg2, sZip2, sZip3, sZip4, sEnum, gV, gN, gC, gT, tupOf_tup, tupOf_pair, aAdd_int, aAdd_tup, aAdd_lst, aSub_int, aMul_int, aDiv_int, aMod_int, aPow_int, aCmp_int, aIx_tup, aIx_lst, aIx_scr, aIx_pair, aMax_int, aMin_int, aInt_bl, aInt_int, aLen_tup, aLen_lst, aLen_scr, aLen_pair, aTuple_lst, aTuple_tup, aIsB_bl, aNotB_bl, aEq_int, aNe_int, startD, List.map_cons, List.map_nil, List.length_cons, List.length_nil, List.cons_append, List.nil_append, List.replicate_zero, List.replicate_succ, List.append_nil, List.getElem?_cons_zero, List.getElem?_cons_succ, List.set_cons_zero, List.set_cons_succ, Option.some.injEq, exists_eq_left', exists_eq_left, exists_eq', D.int.injEq, D.bl.injEq, D.tup.injEq, D.lst.injEq, D.pair.injEq, D.ref.injEq, List.cons.injEq, Nat.sub_self, Nat.zero_add, Nat.add_sub_cancel, seqI_tup, seqI_lst, seqOf_tup, seqOf_lst, tyN_tup, tyN_lst, tyN_int, tyN_bl, tyN_str, tyN_non, isi_tt, at_0, at_1, at_2, at_3, Option.map_some, true_and, and_true, if_true, Bool.false_eq_true, if_false, Bool.not_true, Bool.not_false, ↓reduceIte, Nat.reduceAdd, Nat.reduceSub, exists_and_left, and_assoc]))
def s_cells : DSp := fun ds m Q => ∃ (s : Sch) (r : List Nat), ds = [encS s, tD r] ∧ SchV s ∧ Roll s r ∧ Q (stD (cellsOf s r)) m
theorem l_cells : ∀ ds m Q, s_cells ds m Q → ds.length = 2 := by rintro ds m Q ⟨s, r, rfl, _⟩; rfl
def t_cells : DS := (xSeq (xDrop (dCB s_need_scheme (dCons (dVar 0) dNil)))
  (xSeq (xDrop (dCB s_need_rollup (dCons (dVar 0) (dCons (dVar 1) dNil))))
  (xRet (dCB aTuple (dCons (dCB s_cells_of (dCons (dVar 0) (dCons (dVar 1) dNil))) dNil)))))
theorem v_cells : Body 2 t_cells s_cells := by
  rintro ds m Q ⟨s, r, rfl, hs, hr, q⟩
  have hq := end_rt (m0 := m) q
  unfold t_cells
  walk_at "d"
  refine ⟨s, rfl, hs, s, r, rfl, hs.2.1, hr, s, r, rfl, hs, hr, ?_⟩
  walk_at "d"
  exact hq
def s_size : DSp := fun ds m Q => ∃ (s : Sch) (r : List Nat), ds = [encS s, tD r] ∧ SchV s ∧ Roll s r ∧ Q (nD (prodN (szs s r))) m
theorem l_size : ∀ ds m Q, s_size ds m Q → ds.length = 2 := by rintro ds m Q ⟨s, r, rfl, _⟩; rfl
def t_size : DS := (xSeq (xDrop (dCB s_need_scheme (dCons (dVar 0) dNil)))
  (xSeq (xDrop (dCB s_need_rollup (dCons (dVar 0) (dCons (dVar 1) dNil))))
  (xRet (dCB s_size_of (dCons (dVar 0) (dCons (dVar 1) dNil))))))
theorem v_size : Body 2 t_size s_size := by
  rintro ds m Q ⟨s, r, rfl, hs, hr, q⟩
  have hq := end_rt (m0 := m) q
  unfold t_size
  walk_at "d"
  exact ⟨s, rfl, hs, s, r, rfl, hs.2.1, hr, s, r, rfl, hs, hr, hq⟩
/-! more about cells of their own -/
end Mn

set_option linter.all false
set_option maxHeartbeats 4000000
set_option autoImplicit false
set_option maxRecDepth 100000
namespace Mn
open PySem L2
variable [Tbs]
local macro_rules | `(tactic| walk_at "d") => `(tactic| (try simp only [xNext, xSeq, xAsg, xRet, xRetF, xDrop, xIf, xPar, xPar3, xMatch, mGo, xFrz, xPut, xAug, xFor, dVar, dC, dOp, dTest, dChain, dAndV, dOrV, dNotV, dAnd, dOr, dNot, dIf, dNil, dCons, dTup, dLst, dLstM, dCB, dIsi, dLc, dLcM, dYes, wipeD, dSlice, oSome, oNone, aSl_tup, aSl_lst, dNeg, dStar, dNewD, dTupVals, dSortSet, dStep, dIndexTD, dCountL, dExtend, dAppend, dFrz, dLc2, dCountT, dIndexT, sqf_tup, sqf_lst, sqf_pair, sSeq, sSeq_tup, sSeq_lst, sRg1, sRg2, sZip2, sZip3, sZip4, sEnum, gV, gN, gC, gT, tupOf_tup, tupOf_pair, aAdd_int, aAdd_tup, aAdd_lst, aSub_int, aMul_int, aDiv_int, aMod_int, aPow_int, aCmp_int, aIx_tup, aIx_lst, aIx_scr, aIx_pair, aMax_int, aMin_int, aInt_bl, aInt_int, aLen_tup, aLen_lst, aLen_scr, aLen_pair, aTuple_lst, aTuple_tup, aIsB_bl, aNotB_bl, aEq_int, aNe_int, startD, List.map_cons, List.map_nil, List.length_cons, List.length_nil, List.cons_append, List.nil_append, List.replicate_zero, List.replicate_succ, List.append_nil, List.getElem?_cons_zero, List.getElem?_cons_succ, List.set_cons_zero, List.set_cons_succ, Option.some.injEq, exists_eq_left', exists_eq_left, exists_eq', D.int.injEq, D.bl.injEq, D.tup.injEq, D.lst.injEq, D.pair.injEq, D.ref.injEq, List.cons.injEq, Nat.sub_self, Nat.zero_add, Nat.add_sub_cancel, seqI_tup, seqI_lst, seqOf_tup, seqOf_lst, tyN_tup, tyN_lst, tyN_int, tyN_bl, tyN_str, tyN_non, isi_tt, at_0, at_1, at_2, at_3, Option.map_some, true_and, and_true, if_true, Bool.false_eq_true, if_false, Bool.not_true, Bool.not_false, ↓reduceIte, Nat.reduceAdd, Nat.reduceSub, exists_and_left, and_assoc]))
end Mn

set_option linter.all false
set_option maxHeartbeats 4000000
set_option autoImplicit false
set_option maxRecDepth 100000
namespace Mn
open PySem L2
variable [Tbs]
local macro_rules | `(tactic| walk_at "d") => `(tactic| (try simp only [xNext, xSeq, xAsg, xRet, xRetF, xDrop, xIf, xPar, xPar3, xMatch, mGo, xFrz, xPut, xAug, xFor, dVar, dC, dOp, dTest, dChain, dAndV, dOrV, dNotV, dAnd, dOr, dNot, dIf, dNil, dCons, dTup, dLst, dLstM, dCB, dIsi, dLc, dLcM, dYes, wipeD, dSlice, oSome, oNone, aSl_tup, aSl_lst, dNeg, dStar, dNewD, dTupVals, dSortSet, dCountL, dExtend, dAppend, dFrz, dLc2, dCountT, dIndexT, sqf_tup, sqf_lst, sqf_pair, sSeq, sSeq_tup, sSeq_lst, sRg1, sRg2, sZip2, sZip3, sZip4, sEnum, gV, gN, gC, gT, tupOf_tup, tupOf_pair, aAdd_int, aAdd_tup, aAdd_lst, aSub_int, aMul_int, aDiv_int, aMod_int, aPow_int, aCmp_int, aIx_tup, aIx_lst, aIx_scr, aIx_pair, aMax_int, aMin_int, aInt_bl, aInt_int, aLen_tup, aLen_lst, aLen_scr, aLen_pair, aTuple_lst, aTuple_tup, aIsB_bl, aNotB_bl, aEq_int, aNe_int, startD, List.map_cons, List.map_nil, List.length_cons, List.length_nil, List.cons_append, List.nil_append, List.replicate_zero, List.replicate_succ, List.append_nil, List.getElem?_cons_zero, List.getElem?_cons_succ, List.set_cons_zero, List.set_cons_succ, Option.some.injEq, exists_eq_left', exists_eq_left, exists_eq', D.int.injEq, D.bl.injEq, D.tup.injEq, D.lst.injEq, D.pair.injEq, D.ref.injEq, List.cons.injEq, Nat.sub_self, Nat.zero_add, Nat.add_sub_cancel, seqI_tup, seqI_lst, seqOf_tup, seqOf_lst, tyN_tup, tyN_lst, tyN_int, tyN_bl, tyN_str, tyN_non, isi_tt, at_0, at_1, at_2, at_3, Option.map_some, true_and, and_true, if_true, Bool.false_eq_true, if_false, Bool.not_true, Bool.not_false, ↓reduceIte, Nat.reduceAdd, Nat.reduceSub, exists_and_left, and_assoc]))
/-! least, sums, membership -/
/-! costs -/
def Rolls (s : Sch) (st : List (List Nat)) : Prop := st.length ≤ 60 ∧ ∀ r ∈ st, Roll s r
theorem Stv.rolls {s : Sch} {st : List (List Nat)} (h : Stv s st) : Rolls s st := ⟨Nat.le_trans h.1 (by decide), h.2⟩
end Mn

set_option linter.all false
set_option maxHeartbeats 4000000
set_option autoImplicit false
set_option maxRecDepth 100000
namespace Mn
open PySem L2
variable [Tbs]
local macro_rules | `(tactic| walk_at "d") => `(tactic| (try simp only [xNext, xSeq, xAsg, xRet, xRetF, xDrop, xIf, xPar, xPar3, xMatch, mGo, xFrz, xPut, xAug, xFor, dVar, dC, dOp, dTest, dChain, dAndV, dOrV, dNotV, dAnd, dOr, dNot, dIf, dNil, dCons, dTup, dLst, dLstM, dCB, dIsi, dLc, dLcM, dYes, wipeD, dSlice, oSome, oNone, aSl_tup, aSl_lst, dNeg, dStar, dNewD, dTupVals, dSortSet, dStep, dCountL, dExtend, dAppend, dFrz, dLc2, dCountT, dIndexT, sqf_tup, sqf_lst, sqf_pair, sSeq, sSeq_tup, sSeq_lst, sRg1, sRg2, sZip2, sZip3, sZip4, sEnum, gV, gN, gC, gT, tupOf_tup, tupOf_pair, aAdd_int, aAdd_tup, aAdd_lst, aSub_int, aMul_int, aDiv_int, aMod_int, aPow_int, aCmp_int, aIx_tup, aIx_lst, aIx_scr, aIx_pair, aMax_int, aMin_int, aInt_bl, aInt_int, aLen_tup, aLen_lst, aLen_scr, aLen_pair, aTuple_lst, aTuple_tup, aIsB_bl, aNotB_bl, aEq_int, aNe_int, startD, List.map_cons, List.map_nil, List.length_cons, List.length_nil, List.cons_append, List.nil_append, List.replicate_zero, List.replicate_succ, List.append_nil, List.getElem?_cons_zero, List.getElem?_cons_succ, List.set_cons_zero, List.set_cons_succ, Option.some.injEq, exists_eq_left', exists_eq_left, exists_eq', D.int.injEq, D.bl.injEq, D.tup.injEq, D.lst.injEq, D.pair.injEq, D.ref.injEq, List.cons.injEq, Nat.sub_self, Nat.zero_add, Nat.add_sub_cancel, seqI_tup, seqI_lst, seqOf_tup, seqOf_lst, tyN_tup, tyN_lst, tyN_int, tyN_bl, tyN_str, tyN_non, isi_tt, at_0, at_1, at_2, at_3, Option.map_some, true_and, and_true, if_true, Bool.false_eq_true, if_false, Bool.not_true, Bool.not_false, ↓reduceIte, Nat.reduceAdd, Nat.reduceSub, exists_and_left, and_assoc]))
/-! data compared, of any size -/
/-! order without doubles is known by the members -/
/-! the order of rollups -/
/-! how answers begin -/
end Mn

set_option Elab.async false
set_option linter.all false
set_option maxRecDepth 100000
set_option maxHeartbeats 4000000
set_option autoImplicit false
namespace Mn
open PySem PySem.Spec PyProof.Rows L2
variable [Tbs]
/-! {k: v for x in xs}, the keys tuples -/
section
variable {X : Cx}
theorem set_raw {pn : List (Addr × Obj)} {τ : L2.St} {H : Hp} {s : Shared} {F : Value → Shared → Prop} {D b : Addr} {xs : Row3} {k : NestedKey} {v : V} {r : Value} {Q : Unit → Shared → Prop} (hu : X.A.units + 65 < cLine) (I : Inv X pn τ H s) (d : DN X.w H D xs) (hat : H D = some (.ext (dictAt X.w D xs)))
    (hk : KyH H k (.ref b)) (h8 : k.depth ≤ 8) (rv : RelV v r) (q : ∀ s', Inv X pn τ (upd H D (.ext (dictAt X.w D (putV xs k b v)))) s' → Q () s') : wpAny (model X.prog X.w) X.A (dictSet D (.ref b) r) Q F s := by
  obtain ⟨vs, rp, dd⟩ := d.dict I
  have rm : (nestedKind X.prog X.w).room X.A := by show X.A.units + 8 < cLine; omega
  refine wpAny_dictSet_heap (hsz := by rw [← pairX_len rp]; exact d.sz) rm ⟨hk.is I rfl, h8⟩ dd fun h' dd' hs => q _ ?_
  obtain ⟨o, es, ep, ho, h2, h3, h4, _, _⟩ := dd'
  have da : dictAt X.w D (putV xs k b v) h' := ⟨_, pairX_put rv rp, o, es, ep, ho, h2, h3, h4⟩
  exact d_write (ob := .ext (dictAt X.w D (putV xs k b v))) I (by rw [hat]; exact True.intro) hs ⟨o, ho⟩ ⟨da, ⟨o, ho⟩, fun _ _ x k => dictAt_st x k⟩
def tDcN (wd : World) (src : TI) (g : TG) (tt : TT) (tk tv : TE) (vs : List Nat) : TE := fun τ H Q => src τ H fun J H1 => ∀ D, H1 D = none → (D == sysModules) = false → ∃ W : Nat → Nat → Hp → Prop, (∃ n, W 0 n (upd H1 D (.ext (dictAt wd D [])))) ∧ ∀ i n H, W i n H →
  (J.stop i H ∧ Q (.ref D) H) ∨ (J.go i H ∧ ∃ Nx : Hp → Prop, (∀ H', Nx H' → ∃ n', n' < n ∧ W (i + 1) n' H') ∧ ∀ x H', J.yld i H x H' → g x (wipe τ vs) H' fun τ2 H2 => wipe τ2 vs = wipe τ vs ∧ tt τ2 H2 fun b H3 =>
    if b = true then tk τ2 H3 fun y H4 => tv τ2 H4 fun z H5 => ∃ xs k a, y = .ref a ∧ DN wd H5 D xs ∧ H5 D = some (.ext (dictAt wd D xs)) ∧ KyH H5 k (.ref a) ∧ k.depth ≤ 8 ∧ Nx (upd H5 D (.ext (dictAt wd D (putV xs k a z)))) else Nx H3)
set_option maxHeartbeats 8000000 in
theorem pe_dcN {kx vx tg iter : Expr} {ifs : List Expr} {scope : Scope} {own : List (Str × Nat)} {pos : Pos} {src : TI} {g : TG} {tt : TT} {tk tv : TE} (hu : X.A.units + 65 < cLine) (hc : X.calm = true) (hN : X.N.Nodup) (hi : PI X tg iter src) (ok : BlkOk X.N X.env.scope scope own)
    (hg : ∀ (s : Shared) (H : Hp) (C : Addr) (cl : List (Str × Addr)) (fp : List Addr), PG (X.blk s H scope (compEnvC scope cl C X.env) fp) tg g) (ht : ∀ (s : Shared) (H : Hp) (C : Addr) (cl : List (Str × Addr)) (fp : List Addr), PTs (X.blk s H scope (compEnvC scope cl C X.env) fp) ifs tt)
    (hk : ∀ (s : Shared) (H : Hp) (C : Addr) (cl : List (Str × Addr)) (fp : List Addr), PE (X.blk s H scope (compEnvC scope cl C X.env) fp) kx tk) (hv : ∀ (s : Shared) (H : Hp) (C : Addr) (cl : List (Str × Addr)) (fp : List Addr), PE (X.blk s H scope (compEnvC scope cl C X.env) fp) vx tv)
    (hs : ∀ x, foldedSetIterable iter X.env x = pure x := by intro _; rfl) : PE X (.DictComp kx vx [⟨tg, iter, ifs, 0⟩] scope pos) (tDcN X.w src g tt tk tv (own.map (·.2))) := by
  refine ⟨fun pn s τ H Q I h => ?_⟩
  rw [arm_eval_DictComp]
  have fr : ∀ y ∈ scope.names, y.2 = .free → ∃ c, X.env.cells.lookup y.1 = some c := fun y hy e => (ok.free y hy e).elim (fun k => I.ok.has _ (.inl k)) fun k => I.ok.has _ (.inr k)
  refine wpAny_comprehension_free rfl hs (closure_ok fr) ok.kind (fun y hy e => by rw [ok.uniq y hy, e]) (thn (hi.run pn s τ H _ I h) fun xv s1 hx => thn hx fun itv s2 h2 => ?_)
  obtain ⟨it, fp, tn, J, Ha, e, Ia, T, sta, fa, q⟩ := h2
  subst e
  refine wpAny_newObj_type (newEnv_comp ?_)
  have big : (s2.heap.objs.size == sysModules) = false := beq_eq_false_iff_ne.mpr (Ne.symm (Nat.ne_of_lt Ia.big))
  generalize hD : s2.heap.objs.size = D at big
  have nD : Ha D = none := Ia.hok.fresh (Nat.le_of_eq hD)
  obtain ⟨W, ⟨n0, w0⟩, turn⟩ := q D nD big
  generalize hsb : ({ s2 with heap := s2.heap.push { cls := .type "dict", data := .dict #[] } } : Shared) = sb
  generalize hHb : upd Ha D (.ext (dictAt X.w D [])) = Hb at w0
  have hb : sb.heap = s2.heap.push { cls := .type "dict", data := .dict #[] } := by rw [← hsb]
  have Ib : Inv X pn τ Hb sb := by
    rw [← hsb, ← hHb]
    refine Ia.laid (t' := s2.toks) (fun _ _ e => Heap.get?_push_of_some _ e) (Nat.le_of_eq hD) ?_
    rw [← hD]
    exact ⟨⟨[], .nil, _, #[], 0, Heap.get?_push_size _ rfl, ⟨rfl, rfl, rfl⟩, rfl, rfl⟩, ⟨_, Heap.get?_push_size _ rfl⟩, fun _ _ x k => dictAt_st x k⟩
  have fb : ∀ b ∈ fp, FpOk X pn Hb b ∧ b < sb.heap.objs.size := fun b hb' => by
    obtain ⟨o, e, _⟩ := T.obj _ _ sta b hb'
    have lt := Heap.lt_size e
    refine ⟨⟨?_, (fa b hb').2⟩, by rw [hb, Heap.size_push]; exact Nat.lt_succ_of_lt lt⟩
    rw [← hHb, upd_ne (by rw [← hD]; exact Nat.ne_of_lt lt)]
    exact (fa b hb').1
  have stb : tn 0 sb.heap := T.keep _ _ _ sta fun b _ o e => by rw [hb]; exact Heap.get?_push_of_some _ e
  have Ic := block_start Ib ok hN fb
  have pg := hg sb Hb sb.heap.objs.size (cellsFrom (sb.heap.objs.size + 1) scope.names (cloFrom X.env.cells scope.names [])) fp
  have pt := ht sb Hb sb.heap.objs.size (cellsFrom (sb.heap.objs.size + 1) scope.names (cloFrom X.env.cells scope.names [])) fp
  have pk := hk sb Hb sb.heap.objs.size (cellsFrom (sb.heap.objs.size + 1) scope.names (cloFrom X.env.cells scope.names [])) fp
  have pv := hv sb Hb sb.heap.objs.size (cellsFrom (sb.heap.objs.size + 1) scope.names (cloFrom X.env.cells scope.names [])) fp
  have nfp : ∀ b ∈ fp, Hb b = none := fun b hb' => (fb b hb').1.1
  show codeAny _ _ (.compStart (.DictComp kx vx [⟨tg, iter, ifs, 0⟩] scope pos) 0 (.ref it) (.ref D) (compEnvC scope (cellsFrom (sb.heap.objs.size + 1) scope.names (cloFrom X.env.cells scope.names [])) sb.heap.objs.size X.env)) (compPost (model X.prog X.w) X.A X.xe none (EP X pn τ Q) (.ref D) sb.heap.objs.size) { sb with heap := pushCells (sb.heap.push { cls := .type "dict", data := .dict #[] }) scope.names }
  generalize hen : compEnvC scope (cellsFrom (sb.heap.objs.size + 1) scope.names (cloFrom X.env.cells scope.names [])) sb.heap.objs.size X.env = en at Ic pg pt pk pv ⊢
  have enL : en.locals = sb.heap.objs.size := by subst hen; rfl
  generalize hsc : ({ sb with heap := pushCells (sb.heap.push { cls := .type "dict", data := .dict #[] }) scope.names } : Shared) = sc at Ic ⊢
  have stc : tn 0 sc.heap := T.keep _ _ _ stb fun b _ o e => by rw [← hsc]; exact pushCells_keeps _ _ _ _ (Heap.get?_push_of_some _ e)
  have still : ∀ {τ' : L2.St} {H' : Hp} {s' : Shared}, Inv (X.blk sb Hb scope en fp) [] τ' H' s' → (∀ b ∈ fp, H' b = none) → ∀ b ∈ fp, FpOk (X.blk sb Hb scope en fp) [] H' b := fun {τ' H' s'} I' hn b hb' =>
    ⟨hn b hb', (I'.ok.exf b hb').1, I'.ok.exfs b hb', .inl hb', fun x c e => (I'.ok.exf b hb').2 x c e, fun p hp => absurd (show p ∈ ([] : List (Addr × Obj)) ++ [] from hp) (by simp)⟩
  have go : codeAny (model X.prog X.w) X.A (.compLoop (.DictComp kx vx [⟨tg, iter, ifs, 0⟩] scope pos) 0 (.ref it) (.ref D) en) (compPost (model X.prog X.w) X.A X.xe none (EP X pn τ Q) (.ref D) sb.heap.objs.size) sc := by
    refine compLoop_anyD (fun n s' => ∃ i H', Inv (X.blk sb Hb scope en fp) [] (wipe τ (own.map (·.2))) H' s' ∧ tn i s'.heap ∧ (∀ b ∈ fp, H' b = none) ∧ W i n H') ?_ n0 ⟨0, Hb, Ic, stc, nfp, w0⟩
    rintro n sd ⟨i, Hd, Id, std, nd, wd⟩
    rcases turn i n Hd wd with ⟨stop, qq⟩ | ⟨more, Nx, hNx, step⟩
    · refine thnF (T.done (X.blk sb Hb scope en fp) rfl rfl rfl hc i [] sd _ Hd (fun _ _ => False) Id (still Id nd) std stop) fun r se ⟨hr, Ie⟩ => ?_
      subst hr
      have If : Inv X pn τ Hd se := Ib.call' (ch := fp) Ie.os Ie.base Ie.hok Ie.bare fun b hb' => ⟨(fb b hb').1.2.2.2.1, (fb b hb').1.2.1, (fb b hb').1.2.2.2.2.1, (fb b hb').1.2.2.2.2.2⟩
      have nC : Hd sb.heap.objs.size = none := by have z : Hd en.locals = none := Ie.free; rw [enL] at z; exact z
      obtain ⟨mm, hn, _⟩ := Ie.loc
      have hn : se.heap.Ns en.locals mm := hn
      rw [enL] at hn
      obtain ⟨f0, f1, f2, f3, f4, f5⟩ := Ib.fpOk (Nat.le_refl _) nC
      exact ⟨mm, hn, fun h'' sm => ⟨.ref D, Hd, If.turned (t' := se.toks) (fun b o hb' e => (sm.2 b hb').trans e) f0 f1 f3 f4 f5, rfl, qq⟩⟩
    · refine thnF (T.item (X.blk sb Hb scope en fp) rfl rfl rfl hc i [] sd _ Hd (fun _ _ => False) Id (still Id nd) std more) fun r se ⟨u, hr, he⟩ => ?_
      subst hr
      refine thnF he fun _ sf ⟨x, Hf, If, rf, yf, stf, nf⟩ => ?_
      refine thnF (pg.run _ sf _ Hf x u _ (If.pinned (still If nf) (T.obj _ _ stf)) rf (step x Hf yf)) fun _ sg ⟨τg, Hg, Ig, hwg, qg⟩ => ?_
      refine thnF (pt.run _ sg τg Hg _ Ig qg) fun b sh ⟨Hh, Ih, qh⟩ => ?_
      have back : ∀ {s' : Shared} {H' : Hp}, Inv (X.blk sb Hb scope en fp) ([] ++ pinsAt fp sf.heap) τg H' s' → Nx H' → ∃ m, m < n ∧ ∃ i H', Inv (X.blk sb Hb scope en fp) [] (wipe τ (own.map (·.2))) H' s' ∧ tn i s'.heap ∧ (∀ b ∈ fp, H' b = none) ∧ W i m H' := fun {s' H'} I' nx => by
        obtain ⟨m', hm, w'⟩ := hNx H' nx
        have held : ∀ b ∈ fp, ∀ o, sf.heap.get? b = some o → s'.heap.get? b = some o ∧ H' b = none := fun b hb' o e => let z := I'.pin (b, o) (List.mem_append_right _ (List.mem_append_right _ (mem_pinsAt hb' e))); ⟨z.1, z.2.1⟩
        refine ⟨m', hm, i + 1, H', (I'.unpinned (pins := [])).weak (by rw [← hwg, wipe_length]) (fun j v e => ?_), T.keep _ _ _ stf fun b hb' o e => (held b hb' o e).1, fun b hb' => ?_, w'⟩
        · rw [← hwg] at e; exact (wipe_some e).1
        · obtain ⟨o, e, _⟩ := T.obj _ _ stf b hb'; exact (held b hb' o e).2
      cases b with
      | false => simp only [Bool.false_eq_true, if_false] at qh ⊢; exact back Ih qh
      | true =>
        simp only [if_true] at qh ⊢
        refine thnF (pk.run _ sh τg Hh _ Ih qh) fun z si ⟨yk, Hi, Ii, ri, qi⟩ => ?_
        refine thnF (pv.run _ si τg Hi _ Ii qi) fun z2 sj ⟨yv, Hj, Ij, rj, xs, k, a, ek, dn, hat, ky, k8, nx⟩ => ?_
        subst ek
        cases ri
        exact set_raw (X := X.blk sb Hb scope en fp) hu Ij dn hat ky k8 rj fun s' I' => back I' nx
  exact codeAny_compStart_dict go (T.self X.A 0 _ _ _ stc go)
/-- over data -/
def dcPut (p : Addr) (y z : D) (m : Mu) (A : Mu → Prop) : Prop := ∃ k kvs, y = keyD k ∧ (∃ ks, y = .tup ks) ∧ k.depth ≤ 8 ∧ m p = some (.dN kvs) ∧ kvs.length < sizeLine ∧ A (up m p (.dN (putN kvs k z)))
def dcGo (g : DG) (tk tv : DT) (r : Ro) (p : Addr) : List D → Mu → (Mu → Prop) → Prop
  | [], m, Q => Q m
  | d :: ds, m, Q => g d r fun r1 => tk r1 m fun y m2 => tv r1 m2 fun z m3 => dcPut p y z m3 fun m4 => dcGo g tk tv r p ds m4 Q
def dDc (src : DI) (vs : List Nat) (g : DG) (tk tv : DT) : DT := fun r m Q => src r m fun items m1 => ∀ p, m1 p = none → dcGo g tk tv (wipeD r vs) p items (up m1 p (.dN [])) fun m2 => Q (.ref p) m2
end
end Mn

set_option Elab.async false
set_option linter.all false
set_option maxRecDepth 100000
set_option maxHeartbeats 4000000
set_option autoImplicit false
namespace Mn
open PySem PySem.Spec PyProof.Rows L2
variable [Tbs]
/-! t < u, tuples of whole numbers -/
end Mn

set_option linter.all false
set_option maxHeartbeats 4000000
set_option autoImplicit false
set_option maxRecDepth 100000
namespace Mn
open PySem L2
variable [Tbs]
local macro_rules | `(tactic| walk_at "d") => `(tactic| (try simp only [xNext, xSeq, xAsg, xRet, xRetF, xDrop, xIf, xPar, xPar3, xMatch, mGo, xFrz, xPut, xAug, xFor, dVar, dC, dOp, dTest, dChain, dAndV, dOrV, dNotV, dAnd, dOr, dNot, dIf, dNil, dCons, dTup, dLst, dLstM, dCB, dIsi, dLc, dLcM, dYes, wipeD, dSlice, oSome, oNone, aSl_tup, aSl_lst, dNeg, dStar, dNewD, dTupVals, dSortSet, dDc, dStep, dIndexTD, dCountL, dExtend, dAppend, dFrz, dLc2, dCountT, dIndexT, sqf_tup, sqf_lst, sqf_pair, sSeq, sSeq_tup, sSeq_lst, sRg1, sRg2, sZip2, sZip3, sZip4, sEnum, gV, gN, gC, gT, tupOf_tup, tupOf_pair, aAdd_int, aAdd_tup, aAdd_lst, aSub_int, aMul_int, aDiv_int, aMod_int, aPow_int, aCmp_int, aIx_tup, aIx_lst, aIx_scr, aIx_pair, aMax_int, aMin_int, aInt_bl, aInt_int, aLen_tup, aLen_lst, aLen_scr, aLen_pair, aTuple_lst, aTuple_tup, aIsB_bl, aNotB_bl, aEq_int, aNe_int, startD, List.map_cons, List.map_nil, List.length_cons, List.length_nil, List.cons_append, List.nil_append, List.replicate_zero, List.replicate_succ, List.append_nil, List.getElem?_cons_zero, List.getElem?_cons_succ, List.set_cons_zero, List.set_cons_succ, Option.some.injEq, exists_eq_left', exists_eq_left, exists_eq', D.int.injEq, D.bl.injEq, D.tup.injEq, D.lst.injEq, D.pair.injEq, D.ref.injEq, List.cons.injEq, Nat.sub_self, Nat.zero_add, Nat.add_sub_cancel, seqI_tup, seqI_lst, seqOf_tup, seqOf_lst, tyN_tup, tyN_lst, tyN_int, tyN_bl, tyN_str, tyN_non, isi_tt, at_0, at_1, at_2, at_3, Option.map_some, true_and, and_true, if_true, Bool.false_eq_true, if_false, Bool.not_true, Bool.not_false, ↓reduceIte, Nat.reduceAdd, Nat.reduceSub, exists_and_left, and_assoc]))
def s_rollups_of : DSp := fun ds m Q => ∃ s : Sch, ds = [encS s] ∧ SchV s ∧ Q (.lst ((rolls s).map tD)) m
theorem l_rollups_of : ∀ ds m Q, s_rollups_of ds m Q → ds.length = 1 := by rintro ds m Q ⟨s, rfl, _⟩; rfl
def t_rollups_of : DS := (xRet (dCB s_tuples_below (dCons (dLc (sSeq (dVar 0)) [1] (gV 1) dYes (dOp aAdd (dCB aLen (dCons (dOp aIx (dVar 1) (dC (.int 1))) dNil)) (dC (.int 1)))) dNil)))
theorem v_rollups_of : Body 2 t_rollups_of s_rollups_of := by
  rintro ds m Q ⟨s, rfl, hs, q⟩
  have h3 := hs.2.1
  have e0 : encS s = .tup (s.map At.enc) := rfl
  unfold t_rollups_of
  walk_at "d"
  refine ⟨_, Or.inr e0, small (k := 1000) (by rw [List.length_map]; omega), ?_⟩
  refine lcGo_maps (enc := At.enc) (fun a : At => nD (a.ss.length + 1)) s [] _ (fun a ha K hK => ?_) ?_
  · unfold At.enc
    walk_at "d"
    rw [List.length_map]
    exact hK
  · rw [List.nil_append]
    refine ⟨s.map fun a : At => a.ss.length + 1, by rw [List.map_map]; rfl, by rw [List.length_map]; exact h3, fun k hk => ?_, end_rt q⟩
    obtain ⟨a, ha, rfl⟩ := List.mem_map.mp hk
    have := (hs.2.2.1 a ha).2.2.1
    omega
theorem rolls_len {s : Sch} (hs : SchV s) : (rolls s).length ≤ 64 := by
  unfold rolls
  rw [cellsN_len]
  have key : ∀ ns : List Nat, ns.length ≤ 3 → (∀ k ∈ ns, k ≤ 4) → prodN ns ≤ 64 := by
    intro ns hl h
    match ns, hl with
    | [], _ => decide
    | [a], _ => have := h a (by simp); unfold prodN; simp only [List.foldl_cons, List.foldl_nil, Nat.one_mul]; omega
    | [a, b], _ =>
      have h1 := h a (by simp); have h2 := h b (by simp)
      have := Nat.mul_le_mul h1 h2
      unfold prodN; simp only [List.foldl_cons, List.foldl_nil, Nat.one_mul]; omega
    | [a, b, c], _ =>
      have h1 := h a (by simp); have h2 := h b (by simp); have h3 := h c (by simp)
      have := Nat.mul_le_mul (Nat.mul_le_mul h1 h2) h3
      unfold prodN; simp only [List.foldl_cons, List.foldl_nil, Nat.one_mul]; omega
    | _ :: _ :: _ :: _ :: _, hl => simp at hl
  refine key _ (by rw [List.length_map]; exact hs.2.1) fun k hk => ?_
  obtain ⟨a, ha, rfl⟩ := List.mem_map.mp hk
  have := (hs.2.2.1 a ha).2.2.1
  omega
/-! choices -/
/-! the best -/
def bD (o : Option (Nat × List (List Nat))) : D := match o with
  | none => .non
  | some (t, more) => .tup [nD t, stD more]
end Mn

set_option linter.all false
set_option maxHeartbeats 4000000
set_option autoImplicit false
set_option maxRecDepth 100000
namespace Mn
open PySem L2
variable [Tbs]
local macro_rules | `(tactic| walk_at "d") => `(tactic| (try simp only [xNext, xSeq, xAsg, xRet, xRetF, xDrop, xIf, xPar, xPar3, xFrz, xPut, xAug, xFor, dVar, dC, dOp, dTest, dChain, dAndV, dOrV, dNotV, dAnd, dOr, dNot, dIf, dNil, dCons, dTup, dLst, dLstM, dCB, dIsi, dLc, dLcM, dYes, wipeD, dSlice, oSome, oNone, aSl_tup, aSl_lst, dNeg, dStar, dNewD, dTupVals, dCountL, dExtend, dAppend, dFrz, dLc2, dCountT, dIndexT, sqf_tup, sqf_lst, sqf_pair, sSeq, sSeq_tup, sSeq_lst, sRg1, sRg2, sZip2, sZip3, sZip4, sEnum, gV, gN, gC, gT, tupOf_tup, tupOf_pair, aAdd_int, aAdd_tup, aAdd_lst, aSub_int, aMul_int, aDiv_int, aMod_int, aPow_int, aCmp_int, aIx_tup, aIx_lst, aIx_scr, aIx_pair, aMax_int, aMin_int, aInt_bl, aInt_int, aLen_tup, aLen_lst, aLen_scr, aLen_pair, aTuple_lst, aTuple_tup, aEq_int, aNe_int, startD, List.map_cons, List.map_nil, List.length_cons, List.length_nil, List.cons_append, List.nil_append, List.replicate_zero, List.replicate_succ, List.append_nil, List.getElem?_cons_zero, List.getElem?_cons_succ, List.set_cons_zero, List.set_cons_succ, Option.some.injEq, exists_eq_left', exists_eq_left, exists_eq', D.int.injEq, D.bl.injEq, D.tup.injEq, D.lst.injEq, D.pair.injEq, D.ref.injEq, List.cons.injEq, Nat.sub_self, Nat.zero_add, Nat.add_sub_cancel, seqI_tup, seqI_lst, seqOf_tup, seqOf_lst, tyN_tup, tyN_lst, tyN_int, tyN_bl, tyN_str, tyN_non, isi_tt, at_0, at_1, at_2, at_3, Option.map_some, true_and, and_true, if_true, Bool.false_eq_true, if_false, Bool.not_true, Bool.not_false, ↓reduceIte, Nat.reduceAdd, Nat.reduceSub, exists_and_left, and_assoc]))
/-! how great the sums may be -/
theorem steps_le : ∀ {ss : List (List Nat)} {g : Nat}, stepsV g ss → g ≤ 6 → ∀ st ∈ ss, st.length ≤ 6 ∧ ∀ k ∈ st, k ≤ 6
  | [], _, _, _, st, h => by cases h
  | s :: r, g, ⟨g', ⟨h1, h2, h3, h4⟩, hr⟩, hg, st, h => by
    rcases List.mem_cons.mp h with rfl | h
    · exact ⟨by omega, fun k hk => by have := h3 k hk; omega⟩
    · exact steps_le hr (by omega) st h
theorem sm_enc {a : At} (h : a.V) : Sm a.enc 3 1000 := by
  have h6 := h.2.1; have h3 := h.2.2.1
  have h1 : Sm (.tup (a.ss.map tD)) 2 490 := by
    refine (sm_tup (k := 1) (n := 135) fun d hd => ?_).mono (by decide) ?_
    · obtain ⟨st, hst, rfl⟩ := List.mem_map.mp hd
      obtain ⟨l6, k6⟩ := steps_le h.2.2.2 h6 st hst
      exact (sm_tD (n := 6) l6 fun k hk => by have := k6 k hk; omega).mono (by decide) (by decide)
    · rw [List.length_map]; have := Nat.mul_le_mul_right (135 + 2) h3; omega
  unfold At.enc
  refine (sm_tup (k := 2) (n := 490) fun d hd => ?_).mono (by decide) (by show 2 * (490 + 2) + 3 ≤ 1000; decide)
  simp only [List.mem_cons, List.not_mem_nil, or_false] at hd
  rcases hd with rfl | rfl
  · exact (sm_int (by omega)).mono (by decide) (by decide)
  · exact h1.mono (by decide) (by decide)
theorem sm_encS {s : Sch} (h : SchV s) : Sm (encS s) 4 4000 := by
  unfold encS
  refine (sm_tup (k := 3) (n := 1000) fun d hd => ?_).mono (by decide) ?_
  · obtain ⟨a, ha, rfl⟩ := List.mem_map.mp hd
    exact sm_enc (h.2.2.1 a ha)
  · rw [List.length_map]; have := Nat.mul_le_mul_right (1000 + 2) h.2.1; omega
end Mn

set_option linter.all false
set_option maxHeartbeats 4000000
set_option autoImplicit false
set_option maxRecDepth 100000
namespace Mn
open PySem L2
variable [Tbs]
local macro_rules | `(tactic| walk_at "d") => `(tactic| (try simp only [xNext, xSeq, xAsg, xRet, xRetF, xDrop, xIf, xPar, xPar3, xFrz, xPut, xAug, xFor, dVar, dC, dOp, dTest, dChain, dAndV, dOrV, dNotV, dAnd, dOr, dNot, dIf, dNil, dCons, dTup, dLst, dLstM, dCB, dIsi, dLc, dLcM, dYes, wipeD, dSlice, oSome, oNone, aSl_tup, aSl_lst, dNeg, dStar, dNewD, dTupVals, dCountL, dExtend, dAppend, dFrz, dLc2, dCountT, dIndexT, sqf_tup, sqf_lst, sqf_pair, sSeq, sSeq_tup, sSeq_lst, sRg1, sRg2, sZip2, sZip3, sZip4, sEnum, gV, gN, gC, gT, tupOf_tup, tupOf_pair, aAdd_int, aAdd_tup, aAdd_lst, aSub_int, aMul_int, aDiv_int, aMod_int, aPow_int, aCmp_int, aIx_tup, aIx_lst, aIx_scr, aIx_pair, aMax_int, aMin_int, aInt_bl, aInt_int, aLen_tup, aLen_lst, aLen_scr, aLen_pair, aTuple_lst, aTuple_tup, aEq_int, aNe_int, startD, List.map_cons, List.map_nil, List.length_cons, List.length_nil, List.cons_append, List.nil_append, List.replicate_zero, List.replicate_succ, List.append_nil, List.getElem?_cons_zero, List.getElem?_cons_succ, List.set_cons_zero, List.set_cons_succ, Option.some.injEq, exists_eq_left', exists_eq_left, exists_eq', D.int.injEq, D.bl.injEq, D.tup.injEq, D.lst.injEq, D.pair.injEq, D.ref.injEq, List.cons.injEq, Nat.sub_self, Nat.zero_add, Nat.add_sub_cancel, seqI_tup, seqI_lst, seqOf_tup, seqOf_lst, tyN_tup, tyN_lst, tyN_int, tyN_bl, tyN_str, tyN_non, isi_tt, at_0, at_1, at_2, at_3, Option.map_some, true_and, and_true, if_true, Bool.false_eq_true, if_false, Bool.not_true, Bool.not_false, ↓reduceIte, Nat.reduceAdd, Nat.reduceSub, exists_and_left, and_assoc]))
/-! the cell above, by the law -/
end Mn

set_option linter.all false
set_option maxHeartbeats 4000000
set_option autoImplicit false
set_option maxRecDepth 100000
namespace Mn
open PySem L2
variable [Tbs]
local macro_rules | `(tactic| walk_at "d") => `(tactic| (try simp only [xNext, xSeq, xAsg, xRet, xRetF, xDrop, xIf, xPar, xPar3, xFrz, xPut, xAug, xFor, dVar, dC, dOp, dTest, dChain, dAndV, dOrV, dNotV, dAnd, dOr, dNot, dIf, dNil, dCons, dTup, dLst, dLstM, dCB, dIsi, dLc, dLcM, dYes, wipeD, dSlice, oSome, oNone, aSl_tup, aSl_lst, dNeg, dStar, dNewD, dTupVals, dCountL, dExtend, dAppend, dFrz, dLc2, dCountT, dIndexT, sqf_tup, sqf_lst, sqf_pair, sSeq, sSeq_tup, sSeq_lst, sRg1, sRg2, sZip2, sZip3, sZip4, sEnum, gV, gN, gC, gT, tupOf_tup, tupOf_pair, aAdd_int, aAdd_tup, aAdd_lst, aSub_int, aMul_int, aDiv_int, aMod_int, aPow_int, aCmp_int, aIx_tup, aIx_lst, aIx_scr, aIx_pair, aMax_int, aMin_int, aInt_bl, aInt_int, aLen_tup, aLen_lst, aLen_scr, aLen_pair, aTuple_lst, aTuple_tup, aEq_int, aNe_int, startD, List.map_cons, List.map_nil, List.length_cons, List.length_nil, List.cons_append, List.nil_append, List.replicate_zero, List.replicate_succ, List.append_nil, List.getElem?_cons_zero, List.getElem?_cons_succ, List.set_cons_zero, List.set_cons_succ, Option.some.injEq, exists_eq_left', exists_eq_left, exists_eq', D.int.injEq, D.bl.injEq, D.tup.injEq, D.lst.injEq, D.pair.injEq, D.ref.injEq, List.cons.injEq, Nat.sub_self, Nat.zero_add, Nat.add_sub_cancel, seqI_tup, seqI_lst, seqOf_tup, seqOf_lst, tyN_tup, tyN_lst, tyN_int, tyN_bl, tyN_str, tyN_non, isi_tt, at_0, at_1, at_2, at_3, Option.map_some, true_and, and_true, if_true, Bool.false_eq_true, if_false, Bool.not_true, Bool.not_false, ↓reduceIte, Nat.reduceAdd, Nat.reduceSub, exists_and_left, and_assoc]))
theorem sm_roll {s : Sch} {r : List Nat} (hs : SchV s) (hr : Roll s r) : Sm (tD r) 1 69 := by
  have hl := hr.len; have h3 := hs.2.1
  refine (sm_tD (n := 3) (by omega) fun k hk => ?_).mono (by decide) (by decide)
  obtain ⟨i, hi⟩ := List.mem_iff_getElem?.mp hk
  obtain ⟨a, ha⟩ := get_ex (l := s) (i := i) (by have := (List.getElem?_eq_some_iff.mp hi).1; omega)
  have h1 := hr.at ha hi
  have h2 := (hs.2.2.1 a (List.mem_of_getElem? ha)).2.2.1
  omega
theorem sm_cell {s : Sch} {r c : List Nat} (hs : SchV s) (hr : Roll s r) (hc : Cell s r c) : Sm (tD c) 1 69 := by
  have hl := hc.len hr; have h3 := hs.2.1; have hrl := hr.len
  refine (sm_tD (n := 3) (by omega) fun k hk => ?_).mono (by decide) (by decide)
  obtain ⟨i, hi⟩ := List.mem_iff_getElem?.mp hk
  have hil := (List.getElem?_eq_some_iff.mp hi).1
  obtain ⟨a, ha⟩ := get_ex (l := s) (i := i) (by omega)
  obtain ⟨l, hl2⟩ := get_ex (l := r) (i := i) (by omega)
  have av := hs.2.2.1 a (List.mem_of_getElem? ha)
  have h1 := hc.at ha hl2 hi
  have h2 := (av.sz_le (hr.at ha hl2)).2
  have h4 := av.2.1
  omega
end Mn

set_option Elab.async false
set_option linter.all false
set_option maxRecDepth 100000
set_option maxHeartbeats 4000000
set_option autoImplicit false
namespace Mn
open PySem PySem.Spec PyProof.Rows L2
variable [Tbs]
/-! xs * k, the new list to change -/
end Mn

set_option linter.all false
set_option maxHeartbeats 4000000
set_option autoImplicit false
set_option maxRecDepth 100000
namespace Mn
open PySem L2
variable [Tbs]
local macro_rules | `(tactic| walk_at "d") => `(tactic| (try simp only [xNext, xSeq, xAsg, xRet, xRetF, xDrop, xIf, xPar, xPar3, xMatch, mGo, xFrz, xPut, xAug, xFor, dVar, dC, dOp, dTest, dChain, dAndV, dOrV, dNotV, dAnd, dOr, dNot, dIf, dNil, dCons, dTup, dLst, dLstM, dCB, dIsi, dLc, dLcM, dYes, wipeD, dSlice, oSome, oNone, aSl_tup, aSl_lst, dNeg, dStar, dNewD, dTupVals, dSortSet, dDc, dStep, dIndexTD, dCountL, dExtend, dAppend, dFrz, dLc2, dCountT, dIndexT, sqf_tup, sqf_lst, sqf_pair, sSeq, sSeq_tup, sSeq_lst, sRg1, sRg2, sZip2, sZip3, sZip4, sEnum, gV, gN, gC, gT, tupOf_tup, tupOf_pair, aAdd_int, aAdd_tup, aAdd_lst, aSub_int, aMul_int, aDiv_int, aMod_int, aPow_int, aCmp_int, aIx_tup, aIx_lst, aIx_scr, aIx_pair, aMax_int, aMin_int, aInt_bl, aInt_int, aLen_tup, aLen_lst, aLen_scr, aLen_pair, aTuple_lst, aTuple_tup, aIsB_bl, aNotB_bl, aEq_int, aNe_int, startD, List.map_cons, List.map_nil, List.length_cons, List.length_nil, List.cons_append, List.nil_append, List.replicate_zero, List.replicate_succ, List.append_nil, List.getElem?_cons_zero, List.getElem?_cons_succ, List.set_cons_zero, List.set_cons_succ, Option.some.injEq, exists_eq_left', exists_eq_left, exists_eq', D.int.injEq, D.bl.injEq, D.tup.injEq, D.lst.injEq, D.pair.injEq, D.ref.injEq, List.cons.injEq, Nat.sub_self, Nat.zero_add, Nat.add_sub_cancel, seqI_tup, seqI_lst, seqOf_tup, seqOf_lst, tyN_tup, tyN_lst, tyN_int, tyN_bl, tyN_str, tyN_non, isi_tt, at_0, at_1, at_2, at_3, Option.map_some, true_and, and_true, if_true, Bool.false_eq_true, if_false, Bool.not_true, Bool.not_false, ↓reduceIte, Nat.reduceAdd, Nat.reduceSub, exists_and_left, and_assoc]))
/-! sums over cells -/
end Mn

set_option Elab.async false
set_option linter.all false
set_option maxRecDepth 100000
set_option maxHeartbeats 4000000
set_option autoImplicit false
namespace Mn
open PySem PySem.Spec PyProof.Rows L2 GenW
variable [Tbs]
/-! a for within a generator -/
section
variable {M : Model} {A : Around} {R : GenEnd} {Y : Protocol} {n : Nat} {s₀ : Shared} {c : Code} {fs : List Frame} {s : Shared} {env : Env} {K : Flow → Sem PySem.Fin} {H : Value → Sem PySem.Fin} {gd : Bool → Bool} {lv : List Value → List Value}
end
section
variable {prog : Program} {w : World} {A : Around} {R : GenEnd} {Y : Protocol} {n : Nat} {s₀ : Shared} {fs : List Frame} {s : Shared} {env : Env}
end
section
variable {X : Cx}
end
end Mn

set_option Elab.async false
set_option linter.all false
set_option maxRecDepth 100000
set_option maxHeartbeats 4000000
set_option autoImplicit false
namespace Mn
open PySem PySem.Spec PyProof.Rows L2
/-! what the top leaves: how it is looked at -/
/-- one def of the top, by its name -/
def ddOf (x : Str) (st : Stmt) : He.DefD := ⟨(x, none), x, x, defArgs st, defBody st, defScope st, [], []⟩
def btNames : List String := ["len", "isinstance", "int", "bool", "str", "tuple", "list", "dict", "set", "all", "any", "sum", "max", "min", "zip", "range", "enumerate", "repr", "sorted"]
end Mn

set_option Elab.async false
set_option linter.all false
set_option maxRecDepth 100000
set_option maxHeartbeats 4000000
set_option autoImplicit false
namespace Mn
open PySem PySem.Spec PyProof.Rows L2
variable [Tbs]
/-- a law's end over a head by facts -/
theorem walkDE {l : PySem.W.OpenLaw} {n k : Nat} {q : Program} {loose : List Str} {XP : (Str → Option Value) → Heap → Prop} {YP : World → Heap → Prop} {dr : DefRec} {d : DSp} {x : Str}
    (hT : (Tbs.T : List (Addr × Str)) = []) (hn : l.most = some n) (hn2 : n ≤ sizeLine) (hdf : dr.params.defaults = []) (room : Room k callerA)
    (F : ∀ (w : World) (mg : Str → Option Value) (fa : Addr) (h : Heap), YP w h → h.Ns mainGlobals mg → mg dr.name = some (.ref fa) →
      ∃ (K : PySem.W.Frag) (fd : FuncData), K.In h ∧ (∀ (s : Shared) (u : Value), BindsTo s fd ⟨[u], []⟩ [(x, u)]) ∧ ∀ base : Heap, K.In base → base.Ns mainGlobals mg → FnD l.prog w K mg base k fa fd [x] d)
    (hd : ∀ (ns : List Int) (Q : DK), ns.length ≤ n → (∀ m, Q (.bl true) m) → d [.scr (ns.map D.int)] (fun _ => none) Q) :
    PySem.W.WalkO q loose XP YP l.row.toRowW dr [] (fun f vs => PySem.call f vs) := by
  refine Att.attach_call hn hdf fun w s₀ s₁ mg mb fa o pm cd doc a vs ns G Y ho hod hcd hmg hobj hints hlen hg => ?_
  obtain ⟨K, fd, inK, hb, hF⟩ := F w mg fa _ Y G.T.g hmg
  exact lawD inK G.T.g G.T.b G.T.builtins G.T.nolimit hg hobj hints (Nat.le_trans hlen hn2) room hF hb (fun Q hQ => hd ns Q hlen hQ) hT
theorem fun_of_FunD {K : PySem.W.Frag} {x qual : Str} {st : Stmt} {f : Addr} {fd : FuncData} {kws : List (Str × V)} (F : FunD K x qual (defArgs st) (defBody st) (defScope st) [] kws f fd) : Fun K x qual st f fd := by
  obtain ⟨oc, od, dV, kV, doc, pm, an, cdv, ct, osl, e, lk, hcd, hD, hK⟩ := F.ex
  rcases hD with ⟨_, rfl⟩ | ⟨z, _⟩
  · exact ⟨⟨oc, od, kV, doc, pm, an, cdv, ct, osl, e, lk, hcd⟩, F.kp⟩
  · exact absurd rfl z
theorem df_of {fa : List He.Fa} {fn : List He.DefD} {K : PySem.W.Frag} {h : Heap} {mg : Str → Option Value} (X : K.In h) (G : h.Ns mainGlobals mg) (c : He.SaysD fa fn K) {x : Str} {st : Stmt} {ps : List Str} (i j : Nat)
    (hb : ∀ (kV doc pm : Value) (an : Option Addr) (cdv ct : Value) (us : List Value), us.length = ps.length → bindArgs (PySem.W.fnOf x x (defArgs st) (defBody st) (defScope st) .none kV doc pm an cdv ct) ⟨us, []⟩ = pure (ps.zip us))
    (hi : fn[i]? = some (ddOf x st) := by rfl) (hj : fa[j]? = some (.glo x) := by rfl) :
    ∃ f fd, Df K mg x st ps f fd ∧ ∀ (s : Shared) (us : List Value), us.length = ps.length → BindsTo s fd ⟨us, []⟩ (ps.zip us) := by
  obtain ⟨fd, F⟩ := c.def_ i hi
  exact ⟨_, fd, ⟨fun_of_FunD F, He.glo_ok X G (c.fact j hj), FunD.bindsN F hb⟩, fun s us hl => FunD.bindsA F hb s us hl⟩
theorem df_ex {K : PySem.W.Frag} {mg : Str → Option Value} {x : Str} {st : Stmt} {ps : List Str} (h : ∃ f fd, Df K mg x st ps f fd ∧ ∀ (s : Shared) (us : List Value), us.length = ps.length → BindsTo s fd ⟨us, []⟩ (ps.zip us)) : ∃ f fd, Df K mg x st ps f fd :=
  let ⟨f, fd, a, _⟩ := h; ⟨f, fd, a⟩
theorem fnC1 {P : Program} {w : World} {K : PySem.W.Frag} {mg : Str → Option Value} {base : Heap} {x : Str} {st : Stmt} {N ps : List Str} {k : Nat} {t : DS} {d : DSp} {f : Addr} {fd : FuncData} (Dd : Df K mg x st ps f fd) (S : FnScope N ps (defScope st)) (hl : ∀ ds m Q, d ds m Q → ds.length = ps.length) (hb : Body N.length t d)
    (der : ∀ (f : Addr) (cdv : Value) (A : Around) (outer : List Env) (s : Shared) (H : Hp) (E : XK), A.guards = some [] → Room k (A.deeper (envOfC x (defScope st) s.heap.objs.size f cdv)) → PDSs (cxOf CX0 P w K mg base N x (defScope st) f cdv A outer s H E).nox (defBody st) t) :
    FnD P w K mg base (k + 1) f fd ps d := by
  obtain ⟨oc, od, kV, doc, pm, an, cdv, ct, osl, rfl, lk, hcd⟩ := Dd.F.ex
  refine gn_of lk hcd S (fun vs H Q E ⟨G, ds, m, Qd, rp, rl, q, w⟩ => by rw [← rp.len]; exact hl _ _ _ q) fun A outer s H vs Q E room gd h => ?_
  exact ⟨_, PSs.nox (der f cdv A outer s H E gd room), lfS_start hb h⟩
theorem bts_of {fa : List He.Fa} {fn : List He.DefD} {K : PySem.W.Frag} {h : Heap} {mg : Str → Option Value} (X : K.In h) (G : h.Ns mainGlobals mg) (c : He.SaysD fa fn K) (hf : ∀ x ∈ btNames, He.Fa.free (Str.ofString x) ∈ fa) : Bts mg := by
  have c1 := (He.ba (show ((fa.all fun f => f.ok K) && fn.all fun d => d.ok K) = true from congrArg (fun z : He.AlD => z.1) c)).1
  have q : ∀ x ∈ btNames, mg (Str.ofString x) = none := fun x hx => He.free_ok X G (List.all_eq_true.mp c1 _ (hf x hx))
  refine ⟨?_, ?_, ?_, ?_, ?_, ?_, ?_, ?_, ?_, ?_, ?_, ?_, ?_, ?_, ?_, ?_, ?_, ?_, ?_⟩ <;> exact q _ (by decide)
end Mn

set_option Elab.async false
set_option linter.all false
set_option maxRecDepth 100000
set_option maxHeartbeats 4000000
set_option autoImplicit false
namespace Mn
open PySem PySem.Spec PyProof.Rows L2 GenW
variable [Tbs]
/-! a def's promise, whatever is under way around the call -/
structure FnF (P : Program) (w : World) (K : PySem.W.Frag) (mg : Str → Option Value) (base : Heap) (CX : CXT) (k : Nat) (f : Addr) (fd : FuncData) (ps : List Str) (sp : Sp) : Prop where
  len : ∀ vs H Q E, sp vs H Q E → vs.length = ps.length
  run : ∀ (A : Around) (outer : List Env) (s : Shared) (H : Hp) (args : Args) (us : List Value) (vs : List V) (Q : VK) (E : XK), Room k A → Env0 P w K mg base A outer s H →
    BindsTo s fd args (ps.zip us) → Vals vs us → sp vs H Q E → codeAny (model P w) A (.call (.ref f) args) (CR CX outer P w H s Q E) s
section
variable {P : Program} {w : World} {K : PySem.W.Frag} {mg : Str → Option Value} {base : Heap} {CX : CXT}
theorem FnF.toG {k : Nat} {f : Addr} {fd : FuncData} {ps : List Str} {sp : Sp} (F : FnF P w K mg base CX k f fd ps sp) : FnG P w K mg base CX k f fd ps sp :=
  ⟨F.len, fun A outer s H args us vs Q E room _ => F.run A outer s H args us vs Q E room⟩
theorem gn_ofF {k : Nat} {f : Addr} {name qual : Str} {params : Arguments} {body : List Stmt} {scope : Scope} {dV kV doc pm cdv ct oc : Value} {an od : Option Addr} {osl : Array (Option Value)} {N ps : List Str} {sp : Sp}
    (lk : K.lookup f = some ⟨oc, od, .func (PySem.W.fnOf name qual params body scope dV kV doc pm an cdv ct), osl⟩) (hcd : PySem.W.codeIn K cdv qual = true) (S : FnScope N ps scope) (len : ∀ vs H Q E, sp vs H Q E → vs.length = ps.length)
    (hbody : ∀ (A : Around) (outer : List Env) (s : Shared) (H : Hp) (vs : List V) (Q : VK) (E : XK), Room k (A.deeper (envOfC qual scope s.heap.objs.size f cdv)) → sp vs H Q E →
      ∃ t, PSs (cxOf CX P w K mg base N qual scope f cdv A outer s H E) body t ∧ t { nx := fun _ H' => Q .non H', rt := Q } (L2.start N vs) H) :
    FnF P w K mg base CX (k + 1) f (PySem.W.fnOf name qual params body scope dV kV doc pm an cdv ct) ps sp := by
  refine ⟨len, fun A outer s H args us vs Q E room e0 bd rv hsp => ?_⟩
  have inK : K.In s.heap := e0.mod.kin.keeps fun b o e => (e0.bs b o e).1
  have noLim : s.heap.NoLimit := e0.mod.nolimit.keeps fun b o e => (e0.bs b o e).1
  refine codeAny_call_function room.depth (inK _ _ lk) rfl S.co S.gen rfl (PySem.W.codeRec_of inK hcd) (bd _ _ _ _ (wpAny_newFunctionEnv_cells S.kind (fun y hy => ?_) fun env he s1 ic => ?_))
  · obtain ⟨n, v⟩ := y
    rcases S.par n (List.of_mem_zip hy).1 with q | q
    · exact .inl q
    · exact .inr ⟨q, PySem.W.cellsFrom_some _ _ _ (.inl q)⟩
  · subst he
    refine ⟨noLim.keeps ic.toInCall.keep, codeAny_func ?_⟩
    obtain ⟨t, ht, hq⟩ := hbody A outer s H vs Q E (room.deeper _) hsp
    refine wpAny_mono (ht.run [] s1 (L2.start N vs) H _ (inv_start S room.hd e0 (len _ _ _ _ hsp) rv ic) hq) (fun fl s' hs => ?_) fun e s' hs => hs
    cases fl with
    | ret u => obtain ⟨v, σ', H', J, r1, q⟩ := hs; exact ⟨v, H', J.os, J.bare, J.base, J.hok, r1, q⟩
    | next => obtain ⟨σ', H', J, q⟩ := hs; exact ⟨.non, H', J.os, J.bare, J.base, J.hok, rfl, q⟩
    | brk => obtain ⟨_, _, _, q⟩ := hs; exact q.elim
    | cont => obtain ⟨_, _, _, q⟩ := hs; exact q.elim
end
abbrev FnDF (P : Program) (w : World) (K : PySem.W.Frag) (mg : Str → Option Value) (base : Heap) (k : Nat) (f : Addr) (fd : FuncData) (ps : List Str) (d : DSp) : Prop := FnF P w K mg base CX0 k f fd ps (lfSp ⟨K, w, Tbs.T⟩ d)
def ClF (P : Program) (w : World) (K : PySem.W.Frag) (mg : Str → Option Value) (base : Heap) (x : Str) (k : Nat) (ps : List Str) (d : DSp) : Prop :=
  ∃ f fd, mg x = some (.ref f) ∧ PySem.W.keepIn K (.ref f) = true ∧ Binds K fd ps [] ∧ FnDF P w K mg base k f fd ps d
theorem ClF.cl {P : Program} {w : World} {K : PySem.W.Frag} {mg : Str → Option Value} {base : Heap} {x : Str} {k : Nat} {ps : List Str} {d : DSp} (h : ClF P w K mg base x k ps d) : Cl P w K mg base x k ps d := by
  obtain ⟨f, fd, h1, h2, h3, F⟩ := h
  exact ⟨f, fd, h1, h2, h3, F.toG⟩
theorem fnCF {P : Program} {w : World} {K : PySem.W.Frag} {mg : Str → Option Value} {base : Heap} {x : Str} {st : Stmt} {N ps : List Str} {k : Nat} {t : DS} {d : DSp} (h : ∃ f fd, Df K mg x st ps f fd) (S : FnScope N ps (defScope st)) (hl : ∀ ds m Q, d ds m Q → ds.length = ps.length) (hb : Body N.length t d)
    (der : ∀ (f : Addr) (cdv : Value) (A : Around) (outer : List Env) (s : Shared) (H : Hp) (E : XK), Room k (A.deeper (envOfC x (defScope st) s.heap.objs.size f cdv)) → PDSs (cxOf CX0 P w K mg base N x (defScope st) f cdv A outer s H E).nox (defBody st) t) :
    ClF P w K mg base x (k + 1) ps d := by
  obtain ⟨f, fd, Dd⟩ := h
  refine ⟨f, fd, Dd.g, Dd.F.kp, Dd.b, ?_⟩
  obtain ⟨oc, od, kV, doc, pm, an, cdv, ct, osl, rfl, lk, hcd⟩ := Dd.F.ex
  refine gn_ofF lk hcd S (fun vs H Q E ⟨G, ds, m, Qd, rp, rl, q, w⟩ => by rw [← rp.len]; exact hl _ _ _ q) fun A outer s H vs Q E room h => ?_
  exact ⟨_, PSs.nox (der f cdv A outer s H E room), lfS_start hb h⟩
section
variable {X : Cx} {k : Nat} {f : Addr} {fd : FuncData} {ps : List Str} {d : DSp} {x : Str} {p pos : Pos} {e : Expr} {es : List Expr} {tr : DA}
theorem run_DF {pins : List (Addr × Obj)} {σ : L2.St} {H : Hp} {s : Shared} {Q : VK} {us : List Value} {vs : List V} (F : FnDF X.prog X.w X.K X.mg X.base k f fd ps d) (room : Room k X.A) (bd : Binds X.K fd ps [])
    (I : Inv X pins σ H s) (rv : Vals vs us) (h : lfSp X.kf d vs H Q E0) : wpAny (model X.prog X.w) X.A (call (.ref f) us) (EP X pins σ Q) X.xe s := by
  have hl : us.length = ps.length := by rw [← rv.length]; exact F.len _ _ _ _ h
  have bz := bd s us I.kIn (by rw [List.append_nil]; exact hl)
  rw [List.append_nil] at bz
  refine wpAny_call (codeAny_mono (F.run X.A X.stack s H ⟨us, []⟩ us vs Q E0 room I.env0 bz rv h) fun res s' hq => ?_)
  cases res with
  | error e => exact False.elim hq
  | ok fl => cases fl with
    | ret u => exact I.after hq
    | next => exact False.elim hq
    | brk => exact False.elim hq
    | cont => exact False.elim hq
theorem pd_callF (C : ClF X.prog X.w X.K X.mg X.base x k ps d) (room : Room k X.A) (hg : Gl X x)
    (ha : PDA X (e :: es) tr) (hdb : (x == ("__debug__" : Str)) = false := by decide) (he : starEach (e :: es) X.env = (false, eval e X.env) :: starEach es X.env := by rfl) (hpl : (backTo pos (starEach es X.env)).any (·.1) = false := by rfl) :
    PD X (.Call (.Name x p) (e :: es) [] pos) (dCB d tr) := by
  obtain ⟨f, fd, hm, hk, bd, F⟩ := C
  refine ⟨fun pins s σ H Q I ⟨G, ro, m, Qd, hs, hr, q, w⟩ => ?_⟩
  have h : lfA X.kf tr σ H fun vs H1 => lfSp X.kf d vs H1 Q E0 := ⟨G, ro, m, _, hs, hr, q, fun vs H1 G1 m1 ds s1 r1 h1 q1 => ⟨G1, ds, m1, Qd, h1, r1, q1, w.after s1⟩⟩
  refine wpAny_Call_Name_kw (ld_glob I hg hm ?_ hdb)
  exact PySem.W.callWith_K (h₀ := X.base) I.ok.mod.kin hk (thn (PA.run ha pos pins s σ H _ I h) fun us s1 ⟨vs, H1, I1, r, q⟩ => ⟨I1.kIn, run_DF F room bd I1 r q⟩) he hpl
end
/-! a generator def that runs a statement and hands out the items of a sequence -/
section
variable {X : Cx} {k : Nat} {ps : List Str} {d : DSp} {x nm : Str} {p p' pos pos' : Pos} {e : Expr} {es : List Expr} {tr : DA}
end
end Mn

set_option Elab.async false
set_option linter.all false
set_option maxRecDepth 100000
set_option maxHeartbeats 4000000
set_option autoImplicit false
namespace Mn
open PySem PySem.Spec PyProof.Rows L2
variable [Tbs]
/-! sum(t), t a tuple -/
end Mn

set_option linter.all false
set_option maxHeartbeats 4000000
set_option autoImplicit false
set_option maxRecDepth 100000
namespace Mn
open PySem L2
variable [Tbs]
local macro_rules | `(tactic| walk_at "d") => `(tactic| (try simp only [xNext, xSeq, xAsg, xRet, xRetF, xDrop, xIf, xPar, xPar3, xMatch, mGo, xFrz, xPut, xAug, xFor, dVar, dC, dOp, dTest, dChain, dAndV, dOrV, dNotV, dAnd, dOr, dNot, dIf, dNil, dCons, dTup, dLst, dLstM, dCB, dIsi, dLc, dLcM, dYes, wipeD, dSlice, oSome, oNone, aSl_tup, aSl_lst, dNeg, dStar, dNewD, dTupVals, dSortSet, dDc, dStep, dIndexTD, dCountL, dExtend, dAppend, dFrz, dLc2, dCountT, dIndexT, sqf_tup, sqf_lst, sqf_pair, sSeq, sSeq_tup, sSeq_lst, sRg1, sRg2, sZip2, sZip3, sZip4, sEnum, gV, gN, gC, gT, tupOf_tup, tupOf_pair, aAdd_int, aAdd_tup, aAdd_lst, aSub_int, aMul_int, aDiv_int, aMod_int, aPow_int, aCmp_int, aIx_tup, aIx_lst, aIx_scr, aIx_pair, aMax_int, aMin_int, aInt_bl, aInt_int, aLen_tup, aLen_lst, aLen_scr, aLen_pair, aTuple_lst, aTuple_tup, aIsB_bl, aNotB_bl, aEq_int, aNe_int, startD, List.map_cons, List.map_nil, List.length_cons, List.length_nil, List.cons_append, List.nil_append, List.replicate_zero, List.replicate_succ, List.append_nil, List.getElem?_cons_zero, List.getElem?_cons_succ, List.set_cons_zero, List.set_cons_succ, Option.some.injEq, exists_eq_left', exists_eq_left, exists_eq', D.int.injEq, D.bl.injEq, D.tup.injEq, D.lst.injEq, D.pair.injEq, D.ref.injEq, List.cons.injEq, Nat.sub_self, Nat.zero_add, Nat.add_sub_cancel, seqI_tup, seqI_lst, seqOf_tup, seqOf_lst, tyN_tup, tyN_lst, tyN_int, tyN_bl, tyN_str, tyN_non, isi_tt, at_0, at_1, at_2, at_3, Option.map_some, true_and, and_true, if_true, Bool.false_eq_true, if_false, Bool.not_true, Bool.not_false, ↓reduceIte, Nat.reduceAdd, Nat.reduceSub, exists_and_left, and_assoc]))
/-! all rollups, handed out one after another -/
theorem cellsN_head : ∀ {ns : List Nat}, (∀ k ∈ ns, 1 ≤ k) → (cellsN ns)[0]? = some (List.replicate ns.length 0)
  | [], _ => rfl
  | k :: ns, h => by
    have ih := cellsN_head (ns := ns) fun j hj => h j (List.mem_cons_of_mem _ hj)
    obtain ⟨j, rfl⟩ : ∃ j, k = j + 1 := ⟨k - 1, by have := h k List.mem_cons_self; omega⟩
    rw [cellsN_cons, List.range_succ_eq_map, List.flatMap_cons, List.getElem?_append_left (by rw [List.length_map]; exact (List.getElem?_eq_some_iff.mp ih).1), List.getElem?_map, ih]
    rfl
theorem rolls_head (s : Sch) : (rolls s)[0]? = some (finN s) := by
  unfold rolls
  rw [cellsN_head fun k hk => by obtain ⟨a, _, rfl⟩ := List.mem_map.mp hk; omega, List.length_map]
  rfl
def s_rollups : DSp := fun ds m Q => ∃ s : Sch, ds = [encS s] ∧ SchV s ∧ Q (.lst ((rolls s).map tD)) m
theorem l_rollups : ∀ ds m Q, s_rollups ds m Q → ds.length = 1 := by rintro ds m Q ⟨s, rfl, _⟩; rfl
def t_rollups : DS := (xDrop (dCB s_need_scheme (dCons (dVar 0) dNil)))
def e_rollups : DT := (dCB s_rollups_of (dCons (dVar 0) dNil))
end Mn

set_option Elab.async false
set_option linter.all false
set_option maxRecDepth 100000
set_option maxHeartbeats 4000000
set_option autoImplicit false
namespace Mn
open PySem PySem.Spec PyProof.Rows L2 GenW
/-! a generator's code by single runs: from a wake to the next end; what it leaves is told as it stands -/
def One (M : Model) (A : Around) (Ph : End → Shared → Prop) (c : Code) (t : Sem PySem.Fin) (fs : List Frame) (s : Shared) : Prop :=
  ∀ (Γ : PySem.Ctx) (p : Pos), Γ.code = c → Γ.Woken A → ∃ (e : End) (s' : Shared), Runs M Γ p t fs s e s' ∧ Ph e s'
section
variable {M : Model} {A : Around} {Ph : End → Shared → Prop} {c : Code} {fs : List Frame} {s : Shared} {env : Env} {K : Flow → Sem PySem.Fin} {H : Value → Sem PySem.Fin} {gd : Bool → Bool} {lv : List Value → List Value}
theorem one_wrap {α : Type} {m : Sem α} {K : α → Sem PySem.Fin} (z : wpAny M (A.over c fs) m (fun a s1 => One M A Ph c (K a) fs s1) (fun x s1 => One M A Ph c (H x) fs s1) s) : One M A Ph c (m.wrap K H gd lv) fs s := by
  intro Γ p e w
  subst e
  have z1 := z (Γ.over fs) p (w.over fs)
  exact runs_wrap_of_wp (Γ := Γ) (fs := fs) (Φ := Ph) K H gd lv m z1 (fun a p1 s1 q => q Γ p1 rfl w) fun x p1 s1 q => q Γ p1 rfl w
theorem one_bw {α β : Type} {m : Sem α} {f : α → Sem β} {K : β → Sem PySem.Fin} (z : wpAny M (A.over c fs) m (fun a s1 => One M A Ph c ((f a).wrap K H gd lv) fs s1) (fun x s1 => One M A Ph c (H x) fs s1) s) : One M A Ph c ((m >>= f).wrap K H gd lv) fs s := by
  rw [Sem.bind_eq_wrap', Sem.wrap_wrap]
  exact one_wrap z
theorem one_at {p : Pos} {k : Unit → Sem PySem.Fin} (z : One M A Ph c (k ()) fs s) : One M A Ph c (.at p k) fs s :=
  one_wrap (m := standAt p) (K := k) (H := .raise) (gd := id) (lv := id) (wpAny_standAt z)
theorem one_point {l : List Value} {k : Unit → Sem PySem.Fin} (z : One M A Ph c (k ()) fs s) : One M A Ph c (.point l k) fs s :=
  one_wrap (m := point) (K := k) (H := .raise) (gd := id) (lv := fun _ => l) (wpAny_point z)
theorem one_call {c1 : Code} {h : Option Value} {g : Bool} {l : List Value} {k : Result → Sem PySem.Fin} (z : ∀ p, One M A Ph c1 (M.den c1) (.ret k h g l c p [] :: fs) s) : One M A Ph c (.call c1 h g l k) fs s := by
  intro Γ p e w
  subst e
  obtain ⟨e1, s1, r, q⟩ := z p (Γ.goto c1) p rfl (w.goto c1)
  exact ⟨e1, s1, runs_call_seg r, q⟩
theorem one_leaf {k : Result → Sem PySem.Fin} {h : Option Value} {g : Bool} {l kp : List Value} {c1 : Code} {p1 : Pos} (r : Result) (z : One M A Ph c1 (k r) fs s) : One M A Ph c (leafOf r) (.ret k h g l c1 p1 kp :: fs) s := by
  intro Γ p e w
  subst e
  obtain ⟨e1, s1, r1, q⟩ := z (Γ.goto c1) p1 rfl (w.goto c1)
  exact ⟨e1, s1, Runs.pop r r1, q⟩
theorem one_again {c1 : Code} (hq : c1.quiet = true) (z : One M A Ph c1 (M.den c1) fs s) : One M A Ph c (.pure (.again c1)) fs s := by
  intro Γ p e w
  subst e
  obtain ⟨e1, s1, r1, q⟩ := z (Γ.goto c1) p rfl (w.goto c1)
  exact ⟨e1, s1, Runs.head (c₁ := c1) (fun _ _ y => .again hq y) r1, q⟩
theorem one_end (r : Result) (z : Ph (.ret r) s) : One M A Ph c (leafOf r) [] s := fun Γ p _ _ => ⟨.ret r, s, Runs.leaf r, z⟩
theorem one_yield {v : Value} {g : Bool} {l : List Value} {k : Resume → Sem PySem.Fin} (hf : splitAtGen fs = none) (z : ∀ p, Ph (.susp v g l k c p fs) s) : One M A Ph c (.yield v g l k) fs s := by
  intro Γ p e w
  subst e
  exact ⟨_, s, Runs.yield' fs hf, z p⟩
theorem one_mono {Ph' : End → Shared → Prop} {t : Sem PySem.Fin} (z : One M A Ph c t fs s) (h : ∀ e s', Ph e s' → Ph' e s') : One M A Ph' c t fs s := fun Γ p e w =>
  let ⟨e1, s1, r, q⟩ := z Γ p e w
  ⟨e1, s1, r, h _ _ q⟩
/-! ### statements -/
theorem one_cons {st : Stmt} {rest : List Stmt} (z : One M A Ph c ((exec st env).wrap (fun f => match f with | .next => (execs rest env).wrap K H gd lv | f => K f) H gd lv) fs s) : One M A Ph c ((execs (st :: rest) env).wrap K H gd lv) fs s := by
  rw [execs_cons_wrap]
  exact z
theorem one_for {target iter : Expr} {body : List Stmt} {pos : Pos} (h : wpAny M (A.over c fs) (eval iter env) (fun x s1 => wpAny M (A.over c fs) (pyIter x) (fun it s2 => ∀ p,
      One M A Ph (.forLoop target it body [] env) (M.den (.forLoop target it body [] env)) (.ret (fun r => ((match r with | .ok f => (.pure f : Sem Flow) | .error e => .raise e).onRaise (cameBack env)).wrap K H gd lv) none (gd false) (lv []) c p [] :: fs) s2)
        (fun x s1 => One M A Ph c (H x) fs s1) s1) (fun x s1 => One M A Ph c (H x) fs s1) s)
    (hs : ∀ x, foldedSetIterable iter env x = pure x) : One M A Ph c ((exec (.For target iter body [] pos) env).wrap K H gd lv) fs s := by
  rw [exec_For]
  refine one_bw (wpAny_standAt ?_)
  refine one_bw (wpAny_mono h (fun x s1 h1 => ?_) fun _ _ y => y)
  refine one_bw (wpAny_of_eq (hs x) ?_)
  refine one_bw (wpAny_standAt ?_)
  refine one_bw (wpAny_holding (wpAny_mono h1 (fun it s2 h2 => ?_) fun _ _ y => y))
  exact one_call h2
/-- a yield as a statement; what stays behind is told by its rest -/
theorem one_yieldS {e : Expr} {yp pos : Pos} (hf : splitAtGen fs = none) (hg : gd false = false) (hfg : fs.any Frame.guarded = false) (hco : env.scope.isCoroutine = false) (hi : interactive env = false)
    (h : wpAny M (A.over c fs) (eval e env) (fun v s1 => ∀ (k : Resume → Sem PySem.Fin) (l : List Value) (p : Pos) (g : Bool), g = false → (∀ (Ph' : End → Shared → Prop) (s2 : Shared), One M A Ph' c (K .next) fs s2 → One M A Ph' c (k (.send .none)) fs s2) → Ph (.susp v g l k c p fs) s1)
      (fun x s1 => One M A Ph c (H x) fs s1) s) : One M A Ph c ((exec (.Expr (.Yield (some e) yp) pos) env).wrap K H gd lv) fs s := by
  rw [exec_Expr env _ pos hi rfl]
  have hy : ∀ v, yieldOut env v = yieldValue v := fun v => by
    unfold yieldOut
    rw [hco]; rfl
  show One M A Ph c (.at pos fun _ => ((eval e env >>= fun v => (standAt yp >>= fun _ => yieldOut env v)) >>= fun x => dropValue (.Yield (some e) yp) pos x).wrap K H gd lv) fs s
  refine one_at ?_
  rw [Sem.bind_eq_wrap', Sem.bind_eq_wrap', Sem.wrap_wrap, Sem.wrap_wrap]
  refine one_wrap (wpAny_mono h (fun v s1 h1 => ?_) fun _ _ y => y)
  rw [hy v]
  refine one_at ?_
  refine one_yield hf fun p => h1 _ _ p _ hg fun Ph' s2 z => ?_
  exact z
end
section
variable {prog : Program} {w : World} {A : Around} {Ph : End → Shared → Prop} {fs : List Frame} {s : Shared} {env : Env}
theorem one_forLoop {target : Expr} {it : Value} {body : List Stmt} (E : Value → Shared → Prop)
    (hE : ∀ x s', E x s' → One (model prog w) A Ph (.forLoop target it body [] env) ((do noteFrame x env; theTreesLotGoes x : Sem Unit).wrap (fun _ => .raise x) .raise id id) fs s')
    (h : wpAny (model prog w) (A.over (.forLoop target it body [] env) fs) (pyNext it) (fun r s1 => match r with
      | none => One (model prog w) A Ph (.forLoop target it body [] env) (.pure (.again (.block [] env))) fs s1
      | some v => wpAny (model prog w) (A.over (.forLoop target it body [] env) fs) (letOwnedTupleGo target it v) (fun _ s2 => wpAny (model prog w) (A.over (.forLoop target it body [] env) fs) (assign target env v) (fun _ s3 =>
          One (model prog w) A Ph (.forLoop target it body [] env) ((execs body env).wrap (fun f => match f with
            | .next | .cont => .pure (.again (.forLoop target it body [] env))
            | .brk => .pure (.done .next)
            | .ret v => .pure (.done (.ret v))) (fun e => (do noteFrame e env; theTreesLotGoes e : Sem Unit).wrap (fun _ => .raise e) .raise id id) id id) fs s3) E s2) E s1) E s) :
    One (model prog w) A Ph (.forLoop target it body [] env) ((model prog w).den (.forLoop target it body [] env)) fs s := by
  have hE' : ∀ x s', E x s' → One (model prog w) A Ph (.forLoop target it body [] env) ((do noteFrame x env; theTreesLotGoes x : Sem Unit).bind fun _ => .raise x) fs s' := fun x s' z => by
    rw [Sem.bind_eq_wrap]; exact hE x s' z
  show One _ A Ph _ ((forTurn target it body [] env).onRaise (fun x => do noteFrame x env; theTreesLotGoes x)) fs s
  unfold forTurn
  rw [Sem.onRaise_eq_wrap]
  refine one_bw (wpAny_standAt ?_)
  refine one_bw (wpAny_onRaise (wpAny_mono h (fun r s1 h1 => ?_) fun x s' z => wpAny_standAt (hE' x s' z)))
  cases r with
  | none => exact h1
  | some v =>
    refine one_bw (wpAny_mono h1 (fun _ s2 h2 => ?_) fun x s' z => hE' x s' z)
    refine one_bw (wpAny_mono h2 (fun _ s3 h3 => ?_) fun x s' z => hE' x s' z)
    rw [Sem.bind_eq_wrap', Sem.wrap_wrap]
    rw [Sem.wrap_congr (execs body env) _ _ (K' := fun f => match f with
            | .next | .cont => .pure (.again (.forLoop target it body [] env))
            | .brk => .pure (.done .next)
            | .ret v => .pure (.done (.ret v))) (H' := (fun e => (do noteFrame e env; theTreesLotGoes e : Sem Unit).wrap (fun _ => .raise e) .raise id id))
        (fun f => by cases f <;> rfl)
        (fun e => by first | exact Sem.bind_eq_wrap _ _ | (show (do noteFrame e env; theTreesLotGoes e : Sem Unit).bind (fun _ => .raise e) = _; rw [Sem.bind_eq_wrap]))]
    exact h3
theorem one_func {body : List Stmt} (h : One (model prog w) A Ph (.func body env) ((execs body env).wrap (fun f => .pure (.done (.ret (match f with | .ret v => v | _ => .none))))
      (fun e => (leaving env e).wrap (fun _ => .raise e) .raise id id) id id) fs s) : One (model prog w) A Ph (.func body env) ((model prog w).den (.func body env)) fs s := by
  show One _ A Ph _ (.point [] fun _ => ((execs body env).onRaise (leaving env)) >>= _) fs s
  refine one_point ?_
  rw [Sem.onRaise_eq_wrap, Sem.bind_eq_wrap', Sem.wrap_wrap]
  rw [Sem.wrap_congr (execs body env) _ _ (K' := fun f => .pure (.done (.ret (match f with | .ret v => v | _ => .none)))) (H' := fun e => (leaving env e).wrap (fun _ => .raise e) .raise id id) (fun f => by cases f <;> rfl)
    (fun e => by rw [Sem.bind_eq_wrap, Sem.wrap_wrap]; rfl)]
  exact h
end
/-! ### the turns over a list, each item handed out -/
/-- the list's iterator, the list, the frame's names -/
structure Lp (it L F : Addr) (items : Array Value) (i : Nat) (s : Shared) : Prop where
  it : s.heap.IsListIter it L i
  ls : s.heap.IsList L items
  ns : ∃ m, s.heap.Ns F m
/-- all else stays -/
structure Mv (it F : Addr) (s s' : Shared) : Prop where
  os : s'.os = s.os
  gens : s'.gens = s.gens
  keep : ∀ b o, b ≠ it → b ≠ F → s.heap.get? b = some o → s'.heap.get? b = some o
theorem Mv.refl {it F : Addr} {s : Shared} : Mv it F s s := ⟨rfl, rfl, fun _ _ _ _ e => e⟩
theorem Mv.trans {it F : Addr} {s s1 s2 : Shared} (a : Mv it F s s1) (b : Mv it F s1 s2) : Mv it F s s2 := ⟨b.os.trans a.os, b.gens.trans a.gens, fun c o h1 h2 e => b.keep c o h1 h2 (a.keep c o h1 h2 e)⟩
theorem Mv.heap {it F : Addr} {s s1 : Shared} (a : Mv it F s s1) {h : Heap} {t : Nat} (k : ∀ b o, b ≠ it → b ≠ F → s1.heap.get? b = some o → h.get? b = some o) : Mv it F s { s1 with heap := h, toks := t } := ⟨a.os, a.gens, fun c o h1 h2 e => k c o h1 h2 (a.keep c o h1 h2 e)⟩
/-- what a wake leads to, r items to come -/
def Ev (M : Model) (A : Around) (it L F : Addr) (items : Array Value) : Nat → Shared → End → Shared → Prop
  | 0 => fun s e s' => Mv it F s s' ∧ e = .ret (.ok (.ret .none))
  | r + 1 => fun s e s' => Mv it F s s' ∧ ∃ v k l c p fs, items[items.size - (r + 1)]? = some v ∧ e = .susp v false l k c p fs ∧ fs.any Frame.guarded = false ∧ Lp it L F items (items.size - r) s' ∧
      ∀ s2, Lp it L F items (items.size - r) s2 → One M A (Ev M A it L F items r s2) c (k (.send .none)) fs s2
section
variable {prog : Program} {w : World} {A : Around} {env : Env}
theorem Lp.apart {it L F : Addr} {items : Array Value} {i : Nat} {s : Shared} (h : Lp it L F items i s) : L ≠ it ∧ F ≠ it ∧ L ≠ F := by
  obtain ⟨⟨o, ho, hc, hd⟩, ⟨o2, ho2, hc2, n2, hd2⟩, m, o3, es, ep, ho3, hd3, _⟩ := h
  refine ⟨fun e => ?_, fun e => ?_, fun e => ?_⟩
  · rw [e, ho] at ho2; cases ho2; rw [hd] at hd2; cases hd2
  · rw [e, ho] at ho3; cases ho3; rw [hd] at hd3; cases hd3
  · rw [e, ho3] at ho2; cases ho2; rw [hd3] at hd2; cases hd2
theorem one_turns {y : Str} {py p2 yp ep p : Pos} {K : Flow → Sem PySem.Fin} {H : Value → Sem PySem.Fin} {gd : Bool → Bool} {lv : List Value → List Value} {c : Code} {it L : Addr} {items : Array Value} (hy : env.kindOf y = some .local) (hkd : env.scope.kind = .function) (hco : env.scope.isCoroutine = false) (hi : interactive env = false)
    (hdb : (y == ("__debug__" : Str)) = false) (hgd : gd false = false)
    (hh : (A.over (.forLoop (.Name y py) (.ref it) [.Expr (.Yield (some (.Name y p2)) yp) ep] [] env) [.ret (fun r => ((match r with | .ok f => (.pure f : Sem Flow) | .error e => .raise e).onRaise (cameBack env)).wrap K H gd lv) none (gd false) (lv []) c p []]).handled = none)
    (hK : ∀ (Ph : End → Shared → Prop) (s : Shared), Ph (.ret (.ok (.ret .none))) s → One (model prog w) A Ph c (K .next) [] s) :
    ∀ (r i : Nat) (s s0 : Shared), i + r = items.size → Lp it L env.locals items i s → Mv it env.locals s0 s → One (model prog w) A (Ev (model prog w) A it L env.locals items r s0) (.forLoop (.Name y py) (.ref it) [.Expr (.Yield (some (.Name y p2)) yp) ep] [] env)
      ((model prog w).den (.forLoop (.Name y py) (.ref it) [.Expr (.Yield (some (.Name y p2)) yp) ep] [] env)) [.ret (fun r => ((match r with | .ok f => (.pure f : Sem Flow) | .error e => .raise e).onRaise (cameBack env)).wrap K H gd lv) none (gd false) (lv []) c p []] s := by
  intro r
  induction r with
  | zero =>
    intro i s s0 hr lp mv
    obtain ⟨a1, a2, a3⟩ := lp.apart
    refine one_forLoop (fun _ _ => False) (fun _ _ z => z.elim) ?_
    refine wpAny_pyNext_list_end hh lp.it lp.ls (Array.getElem?_eq_none (by omega)) fun h' hk => ?_
    refine one_again rfl ?_
    refine one_leaf (.ok .next) ?_
    exact hK _ _ ⟨mv.heap fun b o h1 _ e => hk b o h1 e, rfl⟩
  | succ r ih =>
    intro i s s0 hr lp mv
    obtain ⟨a1, a2, a3⟩ := lp.apart
    have hi' : i < items.size := by omega
    refine one_forLoop (fun _ _ => False) (fun _ _ z => z.elim) ?_
    refine wpAny_pyNext_list_item lp.it lp.ls (x := items[i]) (Array.getElem?_eq_getElem hi') fun h1 it1 sb1 => ?_
    have ls1 := lp.ls.extBut sb1.extBut a1
    obtain ⟨m, ns⟩ := lp.ns
    have ns1 : h1.Ns env.locals m := ns.at' fun o e => sb1.extBut _ _ a2 e
    refine wpAny_of_eq (a := ()) rfl ?_
    refine wpAny_assign_Name (wpAny_storeName_local hy ns1 (fun h2 ns2 sb2 => ?_) (by rw [hkd]; rfl))
    have ls2 := ls1.extBut sb2.extBut a3
    have it2 := it1.extBut sb2.extBut (Ne.symm a2)
    refine one_cons (one_yieldS rfl rfl (by show (gd false || _) = false; rw [hgd]; rfl) hco hi ?_)
    refine wpAny_Name (wpAny_loadName_local hkd hy ns2 (v := items[i]) (by simp) ?_) hdb
    intro k l p1 g hg hk
    have mv2 : Mv it env.locals s0 { s with heap := h2, toks := s.toks + 1 } := mv.heap fun b o n1 n2 e => sb2.extBut b o n2 (sb1.extBut b o n1 e)
    have lp2 : Lp it L env.locals items (items.size - r) { s with heap := h2, toks := s.toks + 1 } := by
      rw [show items.size - r = i + 1 by omega]
      exact ⟨it2, ls2, _, ns2⟩
    subst hg
    refine ⟨mv2, items[i], k, l, _, p1, _, ?_, rfl, ?_, lp2, fun s2 lps2 => ?_⟩
    · rw [show items.size - (r + 1) = i by omega]
      exact Array.getElem?_eq_getElem hi'
    · show (gd false || _) = false
      rw [hgd]; rfl
    · refine hk _ s2 ?_
      refine one_again rfl ?_
      refine ih (i + 1) s2 s2 (by omega) ?_ .refl
      rw [← show items.size - r = i + 1 by omega]
      exact lps2
end
end Mn

set_option Elab.async false
set_option linter.all false
set_option maxRecDepth 100000
set_option maxHeartbeats 4000000
set_option autoImplicit false
namespace Mn
open PySem PySem.Spec PyProof.Rows L2 GenW
/-! a generator is woken: by single runs -/
theorem get_new {h : Heap} {n : Nat} (hn : h.objs.size ≤ n) : h.get? n = none := by
  cases e : h.get? n with
  | none => rfl
  | some o => exact absurd (Heap.lt_size e) (Nat.not_lt.mpr hn)
/-- what it does when it is woken -/
def Wok (M : Model) (A : Around) (Ph : End → Shared → Prop) (gs : GenState) (s : Shared) : Prop :=
  match gs with
  | .fresh c => One M A Ph c (M.den c) [] s
  | .suspended k _ c _ fs _ => One M A Ph c (k (.send .none)) fs s
  | _ => False
section
variable {M : Model} {A : Around} {Ph : End → Shared → Prop} {s : Shared}
theorem wpAny_resume1 {g : Nat} {gs : GenState} {l : List Value} {α : Type} {k : GenResult → Sem α} {Q : α → Shared → Prop} {E : Value → Shared → Prop} (hg : s.gens[g]? = some gs) (hw : Wok M A Ph gs (s.setGen g .running)) (hq : ∀ e s1, Ph e s1 → e.quiet = true)
    (h : ∀ e s1, Ph e s1 → wpAny M A (k e.result) Q E (s1.setGen g e.genState)) : wpAny M A (.resume g (.send .none) l k) Q E s := by
  intro Γ p hΓ
  rw [Sem.wp_resume]
  have hB : ∀ c, (Γ.wake c p).Woken A := fun c => hΓ.wake c p
  cases gs with
  | running => exact hw.elim
  | finished => exact hw.elim
  | fresh c =>
    obtain ⟨e, s1, r, z⟩ := hw (Γ.wake c p) p rfl (hB c)
    exact ⟨_, _, by unfold Wakes; rw [hg]; exact ⟨e, s1, r, hq e s1 z, rfl, rfl⟩, h e s1 z Γ p hΓ⟩
  | suspended k0 l0 c0 p0 fs0 cl =>
    obtain ⟨e, s1, r, z⟩ := hw (Γ.wake c0 p) p0 rfl (hB c0)
    exact ⟨_, _, by unfold Wakes; rw [hg]; exact ⟨e, s1, r, hq e s1 z, rfl, rfl⟩, h e s1 z Γ p hΓ⟩
end
section
variable {P : Program} {w : World} {A : Around} {E : Value → Shared → Prop} {s : Shared} {Ph : End → Shared → Prop}
/-- its __next__: an item, or the exception that ends it -/
theorem special_gen1 {a : Addr} {g : Nat} {gs : GenState} {Q : Option Value → Shared → Prop} (hh : A.handled = none) (hl : s.heap.NoLimit) (hroom : A.depth < recursionLimit) (hg : s.heap.IsGen a g) (hgs : s.gens[g]? = some gs)
    (hw : Wok (model P w) A.in1 Ph gs (s.setGen g .running)) (hp : ∀ e s1, Ph e s1 → e.quiet = true ∧ ((∃ v, e.result = .yielded v ∧ Q (some v) (s1.setGen g e.genState)) ∨
      (e.result = .returned .none ∧ ∀ x h', (∀ b o, s1.heap.get? b = some o → h'.get? b = some o) → (∃ o, h'.get? x = some o ∧ o.cls = .type "StopIteration") → s1.heap.get? x = none → E (.ref x) { s1.setGen g .finished with heap := h' }))) :
    wpAny (model P w) A (callSpecial? (.ref a) "__next__") Q E s := by
  refine wpAny_callSpecial?_slot (name := Str.ofString "__next__") hg.typeIs slot_gen_next (wpAny_call_entry slot_gen_next hg.typeIs entry_gen_next ?_ (args_gen_next _))
  show wpAny _ A.in1 (Builtin.Generator.genWake (.ref a) (.send .none)) _ _ s
  unfold Builtin.Generator.genWake
  refine wpAny_bind (wpAny_holding (wpAny_genNumber hg (wpAny_bind (wpAny_genState hgs ?_))))
  cases gs with
  | running => exact hw.elim
  | finished => exact hw.elim
  | _ =>
    refine wpAny_bind (wpAny_roomToWake hl hroom ?_)
    refine wpAny_resume1 hgs hw (fun e s1 z => (hp e s1 z).1) fun e s1 z => ?_
    obtain ⟨hq, ⟨v, ev, q⟩ | ⟨er, q⟩⟩ := hp e s1 z
    · rw [ev]
      exact wpAny_pure ⟨v, rfl, q⟩
    · rw [er]
      have eg : e.genState = .finished := by
        cases e with
        | ret r => rfl
        | susp v g l k c p fs => cases er
      rw [eg]
      show wpAny _ A.in1 (newExc (.type "StopIteration") [] >>= _) _ _ _
      refine wpAny_bind ?_
      simp only [newExc, newTuple]
      refine wpAny_bind (wpAny_newObj_type ?_ (by size_fits))
      refine wpAny_bind (m := firstArgMember _ _) (wpAny_of_eq (a := Value.none) (by first | rfl | (simp only [firstArgMember]; rfl)) ?_)
      refine wpAny_newObj_type ?_ (by size_fits)
      simp only [raiseNew]
      refine wpAny_bind (wpAny_bind (wpAny_handled ?_))
      first | rw [show A.in1.handled = none from hh] | rw [hh]
      refine wpAny_throw ?_
      refine q _ _ (fun b o hb => Heap.get?_push_of_some _ (Heap.get?_push_of_some _ hb)) ⟨_, Heap.get?_push_size _ rfl, rfl⟩ ?_
      exact get_new (by rw [Heap.size_push]; exact Nat.le_succ _)
end
/-! ### a comprehension over any iterator, told by its turns -/
/-- all but these two stays -/
def But2 (C D : Addr) (h h' : Heap) : Prop := ∀ b o, b ≠ C → b ≠ D → h.get? b = some o → h'.get? b = some o
theorem But2.refl {C D : Addr} {h : Heap} : But2 C D h h := fun _ _ _ _ e => e
theorem But2.of {C D b : Addr} {h h' : Heap} (hs : Heap.SameBut b h h') (hb : b = C ∨ b = D) : But2 C D h h' := fun c o h1 h2 e => hs.extBut c o (by rcases hb with rfl | rfl <;> assumption) e
section
variable {P : Program} {w : World} {A : Around} {R : Result → Shared → Prop}
theorem append1 {E : Value → Shared → Prop} {s : Shared} {D : Addr} {acc : Array Value} {c : Nat} {x : Value} {Q : Value → Shared → Prop} (hD : s.heap.get? D = some (lstObj acc c)) (hsz : acc.size < sizeLine)
    (hQ : ∀ h' c', h'.get? D = some (lstObj (acc.push x) c') → Heap.SameBut D s.heap h' → Q .none { s with heap := h' }) : wpAny (model P w) A (call (.builtin "list.append") [.ref D, x]) Q E s := by
  have hl : s.heap.IsList D acc := ⟨_, hD, rfl, c, rfl⟩
  refine wpAny_call_entry slot_list_append hl.typeIs entry_list_append ?_ (args_list_append _ _)
  show wpAny _ _ (updateSeq D (·.push x) >>= fun _ => ret .none) _ _ s
  refine wpAny_bind (wpAny_updateSeq hD rfl ?_ (Nat.le_of_lt hsz) (by show (acc.push x).size ≤ sizeLine + 1; rw [Array.size_push]; omega))
  exact wpAny_pure ⟨.none, rfl, hQ _ _ (Heap.get?_update_self _ hD rfl) (Heap.SameBut.update ..)⟩
/-- S n out s: the iterator, out handed on; B n out v s: v was handed out; F out s: it is at its end -/
theorem comp_turns {elt iter : Expr} {x : Str} {px : Pos} {scope : Scope} {pos : Pos} {it : Value} {D : Addr} {cenv : Env} (S : Nat → List Value → Shared → Prop) (B : Nat → List Value → Value → Shared → Prop) (F : List Value → Shared → Prop) (hx : cenv.kindOf x = some .local) (hkd : cenv.scope.kind = .function) (hDC : D ≠ cenv.locals)
    (hS : ∀ n out s h' t, S n out s → But2 cenv.locals D s.heap h' → S n out { s with heap := h', toks := t }) (hB : ∀ n out v s h' t, B n out v s → But2 cenv.locals D s.heap h' → B n out v { s with heap := h', toks := t }) (hz : ∀ n out v s, B n out v s → out.length < sizeLine)
    (next : ∀ n out s c m, S n out s → s.heap.get? D = some (lstObj out.toArray c) → s.heap.Ns cenv.locals m → wpAny (model P w) A (pyNext it) (fun r s1 => (∃ c, s1.heap.get? D = some (lstObj out.toArray c)) ∧ (∃ m, s1.heap.Ns cenv.locals m) ∧ match r with | none => F out s1 | some v => B n out v s1) (fun _ _ => False) s)
    (eltv : ∀ n out v s m c, B n out v s → s.heap.Ns cenv.locals m → m x = some v → s.heap.get? D = some (lstObj out.toArray c) → wpAny (model P w) A (eval elt cenv) (fun y s1 => (∃ c, s1.heap.get? D = some (lstObj out.toArray c)) ∧ (∃ m, s1.heap.Ns cenv.locals m) ∧ ∃ k, k < n ∧ S k (out ++ [y]) s1) (fun _ _ => False) s)
    (hR : ∀ out s c m, F out s → s.heap.get? D = some (lstObj out.toArray c) → s.heap.Ns cenv.locals m → R (.ok .next) s) :
    ∀ (n : Nat) (out : List Value) (s : Shared) (c : Nat) (m : Str → Option Value), S n out s → s.heap.get? D = some (lstObj out.toArray c) → s.heap.Ns cenv.locals m → codeAny (model P w) A (.compLoop (.ListComp elt [⟨.Name x px, iter, [], 0⟩] scope pos) 0 it (.ref D) cenv) R s := by
  intro n out s c m h hD hm
  refine codeAny_compLoop_list (fun n s => ∃ out c m, S n out s ∧ s.heap.get? D = some (lstObj out.toArray c) ∧ s.heap.Ns cenv.locals m) (fun n s ⟨out, c, m, h, hD, hm⟩ => ?_) n ⟨out, c, m, h, hD, hm⟩
  refine wpAny_mono (next n out s c m h hD hm) (fun r s1 ⟨⟨c1, hD1⟩, ⟨m1, hm1⟩, q⟩ => ?_) fun _ _ z => z.elim
  cases r with
  | none => exact hR out s1 c1 m1 q hD1 hm1
  | some v =>
    have q : B n out v s1 := q
    refine wpAny_assign_Name (wpAny_storeName_local hx hm1 (fun h2 hm2 hs2 => ?_) (by rw [hkd]; rfl))
    have hD2 : h2.get? D = some (lstObj out.toArray c1) := hs2.extBut _ _ hDC hD1
    refine wpAny_mono (eltv n out v { s1 with heap := h2, toks := s1.toks + 1 } _ c1 (hB n out v s1 h2 _ q (.of hs2 (.inl rfl))) hm2 (if_pos rfl) hD2) (fun y s3 ⟨⟨c3, hD3⟩, ⟨m3, hm3⟩, k, hk, q3⟩ => ?_) fun _ _ z => z.elim
    have hlen : out.length < sizeLine := hz n out v s1 q
    refine append1 hD3 (by rw [List.size_toArray]; exact hlen) fun h4 c4 hD4 hs4 => ⟨k, hk, out ++ [y], c4, m3, hS k _ s3 h4 s3.toks q3 (.of hs4 (.inr rfl)), ?_, hm3.at' fun o e => hs4.extBut _ _ (Ne.symm hDC) e⟩
    rw [List.push_toArray] at hD4
    exact hD4
end
end Mn

set_option Elab.async false
set_option linter.all false
set_option maxRecDepth 100000
set_option maxHeartbeats 4000000
set_option autoImplicit false
namespace Mn
open PySem PySem.Spec PyProof.Rows L2 GenW
variable [Tbs]
/-! a generator made, and its first run -/
/-- the context of a generator's body: nothing is raised; ex: what others turn meanwhile; pn: what they need -/
def gcx1 (P : Program) (w : World) (K : PySem.W.Frag) (mg : Str → Option Value) (base : Heap) (N : List Str) (qual : Str) (scope : Scope) (f : Addr) (cd : Value) (A : Around) (outer : List Env) (s : Shared) (H : Hp) (ex : List Addr) (pn : List (Addr × Obj)) : Cx :=
  { cxOf CX0 P w K mg base N qual scope f cd A outer s H E0 with ex := ex, pn := pn, xe := fun _ _ => False }
section
variable {P : Program} {w : World} {K : PySem.W.Frag} {mg : Str → Option Value} {base : Heap} {N : List Str} {qual : Str} {scope : Scope} {f : Addr} {cd : Value} {A : Around} {outer : List Env} {s : Shared} {H : Hp}
theorem inv_gcx1 {E : XK} {σ : L2.St} {H1 : Hp} {s1 : Shared} (I : Inv (gcxOf P w K mg base N qual scope f cd A outer s H E []) [] σ H1 s1) : Inv (gcx1 P w K mg base N qual scope f cd A outer s H [] []) [] σ H1 s1 :=
  ⟨⟨I.ok.mod, I.ok.kind, I.ok.glob, I.ok.blt, I.ok.above, I.ok.inj, I.ok.has, I.ok.cab, I.ok.hd, I.ok.frames, I.ok.stk, I.ok.exf, I.ok.bs, I.ok.bsz, I.ok.noex, I.ok.exfs, I.ok.funs, I.ok.frf⟩, I.os, I.bare, I.base, I.loc, I.cell, I.free, I.freeC, I.pin, I.hok, I.len⟩
/-- what may turn meanwhile -/
theorem inv_ex1 {ex : List Addr} {σ : L2.St} {H1 : Hp} {s1 : Shared} (I : Inv (gcx1 P w K mg base N qual scope f cd A outer s H [] []) [] σ H1 s1) (h : ∀ b ∈ ex, b ≠ s.heap.objs.size ∧ base.get? b = none ∧ b ∉ frs outer ∧ ∀ x c, (cellsFrom (s.heap.objs.size + 1) scope.names []).lookup x = some c → c ≠ b) :
    Inv (gcx1 P w K mg base N qual scope f cd A outer s H ex []) [] σ H1 s1 :=
  ⟨⟨I.ok.mod, I.ok.kind, I.ok.glob, I.ok.blt, I.ok.above, I.ok.inj, I.ok.has, I.ok.cab, I.ok.hd, I.ok.frames, I.ok.stk, fun b hb => ⟨(h b hb).1, (h b hb).2.2.2⟩, I.ok.bs, I.ok.bsz, (fun b o e hb => by have z := (h b hb).2.1; rw [show base.get? b = some o from e] at z; cases z), fun b hb => (h b hb).2.2.1, I.ok.funs, I.ok.frf⟩, I.os, I.bare,
    ⟨fun b o e n hf _ => I.base.keep b o e n hf (fun z => nomatch z), fun b o e n hf _ => I.base.slot b o e n hf (fun z => nomatch z), fun b o e n _ => I.base.free b o e n (fun z => nomatch z), fun b o e _ => I.base.there b o e (fun z => nomatch z), I.base.tups, I.base.frzs, I.base.tbls⟩, I.loc, I.cell, I.free, I.freeC, I.pin, I.hok, I.len⟩
theorem inv_pn1 {ex : List Addr} {pn : List (Addr × Obj)} {σ : L2.St} {H1 : Hp} {s1 : Shared} (I : Inv (gcx1 P w K mg base N qual scope f cd A outer s H ex []) [] σ H1 s1) (h : ∀ p ∈ pn, s1.heap.get? p.1 = some p.2 ∧ H1 p.1 = none ∧ p.1 ≠ s.heap.objs.size ∧ p.1 ∉ frs outer ∧ ∀ v, p.2.data ≠ .cell v) :
    Inv (gcx1 P w K mg base N qual scope f cd A outer s H ex pn) [] σ H1 s1 :=
  ⟨⟨I.ok.mod, I.ok.kind, I.ok.glob, I.ok.blt, I.ok.above, I.ok.inj, I.ok.has, I.ok.cab, I.ok.hd, I.ok.frames, I.ok.stk, I.ok.exf, I.ok.bs, I.ok.bsz, I.ok.noex, I.ok.exfs, I.ok.funs, I.ok.frf⟩, I.os, I.bare, I.base, I.loc, I.cell, I.free, I.freeC,
    fun p hp => h p (by rw [List.append_nil] at hp; exact hp), I.hok, I.len⟩
/-- woken: what has changed since it was made -/
theorem inv_wake {ex : List Addr} {pn : List (Addr × Obj)} {σ : L2.St} {H1 H2 : Hp} {s1 s2 : Shared} (I : Inv (gcx1 P w K mg base N qual scope f cd A outer s H [] []) [] σ H1 s1) (hex : ∀ b ∈ ex, b ≠ s.heap.objs.size ∧ base.get? b = none ∧ b ∉ frs outer ∧ ∀ x c, (cellsFrom (s.heap.objs.size + 1) scope.names []).lookup x = some c → c ≠ b)
    (os : s2.os = s1.os) (u : Un (frs outer) ex H1 H2 s1.heap s2.heap) (hF : s.heap.objs.size ∉ frs outer) (hok : HOk P w H2 s2.heap) (hb : AllBare s2.gens) (hpn : ∀ p ∈ pn, s2.heap.get? p.1 = some p.2 ∧ H2 p.1 = none ∧ p.1 ≠ s.heap.objs.size ∧ p.1 ∉ frs outer ∧ ∀ v, p.2.data ≠ .cell v) :
    Inv (gcx1 P w K mg base N qual scope f cd A outer s H ex pn) [] σ H2 s2 := by
  have I1 := inv_ex1 I hex
  have hfs : frs (envOfC qual scope s.heap.objs.size f cd :: outer) = s.heap.objs.size :: frs outer := rfl
  refine inv_pn1 (I1.call' (ch := ex) os ⟨fun b o e n hf hx => ?_, fun b o e n hf hx => ?_, u.free, u.there, u.tups, u.frzs, u.tbls⟩ hok hb fun b hb => ⟨.inl hb, (hex b hb).1, (hex b hb).2.2.2, fun p hp => nomatch hp⟩) hpn
  · exact u.keep b o e n (fun z => hf (by show b ∈ frs (envOfC qual scope s.heap.objs.size f cd :: outer); rw [hfs]; exact List.mem_cons_of_mem _ z)) hx
  · have hf' : b ∈ s.heap.objs.size :: frs outer := hf
    rcases List.mem_cons.mp hf' with z | z
    · exact ⟨o.slots, u.keep b o e n (by rw [z]; exact hF) hx⟩
    · exact u.slot b o e n z hx
end
/-- a generator that has not begun -/
def Mk1 (P : Program) (w : World) (K : PySem.W.Frag) (mg : Str → Option Value) (base : Heap) (N : List Str) (qual : Str) (scope : Scope) (f : Addr) (cd : Value) (body : List Stmt) (outer : List Env) (s : Shared) (H : Hp) (vs : List V) (u : Value) (s' : Shared) : Prop :=
  ∃ (a : Addr) (g : Nat) (go : Obj), u = .ref a ∧ s.heap.objs.size < a ∧ a < s'.heap.objs.size ∧ s'.heap.get? a = some go ∧ (∀ v, go.data ≠ .cell v) ∧ (∀ h : Heap, h.get? a = some go → h.IsGen a g) ∧ g = s.gens.size ∧ s'.gens[g]? = some (.fresh (.func body (envOfC qual scope s.heap.objs.size f cd))) ∧
    (∀ (i : Nat) (x : GenState), s.gens[i]? = some x → s'.gens[i]? = some x) ∧ s'.os = s.os ∧ AllBare s'.gens ∧ s'.heap.NoLimit ∧ (∀ b o, s.heap.get? b = some o → s'.heap.get? b = some o) ∧
    ∀ (A : Around), A.handled = none → A.frames = some outer → Inv (gcx1 P w K mg base N qual scope f cd A outer s H [] []) [] (start N vs) H s'
theorem mk1_call {P : Program} {w : World} {K : PySem.W.Frag} {mg : Str → Option Value} {base : Heap} {k : Nat} {f : Addr} {name qual : Str} {params : Arguments} {body : List Stmt} {scope : Scope} {dV kV doc pm cdv ct oc : Value} {an od : Option Addr}
    {osl : Array (Option Value)} {N ps : List Str} (lk : K.lookup f = some ⟨oc, od, .func (PySem.W.fnOf name qual params body scope dV kV doc pm an cdv ct), osl⟩) (hcd : PySem.W.codeIn K cdv qual = true) (S : GScope N ps scope)
    {A : Around} {outer : List Env} {s : Shared} {H : Hp} {args : Args} {us : List Value} {vs : List V} (hl : vs.length = ps.length) (hr : Room (k + 1) A) (e0 : Env0 P w K mg base A outer s H) (hb : BindsTo s (PySem.W.fnOf name qual params body scope dV kV doc pm an cdv ct) args (ps.zip us)) (r : Vals vs us) :
    codeAny (model P w) A (.call (.ref f) args) (fun r s' => match r with | .ok (.ret u) => Mk1 P w K mg base N qual scope f cdv body outer s H vs u s' | _ => False) s := by
  have KX : K.In s.heap := e0.mod.kin.keeps fun b o e => (e0.bs b o e).1
  have lim : s.heap.NoLimit := e0.mod.nolimit.keeps fun b o e => (e0.bs b o e).1
  have kinds : ∀ y ∈ ps.zip us, scope.names.lookup y.1 = some .local ∨ (scope.names.lookup y.1 = some .cell ∧ ((cellsFrom (s.heap.objs.size + 1) scope.names []).lookup y.1).isSome = true) := fun y hy => by
    obtain ⟨n, v⟩ := y
    exact (S.par n (List.of_mem_zip hy).1).imp (fun q => q) fun q => ⟨q, PySem.W.cellsFrom_some _ _ _ (.inl q)⟩
  refine codeAny_call_generator hr.depth (KX _ _ lk) rfl S.co S.gen rfl (PySem.W.codeRec_of KX hcd) (hb _ _ _ _ (wpAny_newFunctionEnv_cells S.kind kinds fun env he s1 x => ?_))
  subst he
  have lim1 : s1.heap.NoLimit := lim.keeps x.toInCall.keep
  refine ⟨lim1, ?_⟩
  obtain ⟨h1, tk, es1, hk1⟩ := x.done
  have os1 : s1.os = s.os := by rw [es1]
  have gen1 : s1.gens = s.gens := by rw [es1]
  have lt1 : s.heap.objs.size < s1.heap.objs.size := x.toInCall.ns.lt
  have main : ∀ (go : Obj) (nm qn : Value) (tk2 : Nat), go.cls = .type "generator" → go.data = .fields #[.int s1.gens.size 0, nm, qn] → go.slots = #[] → (∀ h : Heap, (h.push go).get? h.objs.size = some go) →
      Mk1 P w K mg base N qual scope f cdv body outer s H vs (.ref s1.heap.objs.size) { s1 with gens := s1.gens.push (.fresh (.func body (envOfC qual scope s.heap.objs.size f cdv))), toks := tk2, heap := s1.heap.push go } := by
    intro go nm qn tk2 c1 c2 c3 hgp
    have kp2 : ∀ b o, s1.heap.get? b = some o → (s1.heap.push go).get? b = some o := fun b o e => Heap.get?_push_of_some _ e
    have hb2 : AllBare (s1.gens.push (.fresh (.func body (envOfC qual scope s.heap.objs.size f cdv)))) := AllBare.push (by rw [gen1]; exact e0.bare) rfl
    refine ⟨s1.heap.objs.size, s1.gens.size, go, rfl, lt1, by show _ < (s1.heap.push _).objs.size; rw [Heap.size_push]; exact Nat.lt_succ_self _, hgp _, (fun v q => by rw [c2] at q; cases q), fun h e => ⟨go, nm, qn, e, c1, c2, c3⟩, by rw [gen1], Array.getElem?_push_size .., fun i y hi => ?_, os1, hb2, lim1.keeps kp2, fun b o e => kp2 b o (x.toInCall.keep b o e), fun Aw h1 h2 => ?_⟩
    · have hi' : i < s1.gens.size := by rw [gen1]; exact (Array.getElem?_eq_some_iff.mp hi).1
      show (s1.gens.push _)[i]? = some y
      rw [Array.getElem?_push_lt hi', ← Array.getElem?_eq_getElem, gen1]
      exact hi
    · have e0w : Env0 P w K mg base Aw outer s H := ⟨h2, e0.mod, e0.bs, e0.bsz, e0.funs, e0.frf, e0.hok, e0.bare⟩
      have I1 := inv_gcx1 (E := E0) (inv_startG (cd := cdv) (f := f) (qual := qual) S h1 e0w hl r x)
      exact I1.call' (ch := []) rfl (Un.kept kp2) (I1.hok.kept kp2) hb2 fun b z => nomatch z
  exact main _ _ _ _ rfl rfl rfl fun h => Heap.get?_push_size _ rfl
end Mn

set_option Elab.async false
set_option linter.all false
set_option maxRecDepth 100000
set_option maxHeartbeats 4000000
set_option autoImplicit false
namespace Mn
open PySem PySem.Spec PyProof.Rows L2 GenW
variable [Tbs]
/-! the first run of a generator that hands out the items of a list -/
/-- what the first wake leads to -/
def Fe (X : Cx) (Aw : Around) (G H : Hp) (m : Mu) (Qd : List D → Mu → Prop) (e : End) (s' : Shared) : Prop :=
  ∃ (s1 : Shared) (σ1 : L2.St) (G' H' : Hp) (m' : Mu) (os : List D) (vs : List V) (L it : Addr) (items : Array Value),
    Inv X [] σ1 H' s1 ∧ Stp G H m G' H' m' ∧ Rl X.kf G' H' m' ∧ H' L = some (.lst vs) ∧ RpL X.kf G' os vs ∧ Vals vs items.toList ∧ os.length ≤ sizeLine ∧ Qd os m' ∧ (∀ p ∈ X.pn, p.1 ≠ it) ∧ X.s_0.heap.objs.size ≤ it ∧ H' it = none ∧ Lp it L X.env.locals items 0 s1 ∧
      Ev (model X.prog X.w) Aw it L X.env.locals items items.size s1 e s'
theorem first_run {X : Cx} {Aw : Around} {st : Stmt} {e : Expr} {y : Str} {py p2 yp ep pos : Pos} {t0 : DS} {te : DT} {σ : L2.St} {H G : Hp} {r : Ro} {m : Mu} {s : Shared} {Qd : List D → Mu → Prop}
    (hA : Aw.deeper X.env = X.A) (hxe : ∀ e s, ¬ X.xe e s) (hd : X.A.handled = none) (hy : X.env.kindOf y = some .local) (hkd : X.env.scope.kind = .function) (hco : X.env.scope.isCoroutine = false) (hi : interactive X.env = false) (hdb : (y == ("__debug__" : Str)) = false)
    (h0 : PDS X st t0) (h1 : PD X e te) (hs : ∀ v, foldedSetIterable e X.env v = pure v) (I : Inv X [] σ H s) (rs : RpS X.kf G r σ) (rl : Rl X.kf G H m)
    (q : t0 { nx := fun r1 m1 => te r1 m1 fun o m2 => ∃ os, o = .lst os ∧ os.length ≤ sizeLine ∧ Qd os m2, rt := fun _ _ => False } r m) :
    One (model X.prog X.w) Aw (Fe X Aw G H m Qd) (.func [st, .For (.Name y py) e [.Expr (.Yield (some (.Name y p2)) yp) ep] [] pos] X.env)
      ((model X.prog X.w).den (.func [st, .For (.Name y py) e [.Expr (.Yield (some (.Name y p2)) yp) ep] [] pos] X.env)) [] s := by
  refine one_func (one_cons (one_wrap ?_))
  rw [over_func, hA]
  refine wpAny_mono (h0.run [] s σ H { nx := fun σ1 H1 => ∃ G1 r1 m1, Stp G H m G1 H1 m1 ∧ RpS X.kf G1 r1 σ1 ∧ Rl X.kf G1 H1 m1 ∧ te r1 m1 fun o m2 => ∃ os, o = .lst os ∧ os.length ≤ sizeLine ∧ Qd os m2, rt := fun _ _ => False } I
    ⟨G, r, m, _, rs, rl, q, ⟨fun s1 H1 G1 r1 m1 s2 r2 r3 q1 => ⟨G1, r1, m1, s2, r2, r3, q1⟩, fun _ _ _ _ _ _ _ _ z => z.elim, fun _ _ _ _ _ _ _ _ z => z.elim, fun _ _ _ _ _ _ _ _ z => z.elim, fun _ _ _ _ _ _ _ _ _ _ _ _ z => z.elim⟩⟩) (fun f s1 hf => ?_) fun x s1 z => absurd z (hxe x s1)
  cases f with
  | brk => obtain ⟨_, _, _, z⟩ := hf; exact z.elim
  | cont => obtain ⟨_, _, _, z⟩ := hf; exact z.elim
  | ret u => obtain ⟨_, _, _, _, _, z⟩ := hf; exact z.elim
  | next =>
    obtain ⟨σ1, H1, I1, G1, r1, m1, st1, rs1, rl1, q1⟩ := hf
    refine one_cons (one_for ?_ hs)
    rw [over_func, hA]
    refine wpAny_mono (h1.run [] s1 σ1 H1 _ I1 ⟨G1, r1, m1, _, rs1, rl1, q1, fun v H2 G2 m2 d st2 rl2 rv qd => (⟨G2, m2, d, st2, rl2, rv, qd⟩ : ∃ G2 m2 d, Stp G1 H1 m1 G2 H2 m2 ∧ Rl X.kf G2 H2 m2 ∧ Rp X.kf G2 d v ∧ ∃ os, d = .lst os ∧ os.length ≤ sizeLine ∧ Qd os m2)⟩) (fun u s2 hu => ?_) fun x s2 z => absurd z (hxe x s2)
    obtain ⟨v, H2, I2, ru, G2, m2, d, st2, rl2, rv, os, ed, hz, hq⟩ := hu
    subst ed
    cases rv with
    | @lst L ds vs gL rp z =>
      obtain rfl : u = Value.ref L := ru
      have hL : H2 L = some (.lst vs) := rl2.sub _ _ gL
      obtain ⟨zl, its, c, rits, eL⟩ := I2.hok L _ hL
      have ls : s2.heap.IsList L its.toArray := ⟨_, eL, rfl, c, rfl⟩
      refine wpAny_pyIter_list ls fun p => ?_
      have kp : ∀ b o, s2.heap.get? b = some o → (s2.heap.push { cls := .type "list_iterator", data := .fields #[.ref L, .int 0 0] }).get? b = some o := fun b o e => Heap.get?_push_of_some _ e
      have I3 := I2.kept (t' := s2.toks) kp
      have lp : Lp s2.heap.objs.size L X.env.locals its.toArray 0 { s2 with heap := s2.heap.push { cls := .type "list_iterator", data := .fields #[.ref L, .int 0 0] } } :=
        ⟨⟨_, Heap.get?_push_size _ rfl, rfl, rfl⟩, ⟨_, kp _ _ eL, rfl, c, rfl⟩, let ⟨mm, hm, _⟩ := I3.loc; ⟨mm, hm⟩⟩
      refine one_mono (one_turns (items := its.toArray) hy hkd hco hi hdb rfl ?_ (fun Ph s3 z => one_end (.ok (.ret .none)) z) its.toArray.size 0 _ _ (Nat.zero_add _) lp .refl) fun e3 s3 he => ⟨_, σ1, G2, H2, m2, os, vs, L, s2.heap.objs.size, its.toArray, I3, st1.trans st2, rl2, hL, rp, rits, hz, hq, fun p hp => Nat.ne_of_lt (Heap.lt_size (I2.pin p (List.mem_append_left _ hp)).1), I2.sz, I2.hok.fresh (Nat.le_refl _), lp, he⟩
      rw [over_loop rfl rfl, over_func, hA]
      exact hd
end Mn

set_option Elab.async false
set_option linter.all false
set_option maxRecDepth 100000
set_option maxHeartbeats 4000000
set_option autoImplicit false
namespace Mn
open PySem PySem.Spec PyProof.Rows L2 GenW
/-! generators that sleep are not touched by a run that would be stuck at them -/
section
variable {M : Model}
/-- it sleeps, and must not be woken -/
def Bad (l0 : List Value) (c0 : Code) (p0 : Pos) (f0 : List Frame) (cl : Bool) : GenState := .suspended (fun _ => .unsupported "") l0 c0 p0 f0 cl
theorem no_bad {Γ : PySem.Ctx} {p : Pos} {s s' : Shared} {e : End} : ∀ {fs : List Frame} {t : Sem PySem.Fin}, t = .unsupported "" → ¬ Runs M Γ p t fs s e s' := by
  intro fs t ht h
  induction h <;> simp_all
theorem split_app {a b : List Frame} (ha : splitAtGen a = none) (hb : splitAtGen b = none) : splitAtGen (a ++ b) = none := by
  induction a with
  | nil => exact hb
  | cons F a ih =>
    cases F with
    | gen g k l c p => cases ha
    | ret k h g l c p kp =>
      have h1 : (splitAtGen a).map (fun x => (Frame.ret k h g l c p kp :: x.1, x.2)) = none := ha
      have h2 : splitAtGen a = none := by
        cases e : splitAtGen a with
        | none => rfl
        | some x => rw [e] at h1; cases h1
      show (splitAtGen (a ++ b)).map (fun x => (Frame.ret k h g l c p kp :: x.1, x.2)) = none
      rw [ih h2]; rfl
theorem split_tail {F : Frame} {fs : List Frame} (h : splitAtGen (F :: fs) = none) : splitAtGen fs = none := by
  cases F with
  | gen g k l c p => cases h
  | ret k h1 g l c p kp =>
    have h1 : (splitAtGen fs).map (fun x => (Frame.ret k h1 g l c p kp :: x.1, x.2)) = none := h
    cases e : splitAtGen fs with
    | none => rfl
    | some x => rw [e] at h1; cases h1
/-- what sleeps at an end has no other generator's frame -/
def FineE (e : End) : Prop := ∀ v g l k c p fs, e = .susp v g l k c p fs → splitAtGen fs = none
theorem runs_fine {Γ : PySem.Ctx} {p : Pos} {t : Sem PySem.Fin} {fs : List Frame} {s s' : Shared} {e : End} (h : Runs M Γ p t fs s e s') : FineE e := by
  induction h with
  | done => intro _ _ _ _ _ _ _ z; cases z
  | raise => intro _ _ _ _ _ _ _ z; cases z
  | yield => intro _ _ _ _ _ _ _ z; cases z; rfl
  | callSusp _ ih => intro _ _ _ _ _ _ _ z; cases z; exact split_app (ih _ _ _ _ _ _ _ rfl) rfl
  | segSuspOut hn _ ih => intro _ _ _ _ _ _ _ z; cases z; exact split_app (ih _ _ _ _ _ _ _ rfl) hn
  | call _ _ _ ih => exact ih
  | resumeFresh _ _ _ _ _ ih => exact ih
  | resumeSuspended _ _ _ _ _ ih => exact ih
  | segRet _ _ _ ih => exact ih
  | segGen _ _ _ ih => exact ih
  | segSuspGen _ _ _ _ _ ih => exact ih
  | _ => assumption
/-- two tables: alike, but for some that must not be woken in the first -/
def SwG (y x : GenState) : Prop := (x = y ∧ ∀ k l c p fs cl, y = .suspended k l c p fs cl → splitAtGen fs = none) ∨ ∃ f l c p fs cl, y = Bad l c p fs cl ∧ x = .suspended f l c p fs cl
structure Sw (a b : Array GenState) : Prop where
  sz : a.size = b.size
  at_ : ∀ (i : Nat) (y x : GenState), a[i]? = some y → b[i]? = some x → SwG y x
/-- these stay as they are -/
def SwK (a a' b b' : Array GenState) : Prop := ∀ (i : Nat) (l : List Value) (c : Code) (p : Pos) (fs : List Frame) (cl : Bool), a[i]? = some (Bad l c p fs cl) → a'[i]? = a[i]? ∧ b'[i]? = b[i]?
theorem SwK.refl {a b : Array GenState} : SwK a a b b := fun _ _ _ _ _ _ _ => ⟨rfl, rfl⟩
theorem SwK.trans {a1 a2 a3 b1 b2 b3 : Array GenState} (h : SwK a1 a2 b1 b2) (k : SwK a2 a3 b2 b3) : SwK a1 a3 b1 b3 := fun i l c p fs cl e => by
  obtain ⟨h1, h2⟩ := h i l c p fs cl e
  obtain ⟨k1, k2⟩ := k i l c p fs cl (h1.trans e)
  exact ⟨k1.trans h1, k2.trans h2⟩
theorem SwG.seen {y x : GenState} (h : SwG y x) : x.seen = y.seen := by
  rcases h with ⟨rfl, _⟩ | ⟨f, l, c, p, fs, cl, rfl, rfl⟩
  · rfl
  · rfl
theorem Sw.get {a b : Array GenState} (h : Sw a b) {i : Nat} {y : GenState} (e : a[i]? = some y) : ∃ x, b[i]? = some x ∧ SwG y x := by
  have hi := (Array.getElem?_eq_some_iff.mp e).1
  have hb : i < b.size := by rw [← h.sz]; exact hi
  exact ⟨b[i], Array.getElem?_eq_getElem hb, h.at_ i y _ e (Array.getElem?_eq_getElem hb)⟩
theorem Sw.push {a b : Array GenState} (h : Sw a b) (c : Code) : Sw (a.push (.fresh c)) (b.push (.fresh c)) ∧ SwK a (a.push (.fresh c)) b (b.push (.fresh c)) := by
  refine ⟨⟨by rw [Array.size_push, Array.size_push, h.sz], fun i y x ey ex => ?_⟩, fun i l c1 p fs cl e => ?_⟩
  · rw [Array.getElem?_push] at ey ex
    rw [h.sz] at ey
    by_cases hi : i = b.size
    · rw [if_pos hi] at ey ex
      cases ey; cases ex
      exact .inl ⟨rfl, fun k l c p fs cl z => nomatch z⟩
    · rw [if_neg hi] at ey ex
      exact h.at_ i y x ey ex
  · have hi := (Array.getElem?_eq_some_iff.mp e).1
    have hb : i < b.size := by rw [← h.sz]; exact hi
    rw [Array.getElem?_push, Array.getElem?_push, if_neg (by omega), if_neg (by omega)]
    exact ⟨rfl, rfl⟩
theorem Sw.set {a b : Array GenState} (h : Sw a b) {g : Nat} {z : GenState} (hz : ∀ k l c p fs cl, z = .suspended k l c p fs cl → splitAtGen fs = none) : Sw (a.setIfInBounds g z) (b.setIfInBounds g z) := by
  refine ⟨by rw [Array.size_setIfInBounds, Array.size_setIfInBounds, h.sz], fun i y x ey ex => ?_⟩
  by_cases hi : i = g
  · subst hi
    by_cases hs : i < a.size
    · rw [Array.getElem?_setIfInBounds_self_of_lt hs] at ey
      rw [Array.getElem?_setIfInBounds_self_of_lt (by rw [← h.sz]; exact hs)] at ex
      cases ey; cases ex
      exact .inl ⟨rfl, hz⟩
    · rw [Array.getElem?_eq_none (by rw [Array.size_setIfInBounds]; omega)] at ey; cases ey
  · rw [Array.getElem?_setIfInBounds_ne (Ne.symm hi)] at ey ex
    exact h.at_ i y x ey ex
theorem SwK.set {a a1 b b1 : Array GenState} (k : SwK a a1 b b1) {g : Nat} (z : GenState) (hn : ∀ l c p fs cl, a[g]? ≠ some (Bad l c p fs cl)) : SwK a (a1.setIfInBounds g z) b (b1.setIfInBounds g z) := fun i l c1 p fs cl e => by
  have hi : i ≠ g := fun z1 => by subst z1; exact hn _ _ _ _ _ e
  rw [Array.getElem?_setIfInBounds_ne (Ne.symm hi), Array.getElem?_setIfInBounds_ne (Ne.symm hi)]
  exact k i l c1 p fs cl e
theorem Sw.fresh {a b : Array GenState} (h : Sw a b) {g : Nat} {c : Code} (e : a[g]? = some (.fresh c)) : b[g]? = some (.fresh c) ∧ ∀ l c1 p fs cl, a[g]? ≠ some (Bad l c1 p fs cl) := by
  obtain ⟨x, hx, hs⟩ := h.get e
  refine ⟨?_, fun l c1 p fs cl z => by rw [e] at z; cases z⟩
  rcases hs with ⟨rfl, _⟩ | ⟨f, l, c, p, fs, cl, z, _⟩
  · exact hx
  · cases z
theorem Sw.plain {a b : Array GenState} (h : Sw a b) {g : Nat} {y : GenState} (e : a[g]? = some y) (hy : y = .running ∨ y = .finished) : b[g]? = some y ∧ ∀ l c1 p fs cl, a[g]? ≠ some (Bad l c1 p fs cl) := by
  obtain ⟨x, hx, hs⟩ := h.get e
  refine ⟨?_, fun l c1 p fs cl z => by rw [e] at z; rcases hy with rfl | rfl <;> cases z⟩
  rcases hs with ⟨rfl, _⟩ | ⟨f, l, c, p, fs, cl, z, _⟩
  · exact hx
  · rcases hy with rfl | rfl <;> cases z
theorem fine_end {e : End} (h : FineE e) : ∀ k l c p fs cl, e.genState = .suspended k l c p fs cl → splitAtGen fs = none := fun k l c p fs cl z => by
  cases e with
  | ret r => cases z
  | susp v g l0 k0 c0 p0 fs0 => cases z; exact h _ _ _ _ _ _ _ rfl
/-- THE RULE: the same run beside what sleeps -/
theorem runs_swap {Γ : PySem.Ctx} {p : Pos} {t : Sem PySem.Fin} {fs : List Frame} {s s' : Shared} {e : End} (h : Runs M Γ p t fs s e s') : splitAtGen fs = none → ∀ b, Sw s.gens b →
    ∃ b', Runs M Γ p t fs { s with gens := b } e { s' with gens := b' } ∧ Sw s'.gens b' ∧ SwK s.gens s'.gens b b' := by
  induction h with
  | done => intro _ b hb; exact ⟨b, .done, hb, .refl⟩
  | raise => intro _ b hb; exact ⟨b, .raise, hb, .refl⟩
  | yield => intro _ b hb; exact ⟨b, .yield, hb, .refl⟩
  | again hq _ ih =>
    intro hf b hb
    obtain ⟨b1, r1, w1, k1⟩ := ih hf b hb
    exact ⟨b1, .again hq r1, w1, k1⟩
  | rule _ ih =>
    intro hf b hb
    obtain ⟨b1, r1, w1, k1⟩ := ih hf b hb
    exact ⟨b1, .rule r1, w1, k1⟩
  | «at» _ ih =>
    intro hf b hb
    obtain ⟨b1, r1, w1, k1⟩ := ih hf b hb
    exact ⟨b1, .at r1, w1, k1⟩
  | load ho _ ih =>
    intro hf b hb
    obtain ⟨b1, r1, w1, k1⟩ := ih hf b hb
    exact ⟨b1, .load ho r1, w1, k1⟩
  | update ho _ ih =>
    intro hf b hb
    obtain ⟨b1, r1, w1, k1⟩ := ih hf b hb
    exact ⟨b1, .update ho r1, w1, k1⟩
  | loadIfAlive _ ih =>
    intro hf b hb
    obtain ⟨b1, r1, w1, k1⟩ := ih hf b hb
    exact ⟨b1, .loadIfAlive r1, w1, k1⟩
  | point _ ih =>
    intro hf b hb
    obtain ⟨b1, r1, w1, k1⟩ := ih hf b hb
    exact ⟨b1, .point r1, w1, k1⟩
  | alloc _ ih =>
    intro hf b hb
    obtain ⟨b1, r1, w1, k1⟩ := ih hf b hb
    exact ⟨b1, .alloc r1, w1, k1⟩
  | fresh _ ih =>
    intro hf b hb
    obtain ⟨b1, r1, w1, k1⟩ := ih hf b hb
    exact ⟨b1, .fresh r1, w1, k1⟩
  | ask _ ih =>
    intro hf b hb
    obtain ⟨b1, r1, w1, k1⟩ := ih hf b hb
    exact ⟨b1, .ask r1, w1, k1⟩
  | choose hn _ ih =>
    intro hf b hb
    obtain ⟨b1, r1, w1, k1⟩ := ih hf b hb
    exact ⟨b1, .choose hn r1, w1, k1⟩
  | os _ ih =>
    intro hf b hb
    obtain ⟨b1, r1, w1, k1⟩ := ih hf b hb
    exact ⟨b1, .os r1, w1, k1⟩
  | handled _ ih =>
    intro hf b hb
    obtain ⟨b1, r1, w1, k1⟩ := ih hf b hb
    exact ⟨b1, .handled r1, w1, k1⟩
  | stack _ ih =>
    intro hf b hb
    obtain ⟨b1, r1, w1, k1⟩ := ih hf b hb
    exact ⟨b1, .stack r1, w1, k1⟩
  | thread _ ih =>
    intro hf b hb
    obtain ⟨b1, r1, w1, k1⟩ := ih hf b hb
    exact ⟨b1, .thread r1, w1, k1⟩
  | genState hs _ ih =>
    intro hf b hb
    obtain ⟨b1, r1, w1, k1⟩ := ih hf b hb
    obtain ⟨x, hx, hsx⟩ := hb.get hs
    rw [← hsx.seen] at r1
    exact ⟨b1, .genState hx r1, w1, k1⟩
  | newGen _ ih =>
    intro hf b hb
    obtain ⟨w2, k2⟩ := hb.push _
    obtain ⟨b1, r1, w1, k1⟩ := ih hf _ w2
    refine ⟨b1, .newGen ?_, w1, k2.trans k1⟩
    rw [hb.sz] at r1
    exact r1
  | call _ _ ih1 ih2 =>
    intro hf b hb
    obtain ⟨b1, r1, w1, k1⟩ := ih1 rfl b hb
    obtain ⟨b2, r2, w2, k2⟩ := ih2 rfl b1 w1
    exact ⟨b2, .call r1 r2, w2, k1.trans k2⟩
  | callSusp _ ih =>
    intro hf b hb
    obtain ⟨b1, r1, w1, k1⟩ := ih rfl b hb
    exact ⟨b1, .callSusp r1, w1, k1⟩
  | segRet _ _ ih1 ih2 =>
    intro hf b hb
    obtain ⟨b1, r1, w1, k1⟩ := ih1 rfl b hb
    obtain ⟨b2, r2, w2, k2⟩ := ih2 (split_tail hf) b1 w1
    exact ⟨b2, .segRet r1 r2, w2, k1.trans k2⟩
  | segGen _ _ _ _ => intro hf; cases hf
  | segSuspOut hn _ ih =>
    intro hf b hb
    obtain ⟨b1, r1, w1, k1⟩ := ih rfl b hb
    exact ⟨b1, .segSuspOut hn r1, w1, k1⟩
  | segSuspGen hsp _ _ _ _ _ => intro hf; rw [hsp] at hf; cases hf
  | resumeRunning hs _ ih =>
    intro hf b hb
    obtain ⟨b1, r1, w1, k1⟩ := ih hf b hb
    exact ⟨b1, .resumeRunning (hb.plain hs (.inl rfl)).1 r1, w1, k1⟩
  | resumeFinished hs _ ih =>
    intro hf b hb
    obtain ⟨b1, r1, w1, k1⟩ := ih hf b hb
    exact ⟨b1, .resumeFinished (hb.plain hs (.inr rfl)).1 r1, w1, k1⟩
  | resumeJustStarted hs hv _ ih =>
    intro hf b hb
    obtain ⟨b1, r1, w1, k1⟩ := ih hf b hb
    exact ⟨b1, .resumeJustStarted (hb.fresh hs).1 hv r1, w1, k1⟩
  | resumeThrowFresh hs _ ih =>
    intro hf b hb
    obtain ⟨x1, x2⟩ := hb.fresh hs
    obtain ⟨b1, r1, w1, k1⟩ := ih hf _ (hb.set (z := .finished) fun _ _ _ _ _ _ z => nomatch z)
    exact ⟨b1, .resumeThrowFresh x1 r1, w1, (SwK.refl.set _ x2).trans k1⟩
  | resumeFresh hs hr hq _ ih1 ih2 =>
    intro hf b hb
    obtain ⟨x1, x2⟩ := hb.fresh hs
    obtain ⟨b1, r1, w1, k1⟩ := ih1 rfl _ (hb.set (z := .running) fun _ _ _ _ _ _ z => nomatch z)
    obtain ⟨b2, r2, w4, k4⟩ := ih2 hf _ (w1.set (fine_end (runs_fine hr)))
    exact ⟨b2, .resumeFresh x1 r1 hq r2, w4, ((((SwK.refl.set _ x2).trans k1)).set _ x2).trans k4⟩
  | @resumeSuspended Γ p g r l k s k0 l0 c0 p0 fs cl e1 s1 e s' hs hr hq _ ih1 ih2 =>
    intro hf b hb
    obtain ⟨x, hx, hsx⟩ := hb.get hs
    rcases hsx with ⟨ex, hfine⟩ | ⟨f, l1, c1, p1, fs1, cl1, ey, _⟩
    · subst ex
      have x2 : ∀ l c p fs cl, s.gens[g]? ≠ some (Bad l c p fs cl) := fun l c p fs cl z => by
        rw [hs] at z
        cases z
        exact no_bad rfl hr
      obtain ⟨b1, r1, w1, k1⟩ := ih1 (hfine _ _ _ _ _ _ rfl) _ (hb.set (z := .running) fun _ _ _ _ _ _ z => nomatch z)
      obtain ⟨b2, r2, w4, k4⟩ := ih2 hf _ (w1.set (fine_end (runs_fine hr)))
      exact ⟨b2, .resumeSuspended hx r1 hq r2, w4, ((((SwK.refl.set _ x2).trans k1)).set _ x2).trans k4⟩
    · cases ey
      exact absurd hr (no_bad rfl)
/-! ### the rule over single runs -/
/-- all that sleeps must not be woken -/
def mute1 : GenState → GenState
  | .suspended _ l c p fs cl => Bad l c p fs cl
  | x => x
theorem sw_mute (b : Array GenState) : Sw (b.map mute1) b := ⟨Array.size_map, fun i y x ey ex => by
  rw [Array.getElem?_map, ex] at ey
  cases ey
  cases x with
  | suspended k l c p fs cl => exact .inr ⟨k, l, c, p, fs, cl, rfl, rfl⟩
  | fresh c => exact .inl ⟨rfl, fun _ _ _ _ _ _ z => nomatch z⟩
  | running => exact .inl ⟨rfl, fun _ _ _ _ _ _ z => nomatch z⟩
  | finished => exact .inl ⟨rfl, fun _ _ _ _ _ _ z => nomatch z⟩⟩
theorem bare_mute {b : Array GenState} (h : AllBare b) : AllBare (b.map mute1) := fun y hy => by
  obtain ⟨x, hx, rfl⟩ := Array.mem_map.mp hy
  have h1 := h x hx
  cases x <;> exact h1
theorem Sw.bare {a b : Array GenState} (w : Sw a b) (h : AllBare a) : AllBare b := fun x hx => by
  obtain ⟨i, hi, rfl⟩ := Array.mem_iff_getElem.mp hx
  have ha : i < a.size := by rw [w.sz]; exact hi
  have h1 := h a[i] (Array.getElem_mem ha)
  rcases w.at_ i _ _ (Array.getElem?_eq_getElem ha) (Array.getElem?_eq_getElem hi) with ⟨e, _⟩ | ⟨f, l, c, p, fs, cl, e1, e2⟩
  · rw [e]; exact h1
  · rw [e1] at h1; rw [e2]; exact h1
/-- what sleeps stays as it is -/
def Asl (s s' : Shared) : Prop := ∀ (i : Nat) (f : Resume → Sem PySem.Fin) (l : List Value) (c : Code) (p : Pos) (fs : List Frame) (cl : Bool), s.gens[i]? = some (.suspended f l c p fs cl) → s'.gens[i]? = s.gens[i]?
theorem one_asleep {A : Around} {Ph : End → Shared → Prop} {c : Code} {t : Sem PySem.Fin} {s : Shared} (h : One M A Ph c t [] { s with gens := s.gens.map mute1 }) : One M A (fun e s' => s.gens.size ≤ s'.gens.size ∧ Asl s s' ∧ ∃ ga, Ph e { s' with gens := ga } ∧ (AllBare ga → AllBare s'.gens)) c t [] s := by
  intro Γ p e w
  obtain ⟨e1, s1, r, q⟩ := h Γ p e w
  obtain ⟨b', r', w', k'⟩ := runs_swap r rfl s.gens (sw_mute s.gens)
  have r2 : Runs M Γ p t [] s e1 { s1 with gens := b' } := r'
  refine ⟨e1, { s1 with gens := b' }, r2, runs_gsz r2, fun i f l c p fs cl hi => ?_, s1.gens, q, fun hb => w'.bare hb⟩
  exact (k' i l c p fs cl (by rw [Array.getElem?_map, hi]; rfl)).2
end
end Mn

set_option Elab.async false
set_option linter.all false
set_option maxRecDepth 100000
set_option maxHeartbeats 4000000
set_option autoImplicit false
namespace Mn
open PySem PySem.Spec PyProof.Rows L2 GenW
variable [Tbs]
/-! a generator def's promise, for any consumer -/
/-- asleep, i items out -/
def Slp (M : Model) (A : Around) (g : Nat) (it L F : Addr) (items : Array Value) (i : Nat) (s : Shared) : Prop :=
  Lp it L F items i s ∧ ∃ k l c p fs, s.gens[g]? = some (.suspended k l c p fs false) ∧ ∀ s2, Lp it L F items i s2 → One M A (Ev M A it L F items (items.size - i) s2) c (k (.send .none)) fs s2
/-- behind the first run: what is known -/
structure Fo (P : Program) (w : World) (K : PySem.W.Frag) (outer : List Env) (ex : List Addr) (pn : List (Addr × Obj)) (s : Shared) (H G2 H2 : Hp) (m2 : Mu) (Qd : DK) (s2 s' : Shared) (G' H' : Hp) (m' : Mu) (os : List D) (vs : List V) (L it : Addr) (items : Array Value) : Prop where
  gsz : s2.gens.size ≤ s'.gens.size
  asl : Asl s2 s'
  bare : AllBare s'.gens
  os_ : s'.os = s.os
  un : Un (frs outer) ex H H' s.heap s'.heap
  hok : HOk P w H' s'.heap
  pin : ∀ p ∈ pn, s'.heap.get? p.1 = some p.2 ∧ H' p.1 = none ∧ p.1 ≠ it
  hF : H' s.heap.objs.size = none
  st : Stp G2 H2 m2 G' H' m'
  rl : Rl ⟨K, w, Tbs.T⟩ G' H' m'
  hL : H' L = some (.lst vs)
  rp : RpL ⟨K, w, Tbs.T⟩ G' os vs
  va : Vals vs items.toList
  len : os.length ≤ sizeLine
  q : Qd (.lst os) m'
  new : s.heap.objs.size ≤ it
  hit : H' it = none
theorem un_later {fs ex : List Addr} {H H' : Hp} {h h1 h2 : Heap} (u : Un fs ex H H' h h1) (k : ∀ b o, b < h.objs.size → h1.get? b = some o → h2.get? b = some o) : Un fs ex H H' h h2 where
  keep := fun b o e n hf hx => k b o (Heap.lt_size e) (u.keep b o e n hf hx)
  slot := fun b o e n hf hx => let ⟨sl, q⟩ := u.slot b o e n hf hx; ⟨sl, k b _ (Heap.lt_size e) q⟩
  free := u.free
  there := fun b o e hx => let ⟨o', q⟩ := u.there b o e hx; ⟨o', k b o' (Heap.lt_size e) q⟩
  tups := u.tups
  frzs := u.frzs
  tbls := u.tbls
theorem hok_later {P : Program} {w : World} {H : Hp} {h h' : Heap} (x : HOk P w H h) (k : ∀ b o, H b ≠ none → h.get? b = some o → h'.get? b = some o) : HOk P w H h' := fun a o e =>
  (x a o e).stay (fun b u hb q => k b u (by
    rcases hb with z | z
    · rw [z, e]; exact fun y => nomatch y
    · rw [z]; exact fun y => nomatch y) q) (fun _ q => q) fun _ _ q => q
/-- a generator that has not begun; when it is woken, with these arguments, it runs so -/
def Md1 (P : Program) (w : World) (K : PySem.W.Frag) (base : Heap) (k : Nat) (outer : List Env) (s : Shared) (H : Hp) (vs : List V) (d : DSp) (u : Value) (s' : Shared) : Prop :=
  ∃ (a : Addr) (g : Nat) (go oF : Obj) (c : Code), u = .ref a ∧ s.heap.objs.size < a ∧ a < s'.heap.objs.size ∧ s'.heap.get? a = some go ∧ (∀ v, go.data ≠ .cell v) ∧ (∀ h : Heap, h.get? a = some go → h.IsGen a g) ∧ g = s.gens.size ∧ s'.gens[g]? = some (.fresh c) ∧
          (∀ (i : Nat) (x : GenState), s.gens[i]? = some x → s'.gens[i]? = some x) ∧ s'.os = s.os ∧ AllBare s'.gens ∧ s'.heap.NoLimit ∧ (∀ b o, s.heap.get? b = some o → s'.heap.get? b = some o) ∧ s'.heap.get? s.heap.objs.size = some oF ∧ (∀ v, oF.data ≠ .cell v) ∧
          ∀ (Aw : Around) (ex : List Addr) (pn : List (Addr × Obj)) (G2 H2 : Hp) (m2 : Mu) (ds : List D) (Qd : DK) (s2 : Shared), Room k Aw → Aw.frames = some outer → (∀ b ∈ ex, s.heap.objs.size ≠ b ∧ b < s.heap.objs.size ∧ base.get? b = none ∧ b ∉ frs outer) → s2.os = s'.os → Un (frs outer) ex H H2 s'.heap s2.heap →
            HOk P w H2 s2.heap → AllBare s2.gens → (∀ p ∈ pn, s2.heap.get? p.1 = some p.2 ∧ H2 p.1 = none ∧ p.1 ≠ s.heap.objs.size ∧ p.1 ∉ frs outer ∧ ∀ v, p.2.data ≠ .cell v) → RpL ⟨K, w, Tbs.T⟩ G2 ds vs → Rl ⟨K, w, Tbs.T⟩ G2 H2 m2 → d ds m2 Qd →
            One (model P w) Aw (fun e s' => ∃ G' H' m' os vs L it items, Fo P w K outer ex pn s H G2 H2 m2 (fun o m4 => ∃ m3 : Mu, (∀ a u, m3 a = some u → m4 a = some u) ∧ Qd o m3) s2 s' G' H' m' os vs L it items ∧
              ((items.size = 0 ∧ e = .ret (.ok (.ret .none))) ∨ ∃ v k l c p fs, items[0]? = some v ∧ e = .susp v false l k c p fs ∧ fs.any Frame.guarded = false ∧ Lp it L s.heap.objs.size items 1 s' ∧
                ∀ s3, Lp it L s.heap.objs.size items 1 s3 → One (model P w) Aw (Ev (model P w) Aw it L s.heap.objs.size items (items.size - 1) s3) c (k (.send .none)) fs s3)) c ((model P w).den c) [] s2
/-- a call of the def gives such a one -/
structure GF1 (P : Program) (w : World) (K : PySem.W.Frag) (mg : Str → Option Value) (base : Heap) (k : Nat) (f : Addr) (fd : FuncData) (ps : List Str) (d : DSp) : Prop where
  len : ∀ ds m Q, d ds m Q → ds.length = ps.length
  run : ∀ (A : Around) (outer : List Env) (s : Shared) (H : Hp) (args : Args) (us : List Value) (vs : List V), vs.length = ps.length → Room k A → Env0 P w K mg base A outer s H → BindsTo s fd args (ps.zip us) → Vals vs us →
    codeAny (model P w) A (.call (.ref f) args) (fun r s' => match r with
      | .ok (.ret u) => Md1 P w K base k outer s H vs d u s'
      | _ => False) s
def CG1 (P : Program) (w : World) (K : PySem.W.Frag) (mg : Str → Option Value) (base : Heap) (x : Str) (k : Nat) (ps : List Str) (d : DSp) : Prop :=
  ∃ f fd, mg x = some (.ref f) ∧ PySem.W.keepIn K (.ref f) = true ∧ Binds K fd ps [] ∧ GF1 P w K mg base k f fd ps d
/-- what its body is to show -/
def GBodyL (n : Nat) (t0 : DS) (te : DT) (d : DSp) : Prop := ∀ ds m Q, d ds m Q → t0 { nx := fun r1 m1 => te r1 m1 fun o m2 => ∃ os, o = .lst os ∧ os.length ≤ sizeLine ∧ ∃ m3 : Mu, (∀ a u, m3 a = some u → m2 a = some u) ∧ Q (.lst os) m3, rt := fun _ _ => False } (startD n ds) m
theorem gnC1 {P : Program} {w : World} {K : PySem.W.Frag} {mg : Str → Option Value} {base : Heap} {x : Str} {st s0 : Stmt} {y : Str} {e : Expr} {py p2 yp ep pos : Pos} {N ps : List Str} {k : Nat} {t0 : DS} {te : DT} {d : DSp} (h : ∃ f fd, Df K mg x st ps f fd)
    (S : GScope N ps (defScope st)) (hcell : ∀ y ∈ (defScope st).names, y.2 ≠ .cell) (hy : (defScope st).names.lookup y = some .local) (hdb : (y == ("__debug__" : Str)) = false) (hbd : defBody st = [s0, .For (.Name y py) e [.Expr (.Yield (some (.Name y p2)) yp) ep] [] pos]) (hl : ∀ ds m Q, d ds m Q → ds.length = ps.length) (hb : GBodyL N.length t0 te d)
    (der : ∀ (f : Addr) (cdv : Value) (A : Around) (outer : List Env) (s : Shared) (H : Hp) (ex : List Addr) (pn : List (Addr × Obj)), Room k (A.deeper (envOfC x (defScope st) s.heap.objs.size f cdv)) →
      PDS (gcx1 P w K mg base N x (defScope st) f cdv A outer s H ex pn) s0 t0 ∧ PD (gcx1 P w K mg base N x (defScope st) f cdv A outer s H ex pn) e te ∧
      (∀ v, foldedSetIterable e (gcx1 P w K mg base N x (defScope st) f cdv A outer s H ex pn).env v = pure v) ∧ interactive (gcx1 P w K mg base N x (defScope st) f cdv A outer s H ex pn).env = false) :
    CG1 P w K mg base x (k + 1) ps d := by
  obtain ⟨f, fd, Dd⟩ := h
  refine ⟨f, fd, Dd.g, Dd.F.kp, Dd.b, hl, fun A outer s H args us vs hlv hr e0 bd rv => ?_⟩
  obtain ⟨oc, od, kV, doc, pm, an, cdv, ct, osl, rfl, lk, hcd⟩ := Dd.F.ex
  refine codeAny_mono (mk1_call lk hcd S hlv hr e0 bd rv) fun r s' hq => ?_
  cases r with
  | error e => exact hq
  | ok fl =>
    cases fl with
    | next => exact hq
    | brk => exact hq
    | cont => exact hq
    | ret u =>
      obtain ⟨a, g, go, rfl, h1, h2, h3, h4, h5, h6, h7, h8, h9, h10, h11, h12, hI⟩ := hq
      obtain ⟨m0, ⟨oF, es, ep0, hoF, hdF, hrF⟩, _⟩ := (hI A hr.hd e0.frames).loc
      have hoF : s'.heap.get? s.heap.objs.size = some oF := hoF
      refine ⟨a, g, go, oF, _, rfl, h1, h2, h3, h4, h5, h6, h7, h8, h9, h10, h11, h12, hoF, (fun v z => by rw [hdF] at z; cases z), fun Aw ex pn G2 H2 m2 ds Qd s2 hrw hfr hex os2 un2 hok2 hb2 hpn rp rl q => ?_⟩
      have hFn : s.heap.objs.size ∉ frs outer := fun z => by
        obtain ⟨_, o1, e1, _⟩ := e0.funs.mem z
        exact absurd (Heap.lt_size e1) (Nat.lt_irrefl _)
      have I2 : Inv (gcx1 P w K mg base N x (defScope st) f cdv Aw outer s H ex pn) [] (L2.start N vs) H2 { s2 with gens := s2.gens.map mute1 } :=
        inv_wake (hI Aw hrw.hd hfr) (fun b hb => ⟨Ne.symm (hex b hb).1, (hex b hb).2.2.1, (hex b hb).2.2.2, fun y c hy z => absurd ((hI A hr.hd e0.frames).ok.cab y c rfl hy) (by rw [z]; exact Nat.not_le.mpr (hex b hb).2.1)⟩) os2 un2 hFn hok2 (bare_mute hb2) hpn
      obtain ⟨a1, a2, a3, a4⟩ := der f cdv Aw outer s H ex pn (hrw.deeper _)
      have R1 := first_run (X := gcx1 P w K mg base N x (defScope st) f cdv Aw outer s H ex pn) (Aw := Aw) (y := y) (py := py) (p2 := p2) (yp := yp) (ep := ep) (pos := pos) rfl (fun _ _ z => z) (hrw.deeper (envOfC x (defScope st) s.heap.objs.size f cdv)).hd hy S.kind S.co a4 hdb a1 a2 a3 I2 (rps_start rp) rl (hb ds m2 Qd q)
      rw [hbd]
      refine one_mono (one_asleep R1) fun e1 s3 ⟨gz, sl, ga, ⟨s1, σ1, G', H', m', os, vs', L, it, items, I1, st1, rl1, hL, rp1, va, len, qd, hpi, new, hit, lp, ev⟩, hba⟩ => ?_
      have key : Mv it s.heap.objs.size s1 { s3 with gens := ga } → ∃ G' H' m' os vs L it items, Fo P w K outer ex pn s H G2 H2 m2 (fun o m4 => ∃ m3 : Mu, (∀ a u, m3 a = some u → m4 a = some u) ∧ Qd o m3) s2 s3 G' H' m' os vs L it items ∧
              ((items.size = 0 ∧ e1 = .ret (.ok (.ret .none))) ∨ ∃ v k l c p fs, items[0]? = some v ∧ e1 = .susp v false l k c p fs ∧ fs.any Frame.guarded = false ∧ Lp it L s.heap.objs.size items 1 s3 ∧
                ∀ s3, Lp it L s.heap.objs.size items 1 s3 → One (model P w) Aw (Ev (model P w) Aw it L s.heap.objs.size items (items.size - 1) s3) c (k (.send .none)) fs s3) := fun mv => by
        have ne1 : ∀ b, b < s.heap.objs.size → b ≠ it ∧ b ≠ s.heap.objs.size := fun b hb => ⟨fun z => by rw [z] at hb; exact absurd (Nat.lt_of_lt_of_le hb new) (Nat.lt_irrefl _), Nat.ne_of_lt hb⟩
        refine ⟨G', H', m', os, vs', L, it, items, ⟨gz, sl, hba (by rw [show ga = s1.gens from mv.gens]; exact I1.bare), mv.os.trans I1.os, un_later I1.base fun b o hb e => mv.keep b o (ne1 b hb).1 (ne1 b hb).2 e, hok_later I1.hok fun b o hb e => mv.keep b o (fun z => hb (by rw [z]; exact hit)) (fun z => hb (by rw [z]; exact I1.free)) e,
          fun p hp => ?_, I1.free, st1, rl1, hL, rp1, va, len, qd, new, hit⟩, ?_⟩
        · obtain ⟨p1, p2, p3, _⟩ := I1.pin p (List.mem_append_left _ hp)
          exact ⟨mv.keep p.1 p.2 (hpi p hp) p3 p1, p2, hpi p hp⟩
        · by_cases hz : items.size = 0
          · rw [hz] at ev
            exact .inl ⟨hz, ev.2⟩
          · obtain ⟨r, er⟩ : ∃ r, items.size = r + 1 := ⟨items.size - 1, by omega⟩
            rw [er] at ev
            obtain ⟨_, v, k1, l1, c1, p1, fs1, e1, e2, e3, e4, e5⟩ := ev
            rw [show items.size - (r + 1) = 0 by omega] at e1
            rw [show items.size - r = 1 by omega] at e4 e5
            refine .inr ⟨v, k1, l1, c1, p1, fs1, e1, e2, e3, ⟨e4.it, e4.ls, e4.ns⟩, ?_⟩
            rw [show items.size - 1 = r by omega]
            exact e5
      by_cases hz : items.size = 0
      · rw [hz] at ev
        exact key ev.1
      · obtain ⟨r, er⟩ : ∃ r, items.size = r + 1 := ⟨items.size - 1, by omega⟩
        rw [er] at ev
        exact key ev.1
end Mn

set_option Elab.async false
set_option linter.all false
set_option maxRecDepth 100000
set_option maxHeartbeats 4000000
set_option autoImplicit false
namespace Mn
open PySem PySem.Spec PyProof.Rows L2 GenW
variable [Tbs]
/-! the turns of a generator, for a consumer -/
theorem setG_get {s : Shared} {g i : Nat} {x : GenState} (h : i ≠ g) : (s.setGen g x).gens[i]? = s.gens[i]? := by
  show (s.gens.setIfInBounds g x)[i]? = _
  rw [Array.getElem?_setIfInBounds_ne (Ne.symm h)]
structure Mg (it F : Addr) (g : Nat) (s s' : Shared) : Prop where
  os_ : s'.os = s.os
  keep : ∀ b o, b ≠ it → b ≠ F → s.heap.get? b = some o → s'.heap.get? b = some o
  gens : ∀ j, j ≠ g → s'.gens[j]? = s.gens[j]?
  bare : AllBare s.gens → AllBare s'.gens
theorem Slp.over {M : Model} {A : Around} {g : Nat} {it L F : Addr} {items : Array Value} {i : Nat} {s s' : Shared} (h : Slp M A g it L F items i s) (hk : ∀ b o, b = it ∨ b = L ∨ b = F → s.heap.get? b = some o → s'.heap.get? b = some o) (hg : s'.gens[g]? = s.gens[g]?) : Slp M A g it L F items i s' := by
  obtain ⟨lp, k, l, c, p, fs, e, q⟩ := h
  obtain ⟨m, hm⟩ := lp.ns
  exact ⟨⟨lp.it.at fun o e => hk _ o (.inl rfl) e, lp.ls.at fun o e => hk _ o (.inr (.inl rfl)) e, m, hm.at' fun o e => hk _ o (.inr (.inr rfl)) e⟩, k, l, c, p, fs, hg.trans e, q⟩
section
variable {P : Program} {w : World} {A : Around} {E : Value → Shared → Prop} {s : Shared}
theorem slp_special {a : Addr} {g : Nat} {it L F : Addr} {items : Array Value} {i : Nat} {Q : Option Value → Shared → Prop} (hh : A.handled = none) (hl : s.heap.NoLimit) (hroom : A.depth < recursionLimit) (hg : s.heap.IsGen a g) (hi : i ≤ items.size) (hs : Slp (model P w) A.in1 g it L F items i s)
    (hQ : ∀ v s', items[i]? = some v → Slp (model P w) A.in1 g it L F items (i + 1) s' → Mg it F g s s' → Q (some v) s')
    (hE : ∀ x s', i = items.size → (∃ o, s'.heap.get? x = some o ∧ o.cls = .type "StopIteration") → Mg it F g s s' → E (.ref x) s') : wpAny (model P w) A (callSpecial? (.ref a) "__next__") Q E s := by
  obtain ⟨lp, k, l, c, p, fs, eg, hw⟩ := hs
  have hgl : g < s.gens.size := (Array.getElem?_eq_some_iff.mp eg).1
  have lp' : Lp it L F items i (s.setGen g .running) := ⟨lp.it, lp.ls, lp.ns⟩
  refine special_gen1 (Ph := Ev (model P w) A.in1 it L F items (items.size - i) (s.setGen g .running)) hh hl hroom hg eg (hw _ lp') fun e s1 z => ?_
  have mg : ∀ {x : GenState} {h' : Heap}, x.bare = true → Mv it F (s.setGen g .running) s1 → (∀ b o, s1.heap.get? b = some o → h'.get? b = some o) → Mg it F g s { s1.setGen g x with heap := h' } := fun {x h'} hx mv hk =>
    ⟨mv.os, fun b o b1 b2 e => hk b o (mv.keep b o b1 b2 e), fun j hj => by
      show (s1.gens.setIfInBounds g x)[j]? = _
      rw [Array.getElem?_setIfInBounds_ne (Ne.symm hj), show s1.gens = (s.setGen g .running).gens from mv.gens]
      exact setG_get hj, fun hb => allBare_setGen (s := s1) (by rw [show s1.gens = (s.setGen g .running).gens from mv.gens]; exact allBare_setGen hb rfl) hx⟩
  by_cases hi2 : i = items.size
  · rw [hi2, Nat.sub_self] at z
    obtain ⟨mv, rfl⟩ := z
    exact ⟨rfl, .inr ⟨rfl, fun x h' hk hx _ => hE x _ hi2 hx (mg rfl mv hk)⟩⟩
  · obtain ⟨r, er⟩ : ∃ r, items.size - i = r + 1 := ⟨items.size - i - 1, by omega⟩
    rw [er] at z
    obtain ⟨mv, v, k1, l1, c1, p1, fs1, e1, rfl, e3, e4, e5⟩ := z
    rw [show items.size - (r + 1) = i by omega] at e1
    rw [show items.size - r = i + 1 by omega] at e4 e5
    have eb : (End.susp v false l1 k1 c1 p1 fs1).genState = .suspended k1 l1 c1 p1 fs1 false := by
      show GenState.suspended k1 l1 c1 p1 fs1 (false || fs1.any Frame.guarded) = _
      rw [e3]; rfl
    refine ⟨by show (!(false || fs1.any Frame.guarded)) = true; rw [e3]; rfl, .inl ⟨v, rfl, hQ v _ e1 ?_ ?_⟩⟩
    · rw [eb]
      refine ⟨⟨e4.it, e4.ls, e4.ns⟩, k1, l1, c1, p1, fs1, ?_, fun s2 h2 => ?_⟩
      · refine setGen_at ?_
        rw [show s1.gens = (s.setGen g .running).gens from mv.gens, setGen_size]
        exact hgl
      · rw [show items.size - (i + 1) = r by omega]
        exact e5 s2 h2
    · rw [eb]
      exact mg rfl mv fun _ _ e => e
/-- the first wake -/
theorem wake_special {a : Addr} {g : Nat} {c : Code} {Q : Option Value → Shared → Prop} {K : PySem.W.Frag} {outer : List Env} {ex : List Addr} {pn : List (Addr × Obj)} {sc : Shared} {H G2 H2 : Hp} {m2 : Mu} {Qd : DK} (hh : A.handled = none) (hl : s.heap.NoLimit) (hroom : A.depth < recursionLimit) (hg : s.heap.IsGen a g) (eg : s.gens[g]? = some (.fresh c))
    (hw : One (model P w) A.in1 (fun e s' => ∃ G' H' m' os vs L it items, Fo P w K outer ex pn sc H G2 H2 m2 Qd (s.setGen g .running) s' G' H' m' os vs L it items ∧
              ((items.size = 0 ∧ e = .ret (.ok (.ret .none))) ∨ ∃ v k l c p fs, items[0]? = some v ∧ e = .susp v false l k c p fs ∧ fs.any Frame.guarded = false ∧ Lp it L sc.heap.objs.size items 1 s' ∧
                ∀ s3, Lp it L sc.heap.objs.size items 1 s3 → One (model P w) A.in1 (Ev (model P w) A.in1 it L sc.heap.objs.size items (items.size - 1) s3) c (k (.send .none)) fs s3)) c ((model P w).den c) [] (s.setGen g .running))
    (hQ : ∀ v s' G' H' m' os vs L it items, Fo P w K outer ex pn sc H G2 H2 m2 Qd (s.setGen g .running) s' G' H' m' os vs L it items → items[0]? = some v → Slp (model P w) A.in1 g it L sc.heap.objs.size items 1 s' → Q (some v) s')
    (hE : ∀ x s' G' H' m' os vs L it items, items.size = 0 → (∃ o, s'.heap.get? x = some o ∧ o.cls = .type "StopIteration") → Fo P w K outer ex pn sc H G2 H2 m2 Qd (s.setGen g .running) s' G' H' m' os vs L it items → E (.ref x) s') : wpAny (model P w) A (callSpecial? (.ref a) "__next__") Q E s := by
  have hgl : g < s.gens.size := (Array.getElem?_eq_some_iff.mp eg).1
  refine special_gen1 hh hl hroom hg eg hw fun e s1 ⟨G', H', m', os, vs, L, it, items, fo, z⟩ => ?_
  have hg1 : g < s1.gens.size := Nat.lt_of_lt_of_le (by rw [setGen_size]; exact hgl) fo.gsz
  have fo2 : ∀ {x : GenState} {h' : Heap}, x.bare = true → (∀ b o, s1.heap.get? b = some o → h'.get? b = some o) → Fo P w K outer ex pn sc H G2 H2 m2 Qd (s.setGen g .running) { s1.setGen g x with heap := h' } G' H' m' os vs L it items := fun {x h'} hx hk =>
    ⟨Nat.le_trans fo.gsz (Nat.le_of_eq (setGen_size s1 g x).symm), fun j f l c p fs cl hj => by
      have hjg : j ≠ g := fun e => by
        subst e
        rw [setGen_at hgl] at hj
        cases hj
      exact (setG_get hjg).trans (fo.asl j f l c p fs cl hj), allBare_setGen fo.bare hx, fo.os_, un_later fo.un fun b o _ e => hk b o e, fo.hok.kept hk, fun p hp => ⟨hk _ _ (fo.pin p hp).1, (fo.pin p hp).2⟩, fo.hF, fo.st, fo.rl, fo.hL, fo.rp, fo.va, fo.len, fo.q, fo.new, fo.hit⟩
  rcases z with ⟨hz, rfl⟩ | ⟨v, k1, l1, c1, p1, fs1, e1, rfl, e3, e4, e5⟩
  · exact ⟨rfl, .inr ⟨rfl, fun x h' hk hx _ => hE x _ G' H' m' os vs L it items hz hx (fo2 rfl hk)⟩⟩
  · have eb : (End.susp v false l1 k1 c1 p1 fs1).genState = .suspended k1 l1 c1 p1 fs1 false := by
      show GenState.suspended k1 l1 c1 p1 fs1 (false || fs1.any Frame.guarded) = _
      rw [e3]; rfl
    refine ⟨by show (!(false || fs1.any Frame.guarded)) = true; rw [e3]; rfl, .inl ⟨v, rfl, ?_⟩⟩
    rw [eb]
    refine hQ v _ G' H' m' os vs L it items (fo2 (h' := s1.heap) rfl fun _ _ e => e) e1 ⟨⟨e4.it, e4.ls, e4.ns⟩, k1, l1, c1, p1, fs1, setGen_at hg1, e5⟩
/-- next and zip's step, from the turn -/
theorem next_of_special {a : Addr} {Q : Option Value → Shared → Prop} (h : wpAny (model P w) A (callSpecial? (.ref a) "__next__") (fun r s' => ∃ v, r = some v ∧ Q (some v) s') (fun e s' => ∃ x, e = .ref x ∧ (∃ o, s'.heap.get? x = some o ∧ o.cls = .type "StopIteration") ∧ Q none s') s) : wpAny (model P w) A (pyNext (.ref a)) Q E s := by
  unfold pyNext
  refine wpAny_bind (wpAny_attempt (wpAny_mono h (fun r s' ⟨v, e, q⟩ => ?_) fun e s' ⟨x, ex, ⟨o, ho, hc⟩, q⟩ => ?_))
  · subst e
    exact wpAny_pure q
  · subst ex
    refine wpAny_bind (wpAny_isInstance (T := "StopIteration") (b := true) ⟨o, ho, hc⟩ isSubtype_stop ?_)
    exact wpAny_pure q
theorem nextOf_of_special {a : Addr} {Q : Value → Shared → Prop} (h : wpAny (model P w) A (callSpecial? (.ref a) "__next__") (fun r s' => ∃ v, r = some v ∧ Q v s') E s) : wpAny (model P w) A (Builtin.SmallTypes.nextOf (.ref a)) Q E s := by
  unfold Builtin.SmallTypes.nextOf
  refine wpAny_bind (wpAny_mono h (fun r s' ⟨v, e, q⟩ => ?_) fun _ _ z => z)
  subst e
  exact wpAny_pure q
end
end Mn

set_option Elab.async false
set_option linter.all false
set_option maxRecDepth 100000
set_option maxHeartbeats 4000000
set_option autoImplicit false
namespace Mn
open PySem PySem.Spec PyProof.Rows L2 GenW
variable [Tbs]
/-! [x for x in g(..)] -/
section
variable {prog : Program} {w : World} {A : Around} {E : Value → Shared → Prop}
/-- the block of a comprehension over an iterator that gives itself -/
theorem lc_block {elt iter : Expr} {x : Str} {px : Pos} {scope : Scope} {pos : Pos} {it : Value} {env : Env} {s2 : Shared} {RR : Value → Addr → Result → Shared → Prop} (hcell : ∀ y ∈ scope.names, y.2 ≠ .cell) (hkd : scope.kind = .function) (hself : ∀ (s : Shared) (Q : Value → Shared → Prop) (E : Value → Shared → Prop), (∀ b o, s2.heap.get? b = some o → s.heap.get? b = some o) → Q it s → wpAny (model prog w) A (pyIter it) Q E s)
    (h : ∀ (cenv : Env) (s3 : Shared) (m : Str → Option Value), cenv.locals = s2.heap.objs.size + 1 → cenv.scope = scope → s3.os = s2.os → s3.gens = s2.gens → (∀ b o, s2.heap.get? b = some o → s3.heap.get? b = some o) → s3.heap.get? s2.heap.objs.size = some (lstObj #[] 0) → s3.heap.Ns (s2.heap.objs.size + 1) m →
      codeAny (model prog w) A (.compLoop (.ListComp elt [⟨.Name x px, iter, [], 0⟩] scope pos) 0 it (.ref s2.heap.objs.size) cenv) (RR (.ref s2.heap.objs.size) (s2.heap.objs.size + 1)) s3) :
    wpAny (model prog w) A (newList []) (fun acc s3 => wpAny (model prog w) A (newFunctionEnv scope env.globals [] [] env.qual none .none (some env)) (fun cenv s4 =>
      codeAny (model prog w) A (.compStart (.ListComp elt [⟨.Name x px, iter, [], 0⟩] scope pos) 0 it acc { cenv with scope := scope }) (RR acc cenv.locals) s4) E s3) E s2 := by
  refine wpAny_newObj_type (wpAny_newFunctionEnv hcell (fun y hy => nomatch hy) (fun h1 hns hsb => ?_) hkd)
  dsimp only at hns hsb ⊢
  generalize hH : s2.heap.push { cls := .type "list", dict := none, data := .seq ([] : List Value).toArray } = H2 at hns hsb ⊢
  have hC : H2.objs.size = s2.heap.objs.size + 1 := by rw [← hH, Heap.size_push]
  have eD : H2.get? s2.heap.objs.size = some (lstObj #[] 0) := by rw [← hH]; exact Heap.get?_push_size _ rfl
  have up : ∀ b o, H2.get? b = some o → h1.get? b = some o := fun b o e => hsb.extBut b o (Nat.ne_of_lt (Heap.lt_size e)) (Heap.get?_push_of_some _ e)
  have kp : ∀ b o, s2.heap.get? b = some o → h1.get? b = some o := fun b o e => up b o (by rw [← hH]; exact Heap.get?_push_of_some _ e)
  rw [hC] at hns ⊢
  have hm := fun (cenv : Env) (e1 : cenv.locals = s2.heap.objs.size + 1) (e2 : cenv.scope = scope) => h cenv { s2 with heap := h1, toks := s2.toks + ([] : List (Str × Value)).length } _ e1 e2 rfl rfl kp (up _ _ eD) hns
  exact codeAny_compStart_list (hm _ rfl rfl) (hself _ _ _ kp (hm _ rfl rfl))
end
/-- what is known while the list is filled -/
structure FS (X : Cx) (s1 : Shared) (H1 G1 : Hp) (m1 : Mu) (a : Addr) (go : Obj) (C Dd : Addr) (Qd : DK) (G' H' : Hp) (m' : Mu) (os : List D) (vs : List V) (L it : Addr) (items : Array Value) (s : Shared) : Prop where
  os_ : s.os = s1.os
  bare : AllBare s.gens
  un : Un (frs X.stack) [] H1 H' s1.heap s.heap
  hok : HOk X.prog X.w H' s.heap
  lim : s.heap.NoLimit
  hC : H' C = none
  hD : H' Dd = none
  hF : H' s1.heap.objs.size = none
  hit : H' it = none
  iC : it ≠ C
  iD : it ≠ Dd
  ia : it ≠ a
  ga : s.heap.get? a = some go
  st : Stp G1 H1 m1 G' H' m'
  rl : Rl X.kf G' H' m'
  hL : H' L = some (.lst vs)
  rp : RpL X.kf G' os vs
  va : Vals vs items.toList
  len : os.length ≤ sizeLine
  q : ∃ m3 : Mu, (∀ a u, m3 a = some u → m' a = some u) ∧ Qd (.lst os) m3
  new : s1.heap.objs.size ≤ it
section
variable {X : Cx} {s1 : Shared} {H1 G1 : Hp} {m1 : Mu} {a : Addr} {go : Obj} {C Dd : Addr} {Qd : DK} {G' H' : Hp} {m' : Mu} {os : List D} {vs : List V} {L it : Addr} {items : Array Value} {s s' : Shared}
theorem FS.move (h : FS X s1 H1 G1 m1 a go C Dd Qd G' H' m' os vs L it items s) (hc : cStatics < s1.heap.objs.size) (nC : s1.heap.objs.size < C) (nD : s1.heap.objs.size < Dd) (na : s1.heap.objs.size < a) (aC : a ≠ C) (aD : a ≠ Dd) (ho : s'.os = s.os) (hb : AllBare s'.gens)
    (k : ∀ b o, b ≠ C → b ≠ Dd → b ≠ it → b ≠ s1.heap.objs.size → s.heap.get? b = some o → s'.heap.get? b = some o) : FS X s1 H1 G1 m1 a go C Dd Qd G' H' m' os vs L it items s' := by
  have lo : ∀ b, b < s1.heap.objs.size → b ≠ C ∧ b ≠ Dd ∧ b ≠ it ∧ b ≠ s1.heap.objs.size := fun b hb =>
    ⟨Nat.ne_of_lt (Nat.lt_trans hb nC), Nat.ne_of_lt (Nat.lt_trans hb nD), Nat.ne_of_lt (Nat.lt_of_lt_of_le hb h.new), Nat.ne_of_lt hb⟩
  refine ⟨ho.trans h.os_, hb, un_later h.un fun b o hb e => k b o (lo b hb).1 (lo b hb).2.1 (lo b hb).2.2.1 (lo b hb).2.2.2 e, hok_later h.hok fun b o hn e => k b o (fun z => hn (by rw [z]; exact h.hC)) (fun z => hn (by rw [z]; exact h.hD)) (fun z => hn (by rw [z]; exact h.hit)) (fun z => hn (by rw [z]; exact h.hF)) e,
    h.lim.at fun o e => k _ o (lo _ hc).1 (lo _ hc).2.1 (lo _ hc).2.2.1 (lo _ hc).2.2.2 e, h.hC, h.hD, h.hF, h.hit, h.iC, h.iD, h.ia, k a go aC aD (Ne.symm h.ia) (Nat.ne_of_gt na) h.ga, h.st, h.rl, h.hL, h.rp, h.va, h.len, h.q, h.new⟩
end
end Mn

set_option Elab.async false
set_option linter.all false
set_option maxRecDepth 100000
set_option maxHeartbeats 4000000
set_option autoImplicit false
namespace Mn
open PySem PySem.Spec PyProof.Rows L2 GenW
variable [Tbs]
theorem ns_obj {h : Heap} {C : Addr} {m : Str → Option Value} (n : h.Ns C m) : ∃ o : Obj, h.get? C = some o ∧ ∀ v, o.data ≠ .cell v := by
  obtain ⟨o, es, ep, e, hd, _⟩ := n
  exact ⟨o, e, fun v z => by rw [hd] at z; cases z⟩
theorem take_more {items : Array Value} {i : Nat} {v : Value} (h : items[i]? = some v) : items.toList.take i ++ [v] = items.toList.take (i + 1) := by
  rw [List.take_add_one, Array.getElem?_toList, h]; rfl
/-- the loop of [y for y in g] -/
theorem lcG1_loop {X : Cx} {k : Nat} {d : DSp} {y : Str} {p1 py pos : Pos} {iter : Expr} {scope : Scope} {s1 s2 : Shared} {H1 G1 : Hp} {m1 : Mu} {vs : List V} {ds : List D} {u : Value} {pins : List (Addr × Obj)} {σ : L2.St} {Q : VK} {Qd : DK} {EE : Value → Addr → Value → Shared → Prop} (room : Room (k + 1) X.A) (hkd : scope.kind = .function) (hy : scope.names.lookup y = some .local) (hdy : (y == ("__debug__" : Str)) = false)
    (I1 : Inv X pins σ H1 s1) (rl1 : Rl X.kf G1 H1 m1) (rp1 : RpL X.kf G1 ds vs) (q1 : d ds m1 Qd) (w : WV X.kf G1 H1 m1 Qd Q) (hM : Md1 X.prog X.w X.K X.base k X.stack s1 H1 vs d u s2) (cenv : Env) (s3 : Shared) (mm : Str → Option Value)
    (ec : cenv.locals = s2.heap.objs.size + 1) (es : cenv.scope = scope) (os3 : s3.os = s2.os) (g3 : s3.gens = s2.gens) (k3 : ∀ b o, s2.heap.get? b = some o → s3.heap.get? b = some o) (hD : s3.heap.get? s2.heap.objs.size = some (lstObj #[] 0)) (hC : s3.heap.Ns (s2.heap.objs.size + 1) mm) :
    codeAny (model X.prog X.w) X.A (.compLoop (.ListComp (.Name y p1) [⟨.Name y py, iter, [], 0⟩] scope pos) 0 u (.ref s2.heap.objs.size) cenv)
      (fun r s' => ∃ m, s'.heap.Ns (s2.heap.objs.size + 1) m ∧ ∀ h', Heap.SameBut (s2.heap.objs.size + 1) s'.heap h' → match r with | .ok _ => EP X pins σ Q (.ref s2.heap.objs.size) { s' with heap := h' } | .error x => EE (.ref s2.heap.objs.size) (s2.heap.objs.size + 1) x { s' with heap := h' }) s3 := by
  obtain ⟨a, g, go, oF, cd, rfl, a1, a2, ega, gnc, gis, eg, eg2, keepg, os2, hb2, lim2, kp2, eF, oFn, wake⟩ := hM
  have sz12 : s1.heap.objs.size < s2.heap.objs.size := Nat.lt_trans a1 a2
  have hcs : cStatics < s1.heap.objs.size := let ⟨_, hn, _⟩ := I1.nolimit; hn.lt
  have nC : s1.heap.objs.size < s2.heap.objs.size + 1 := Nat.lt_succ_of_lt sz12
  have aC : a ≠ s2.heap.objs.size + 1 := Nat.ne_of_lt (Nat.lt_succ_of_lt a2)
  have aD : a ≠ s2.heap.objs.size := Nat.ne_of_lt a2
  have CD : s2.heap.objs.size ≠ s2.heap.objs.size + 1 := Nat.ne_of_lt (Nat.lt_succ_self _)
  have mv : ∀ {G' H' : Hp} {m' : Mu} {os : List D} {vs : List V} {L it : Addr} {items : Array Value} {s s' : Shared}, FS X s1 H1 G1 m1 a go (s2.heap.objs.size + 1) s2.heap.objs.size Qd G' H' m' os vs L it items s → s'.os = s.os → AllBare s'.gens →
      (∀ b o, b ≠ s2.heap.objs.size + 1 → b ≠ s2.heap.objs.size → b ≠ it → b ≠ s1.heap.objs.size → s.heap.get? b = some o → s'.heap.get? b = some o) → FS X s1 H1 G1 m1 a go (s2.heap.objs.size + 1) s2.heap.objs.size Qd G' H' m' os vs L it items s' :=
    fun h ho hb k => h.move hcs nC sz12 a1 aC aD ho hb k
  have slpOver : ∀ {G' H' : Hp} {m' : Mu} {os : List D} {vs : List V} {L it : Addr} {items : Array Value} {i : Nat} {s : Shared} {h' : Heap} {t : Nat}, FS X s1 H1 G1 m1 a go (s2.heap.objs.size + 1) s2.heap.objs.size Qd G' H' m' os vs L it items s → Slp (model X.prog X.w) X.A.in1 g it L s1.heap.objs.size items i s → But2 (s2.heap.objs.size + 1) s2.heap.objs.size s.heap h' →
      Slp (model X.prog X.w) X.A.in1 g it L s1.heap.objs.size items i { s with heap := h', toks := t } := fun {G' H' m' os vs L it items i s h' t} f sl bt => sl.over (fun b o hb e => by
      rcases hb with z | z | z
      · exact bt b o (by rw [z]; exact f.iC) (by rw [z]; exact f.iD) e
      · refine bt b o (fun z2 => ?_) (fun z2 => ?_) e
        · have q := f.hC; rw [← z2, z, f.hL] at q; cases q
        · have q := f.hD; rw [← z2, z, f.hL] at q; cases q
      · exact bt b o (by rw [z]; exact Nat.ne_of_lt nC) (by rw [z]; exact Nat.ne_of_lt sz12) e) rfl
  rw [← ec]
  refine comp_turns
    (fun n out s => (n = sizeLine + 2 ∧ out = [] ∧ s.os = s2.os ∧ s.gens = s2.gens ∧ ∀ b o, s2.heap.get? b = some o → s.heap.get? b = some o) ∨
      ∃ G' H' m' os vs L it items i, n + i = items.size + 1 ∧ i ≤ items.size ∧ out = items.toList.take i ∧ FS X s1 H1 G1 m1 a go (s2.heap.objs.size + 1) s2.heap.objs.size Qd G' H' m' os vs L it items s ∧ Slp (model X.prog X.w) X.A.in1 g it L s1.heap.objs.size items i s)
    (fun n out v s => ∃ G' H' m' os vs L it items i, i < items.size ∧ items.size - i < n ∧ out = items.toList.take i ∧ items[i]? = some v ∧ FS X s1 H1 G1 m1 a go (s2.heap.objs.size + 1) s2.heap.objs.size Qd G' H' m' os vs L it items s ∧ Slp (model X.prog X.w) X.A.in1 g it L s1.heap.objs.size items (i + 1) s)
    (fun out s => ∃ G' H' m' os vs L it items, out = items.toList ∧ FS X s1 H1 G1 m1 a go (s2.heap.objs.size + 1) s2.heap.objs.size Qd G' H' m' os vs L it items s)
    (by show cenv.scope.names.lookup y = _; rw [es]; exact hy) (by rw [es]; exact hkd) (by rw [ec]; exact CD) (fun n out s h' t hS bt => ?_) (fun n out v s h' t hB bt => ?_) (fun n out v s hB => ?_) (fun n out s c m hS hD hm => ?_) (fun n out v s m c hB hm hv hD => ?_) (fun out s c m hF hD hm => ?_) (sizeLine + 2) [] s3 0 mm (.inl ⟨rfl, rfl, os3, g3, k3⟩) hD (by rw [ec]; exact hC)
  · rw [ec] at bt
    rcases hS with ⟨e1, e2, e3, e4, e5⟩ | ⟨G', H', m', os, vs', L, it, items, i, e1, e2, e3, f, sl⟩
    · exact .inl ⟨e1, e2, e3, e4, fun b o e => bt b o (Nat.ne_of_lt (Nat.lt_succ_of_lt (Heap.lt_size e))) (Nat.ne_of_lt (Heap.lt_size e)) (e5 b o e)⟩
    · exact .inr ⟨G', H', m', os, vs', L, it, items, i, e1, e2, e3, mv f rfl f.bare fun b o b1 b2 _ _ e => bt b o b1 b2 e, slpOver f sl bt⟩
  · rw [ec] at bt
    obtain ⟨G', H', m', os, vs', L, it, items, i, e1, e2, e3, e4, f, sl⟩ := hB
    exact ⟨G', H', m', os, vs', L, it, items, i, e1, e2, e3, e4, mv f rfl f.bare fun b o b1 b2 _ _ e => bt b o b1 b2 e, slpOver f sl bt⟩
  · obtain ⟨G', H', m', os, vs', L, it, items, i, e1, e2, e3, e4, f, sl⟩ := hB
    have l1 : vs'.length = items.size := by have l0 := f.va.length; simpa using l0
    have l2 := f.rp.len
    have l3 := f.len
    rw [e3, List.length_take, Array.length_toList]
    omega
  · rw [ec] at hm ⊢
    obtain ⟨oC, eC, oCn⟩ := ns_obj hm
    rcases hS with ⟨e1, e2, e3, e4, e5⟩ | ⟨G', H', m', os, vs', L, it, items, i, e1, e2, e3, f, sl⟩
    · subst e2
      have egs : s.gens[g]? = some (.fresh cd) := by rw [e4]; exact eg2
      have young : ∀ b, s1.heap.objs.size < b → H1 b = none ∧ b ≠ s1.heap.objs.size ∧ b ∉ frs X.stack := fun b hb => ⟨I1.hok.fresh (Nat.le_of_lt hb), Nat.ne_of_gt hb, fun z => by
        obtain ⟨_, o1, e1, _⟩ := I1.env0.funs.mem z
        exact absurd (Heap.lt_size e1) (Nat.not_lt.mpr (Nat.le_of_lt hb))⟩
      have hpn : ∀ p ∈ [(s2.heap.objs.size, lstObj ([] : List Value).toArray c), (s2.heap.objs.size + 1, oC), (a, go)], s.heap.get? p.1 = some p.2 ∧ H1 p.1 = none ∧ p.1 ≠ s1.heap.objs.size ∧ p.1 ∉ frs X.stack ∧ ∀ v, p.2.data ≠ .cell v := fun p hp => by
        rcases List.mem_cons.mp hp with rfl | hp
        · exact ⟨hD, (young _ sz12).1, (young _ sz12).2.1, (young _ sz12).2.2, fun v z => nomatch z⟩
        rcases List.mem_cons.mp hp with rfl | hp
        · exact ⟨eC, (young _ nC).1, (young _ nC).2.1, (young _ nC).2.2, oCn⟩
        rw [List.mem_singleton.mp hp]
        exact ⟨e5 _ _ ega, (young _ a1).1, (young _ a1).2.1, (young _ a1).2.2, gnc⟩
      have hok2 : HOk X.prog X.w H1 s.heap := (I1.hok.kept kp2).kept e5
      have hbs : AllBare (s.setGen g .running).gens := allBare_setGen (by rw [e4]; exact hb2) rfl
      have W := wake X.A.in1 [] _ G1 H1 m1 ds Qd (s.setGen g .running) room.in1 I1.ok.frames (fun b hb => nomatch hb) e3 (Un.kept e5) hok2 hbs hpn rp1 rl1 q1
      have fs_of : ∀ {s' : Shared} {G' H' : Hp} {m' : Mu} {os : List D} {vs' : List V} {L it : Addr} {items : Array Value}, Fo X.prog X.w X.K X.stack [] [(s2.heap.objs.size, lstObj ([] : List Value).toArray c), (s2.heap.objs.size + 1, oC), (a, go)] s1 H1 G1 H1 m1 (fun o m4 => ∃ m3 : Mu, (∀ a u, m3 a = some u → m4 a = some u) ∧ Qd o m3) (s.setGen g .running) s' G' H' m' os vs' L it items →
          FS X s1 H1 G1 m1 a go (s2.heap.objs.size + 1) s2.heap.objs.size Qd G' H' m' os vs' L it items s' := fun {s' G' H' m' os vs' L it items} fo => by
        have pD := fo.pin _ (List.mem_cons_self ..)
        have pC := fo.pin _ (List.mem_cons_of_mem _ (List.mem_cons_self ..))
        have pa := fo.pin _ (List.mem_cons_of_mem _ (List.mem_cons_of_mem _ (List.mem_cons_self ..)))
        have lim : s'.heap.NoLimit := I1.ok.mod.nolimit.keeps fun b o e => fo.un.keep b o (I1.bs b o e).1 (I1.bs b o e).2 (fun hm => by
          rcases List.mem_cons.mp (I1.stkSub b hm) with z | z
          · have h1 := Heap.lt_size e
            have h2 := Nat.le_trans I1.ok.bsz I1.ok.above
            rw [z] at h1
            exact absurd (Nat.lt_of_lt_of_le h1 h2) (Nat.lt_irrefl _)
          · exact I1.ok.nofr e z) (fun z => nomatch z)
        exact ⟨fo.os_, fo.bare, fo.un, fo.hok, lim, pC.2.1, pD.2.1, fo.hF, fo.hit, Ne.symm pC.2.2, Ne.symm pD.2.2, Ne.symm pa.2.2, pa.1, fo.st, fo.rl, fo.hL, fo.rp, fo.va, fo.len, fo.q, fo.new⟩
      have szi : ∀ {s' : Shared} {G' H' : Hp} {m' : Mu} {os : List D} {vs' : List V} {L it : Addr} {items : Array Value}, FS X s1 H1 G1 m1 a go (s2.heap.objs.size + 1) s2.heap.objs.size Qd G' H' m' os vs' L it items s' → items.size ≤ sizeLine := fun {s' G' H' m' os vs' L it items} f => by
        have l1 : vs'.length = items.size := by have l0 := f.va.length; simpa using l0
        have l2 := f.rp.len
        have l3 := f.len
        omega
      refine next_of_special (wake_special room.hd (lim2.keeps e5) (by have := room.dp; omega) (gis _ (e5 _ _ ega)) egs W (fun v s' G' H' m' os vs' L it items fo ev sl' => ?_) fun x s' G' H' m' os vs' L it items hz hx fo => ?_)
      · have pD := fo.pin _ (List.mem_cons_self ..)
        have pC := fo.pin _ (List.mem_cons_of_mem _ (List.mem_cons_self ..))
        have f := fs_of fo
        have zi := szi f
        refine ⟨v, rfl, ⟨c, pD.1⟩, ⟨m, hm.at' fun o e => ?_⟩, G', H', m', os, vs', L, it, items, 0, (Array.getElem?_eq_some_iff.mp ev).1, by omega, rfl, ev, f, sl'⟩
        rw [eC] at e
        cases e
        exact pC.1
      · have pD := fo.pin _ (List.mem_cons_self ..)
        have pC := fo.pin _ (List.mem_cons_of_mem _ (List.mem_cons_self ..))
        refine ⟨x, rfl, hx, ⟨c, pD.1⟩, ⟨m, hm.at' fun o e => ?_⟩, G', H', m', os, vs', L, it, items, ?_, fs_of fo⟩
        · rw [eC] at e
          cases e
          exact pC.1
        · have : items.toList.length = 0 := by rw [Array.length_toList]; exact hz
          exact (List.length_eq_zero_iff.mp this).symm
    · have dk : ∀ {s' : Shared}, Mg it s1.heap.objs.size g s s' → s'.heap.get? s2.heap.objs.size = some (lstObj out.toArray c) ∧ s'.heap.Ns (s2.heap.objs.size + 1) m ∧ FS X s1 H1 G1 m1 a go (s2.heap.objs.size + 1) s2.heap.objs.size Qd G' H' m' os vs' L it items s' := fun {s'} mg =>
        ⟨mg.keep _ _ (Ne.symm f.iD) (Nat.ne_of_gt sz12) hD, hm.at' fun o e => mg.keep _ o (Ne.symm f.iC) (Nat.ne_of_gt nC) e, mv f mg.os_ (mg.bare f.bare) fun b o _ _ b3 b4 e => mg.keep b o b3 b4 e⟩
      refine next_of_special (slp_special room.hd f.lim (by have := room.dp; omega) (gis _ f.ga) e2 sl (fun v s' ev sl' mg => ?_) fun x s' ei hx mg => ?_)
      · have lt := (Array.getElem?_eq_some_iff.mp ev).1
        exact ⟨v, rfl, ⟨c, (dk mg).1⟩, ⟨m, (dk mg).2.1⟩, G', H', m', os, vs', L, it, items, i, lt, by omega, e3, ev, (dk mg).2.2, sl'⟩
      · refine ⟨x, rfl, hx, ⟨c, (dk mg).1⟩, ⟨m, (dk mg).2.1⟩, G', H', m', os, vs', L, it, items, ?_, (dk mg).2.2⟩
        rw [e3, ei]
        exact List.take_of_length_le (by rw [Array.length_toList]; exact Nat.le_refl _)
  · obtain ⟨G', H', m', os, vs', L, it, items, i, e1, e2, e3, e4, f, sl⟩ := hB
    refine wpAny_Name (wpAny_loadName_local (by rw [es]; exact hkd) (by show cenv.scope.names.lookup y = _; rw [es]; exact hy) hm hv ?_) hdy
    exact ⟨⟨c, hD⟩, ⟨m, hm⟩, items.size - i, e2, .inr ⟨G', H', m', os, vs', L, it, items, i + 1, by omega, e1, by rw [e3]; exact take_more e4, f, sl⟩⟩
  · rw [ec] at hm ⊢
    obtain ⟨G', H', m', os, vs', L, it, items, e1, f⟩ := hF
    refine ⟨m, hm, fun h' hs => ?_⟩
    have f2 : FS X s1 H1 G1 m1 a go (s2.heap.objs.size + 1) s2.heap.objs.size Qd G' H' m' os vs' L it items { s with heap := h' } := mv f rfl f.bare fun b o b1 _ _ _ e => hs.extBut b o b1 e
    have hD2 : h'.get? s2.heap.objs.size = some (lstObj out.toArray c) := hs.extBut _ _ CD hD
    have lv : vs'.length ≤ sizeLine := by rw [← f.rp.len]; exact f.len
    have rv : Vals vs' out.toArray.toList := by rw [e1]; exact f.va
    obtain ⟨m3, le, qd⟩ := f.q
    exact ⟨.ref s2.heap.objs.size, upd H' s2.heap.objs.size (.lst vs'), I1.drained (Nat.le_of_lt sz12) lv hD2 rv ExOk.nil f2.os_ f2.bare f2.un f2.hok f2.hD, rfl, Rl.newLst (w.after (f.st.less le)) (f.rl.less le) f.rp f.len qd _ f.hD⟩
end Mn

set_option Elab.async false
set_option linter.all false
set_option maxRecDepth 100000
set_option maxHeartbeats 4000000
set_option autoImplicit false
namespace Mn
open PySem PySem.Spec PyProof.Rows L2 GenW
variable [Tbs]
section
variable {X : Cx} {k : Nat} {ps : List Str} {d : DSp} {x y : Str} {p py p1 pos pos' : Pos} {e : Expr} {es : List Expr} {scope : Scope} {tr : DA}
/-- a call that gives a generator -/
theorem run_g1 {f : Addr} {fd : FuncData} {pins : List (Addr × Obj)} {σ : L2.St} {H : Hp} {s : Shared} {us : List Value} {vs : List V} {E : Value → Shared → Prop} (F : GF1 X.prog X.w X.K X.mg X.base k f fd ps d) (room : Room k X.A) (bd : Binds X.K fd ps []) (I : Inv X pins σ H s) (rv : Vals vs us) (hl : vs.length = ps.length) :
    wpAny (model X.prog X.w) X.A (call (.ref f) us) (fun u s' => Md1 X.prog X.w X.K X.base k X.stack s H vs d u s') E s := by
  have bz := bd s us I.kIn (by rw [List.append_nil, ← rv.length]; exact hl)
  rw [List.append_nil] at bz
  refine wpAny_call (codeAny_mono (F.run X.A X.stack s H ⟨us, []⟩ us vs hl room I.env0 bz rv) fun r s' hq => ?_)
  cases r with
  | error e => exact False.elim hq
  | ok fl => cases fl with
    | ret u => exact hq
    | next => exact False.elim hq
    | brk => exact False.elim hq
    | cont => exact False.elim hq
/-- [y for y in g(e, ..)] -/
theorem pd_lcG1 (C : CG1 X.prog X.w X.K X.mg X.base x k ps d) (room : Room (k + 1) X.A) (hg : Gl X x) (ha : PDA X (e :: es) tr) (hfree : ∀ z ∈ scope.names, z.2 ≠ .free) (hcell : ∀ z ∈ scope.names, z.2 ≠ .cell) (hkd : scope.kind = .function) (hnm : ∀ z ∈ scope.names, z.2 = .local → scope.names.lookup z.1 = some .local) (hy : scope.names.lookup y = some .local)
    (hdb : (x == ("__debug__" : Str)) = false := by decide) (hdy : (y == ("__debug__" : Str)) = false := by decide) (he : starEach (e :: es) X.env = (false, eval e X.env) :: starEach es X.env := by rfl) (hpl : (backTo pos' (starEach es X.env)).any (·.1) = false := by rfl) :
    PD X (.ListComp (.Name y p1) [⟨.Name y py, .Call (.Name x p) (e :: es) [] pos', [], 0⟩] scope pos) (dCB d tr) := by
  obtain ⟨f, fd, hm, hk, bd, F⟩ := C
  refine ⟨fun pins s σ H Q I ⟨G, ro, m, Qd, hs, hr, q, w⟩ => ?_⟩
  refine wpAny_ListComp hfree hkd hnm ?_
  refine wpAny_Call_Name_kw (ld_glob I hg hm ?_ hdb)
  refine PySem.W.callWith_K (h₀ := X.base) I.ok.mod.kin hk (thn (PA.run ha pos' pins s σ H _ I ⟨G, ro, m, _, hs, hr, q, fun vs H1 G1 m1 ds st1 rl1 rp1 q1 => (⟨G1, m1, ds, st1, rl1, rp1, q1⟩ : ∃ G1 m1 ds, Stp G H m G1 H1 m1 ∧ Rl X.kf G1 H1 m1 ∧ RpL X.kf G1 ds vs ∧ d ds m1 Qd)⟩) fun us s1 ⟨vs, H1, I1, rv, G1, m1, ds, st1, rl1, rp1, q1⟩ => ⟨I1.kIn, ?_⟩) he hpl
  have hl : vs.length = ps.length := by rw [← rp1.len]; exact F.len _ _ _ q1
  refine thn (run_g1 F (room.mono (by omega)) bd I1 rv hl) fun u s2 hM => ?_
  obtain ⟨a, g, go, oF, cd, eu, a1, a2, ega, gnc, gis, _⟩ := id hM
  subst eu
  refine wpAny_pyIter_gen (gis _ ega) ?_
  refine wpAny_mono (lc_block (E := X.xe) (x := y) (px := py) (elt := .Name y p1) (iter := .Call (.Name x p) (e :: es) [] pos') (pos := pos) (env := X.env) (RR := fun acc C r s' => ∃ m, s'.heap.Ns C m ∧ ∀ h', Heap.SameBut C s'.heap h' → match r with | .ok _ => EP X pins σ Q acc { s' with heap := h' } | .error x => False) hcell hkd
    (fun s Q E kp h => wpAny_pyIter_gen (gis _ (kp _ _ ega)) h) fun cenv s3 mm ec es os3 g3 k3 hD hC => lcG1_loop (EE := fun _ _ _ _ => False) room hkd hy hdy I1 rl1 rp1 q1 (w.after st1) hM cenv s3 mm ec es os3 g3 k3 hD hC) (fun acc s3 h3 => wpAny_mono h3 (fun cenv s4 h4 => codeAny_mono h4 fun r s' ⟨m, hm, z⟩ => ⟨m, hm, fun h' hs => ?_⟩) fun _ _ z => z) fun _ _ z => z
  have z1 := z h' hs
  cases r with
  | ok f => exact z1
  | error e => exact z1.elim
end
end Mn

set_option Elab.async false
set_option linter.all false
set_option maxRecDepth 100000
set_option maxHeartbeats 4000000
set_option autoImplicit false
namespace Mn
open PySem PySem.Spec PyProof.Rows L2 GenW
variable [Tbs]
/-! zip of two iterators, told by their turns -/
def ZI (z TI TO a1 a2 : Addr) (h : Heap) : Prop := ∃ f0 f arr, IsZ h z TI TO f0 f ∧ Own0 f0 ∧ IsT h TI #[.ref a1, .ref a2] ∧ IsT h TO arr ∧ arr.size = 2
/-- these three stay as they are -/
def Zk (z TI TO : Addr) (h h' : Heap) : Prop := ∀ b o, b = z ∨ b = TI ∨ b = TO → h.get? b = some o → h'.get? b = some o
def Stop (e : Value) (h : Heap) : Prop := ∃ x, e = .ref x ∧ ∃ o, h.get? x = some o ∧ o.cls = .type "StopIteration"
section
variable {P : Program} {w : World} {A : Around}
theorem zipg_next {z TI TO a1 a2 : Addr} (S0 : Shared → Prop) (S1 : Value → Shared → Prop) (S2 : Value → Value → Shared → Prop) (S9 : Shared → Prop) (ne : z ≠ TI ∧ z ≠ TO ∧ TI ≠ TO)
    (h0 : ∀ s h' t, S0 s → But2 z TO s.heap h' → S0 { s with heap := h', toks := t }) (h1 : ∀ v s h' t, S1 v s → But2 z TO s.heap h' → S1 v { s with heap := h', toks := t }) (h2 : ∀ v y s h' t, S2 v y s → But2 z TO s.heap h' → S2 v y { s with heap := h', toks := t }) (h9 : ∀ s h' t, S9 s → But2 z TO s.heap h' → S9 { s with heap := h', toks := t })
    (d1 : ∀ s o1 o2 o3, S0 s → s.heap.get? z = some o1 → s.heap.get? TI = some o2 → s.heap.get? TO = some o3 → (∀ v, o1.data ≠ .cell v) → (∀ v, o2.data ≠ .cell v) → (∀ v, o3.data ≠ .cell v) → wpAny (model P w) A (Builtin.SmallTypes.nextOf (.ref a1)) (fun v s' => Zk z TI TO s.heap s'.heap ∧ S1 v s') (fun e s' => Stop e s'.heap ∧ Zk z TI TO s.heap s'.heap ∧ S9 s') s)
    (d2 : ∀ v s o1 o2 o3, S1 v s → s.heap.get? z = some o1 → s.heap.get? TI = some o2 → s.heap.get? TO = some o3 → (∀ v, o1.data ≠ .cell v) → (∀ v, o2.data ≠ .cell v) → (∀ v, o3.data ≠ .cell v) → wpAny (model P w) A (Builtin.SmallTypes.nextOf (.ref a2)) (fun y s' => Zk z TI TO s.heap s'.heap ∧ S2 v y s') (fun _ _ => False) s)
    {s : Shared} (hz : ZI z TI TO a1 a2 s.heap) (hs : S0 s) :
    wpAny (model P w) A (Builtin.«zip.__next__» ⟨[.ref z], []⟩) (fun fin s' => ∃ T x y, fin = .done (.ret (.ref T)) ∧ IsT s'.heap T #[x, y] ∧ ZI z TI TO a1 a2 s'.heap ∧ S2 x y s') (fun e s' => Stop e s'.heap ∧ ZI z TI TO a1 a2 s'.heap ∧ S9 s') s := by
  obtain ⟨f0, f, arr, hz, hw, hTI, hTO, ha⟩ := hz
  have kz : ∀ {f0 : Value} {f : Bool} {v : Option Value}, ({ cls := .type "zip", dict := none, data := .fields #[f0, .bool f, .bool false, .ref TI, .ref TO], slots := #[] } : Obj).data ≠ .cell v := fun z => nomatch z
  have kt : ∀ {arr : Array Value} {v : Option Value}, ({ cls := .type "tuple", data := .seq arr } : Obj).data ≠ .cell v := fun z => nomatch z
  show wpAny _ _ (field (.ref z) 2 >>= _) _ _ _
  refine wpAny_bind (wpAny_field hz rfl (x := .bool false) rfl ?_)
  show wpAny _ _ (field (.ref z) 3 >>= _) _ _ _
  refine wpAny_bind (wpAny_field hz rfl (x := .ref TI) rfl ?_)
  refine wpAny_bind (wpAny_seqItems hTI rfl ?_)
  refine wpAny_bind (own_free hz hw fun b ha1 f1 hz1 hs1 => ?_)
  have hS0 := h0 s ha1 s.toks hs (.of hs1 (.inl rfl))
  have hTI1 : IsT ha1 TI #[.ref a1, .ref a2] := hs1.extBut _ _ (Ne.symm ne.1) hTI
  have hTO1 : IsT ha1 TO arr := hs1.extBut _ _ (Ne.symm ne.2.1) hTO
  cases b with
  | true =>
    simp only [if_true]
    refine wpAny_bind (wpAny_rule ?_)
    refine wpAny_bind (wpAny_field hz1 rfl (x := .ref TO) rfl ?_)
    refine wpAny_bind (wpAny_setField_rec hz1 (by simp) fun hb hz2 hs2 => ?_)
    replace hz2 : IsZ hb z TI TO .ellipsis f1 := hz2
    replace hs2 : Heap.SameBut z ha1 hb := hs2
    have hS2 := h0 _ hb s.toks hS0 (.of hs2 (.inl rfl))
    have hTI2 : IsT hb TI #[.ref a1, .ref a2] := hs2.extBut _ _ (Ne.symm ne.1) hTI1
    have hTO2 : IsT hb TO arr := hs2.extBut _ _ (Ne.symm ne.2.1) hTO1
    refine wpAny_bind ?_
    simp only [List.zipIdx_cons, List.zipIdx_nil, List.forIn_cons, List.forIn_nil]
    refine wpAny_bind (wpAny_bind (wpAny_onRaise ?_))
    show wpAny _ _ (Builtin.SmallTypes.nextOf (.ref a1) >>= _) _ _ _
    refine wpAny_bind (wpAny_mono (d1 { s with heap := hb } _ _ _ hS2 hz2 hTI2 hTO2 (fun v => kz) (fun v => kt) (fun v => kt)) (fun v s3 ⟨zk, q1⟩ => wpAny_pure ?_) fun e s3 ⟨⟨xe, ee, oe, hoe, hce⟩, zk, q9⟩ => ?_)
    · have hz3 : IsZ s3.heap z TI TO .ellipsis f1 := zk _ _ (.inl rfl) hz2
      have hTI3 : IsT s3.heap TI #[.ref a1, .ref a2] := zk _ _ (.inr (.inl rfl)) hTI2
      have hTO3 : IsT s3.heap TO arr := zk _ _ (.inr (.inr rfl)) hTO2
      refine wpAny_bind (wpAny_seqItems hTO3 rfl ?_)
      refine wpAny_bind (wpAny_updateSeq hTO3 rfl ?_ (by rw [ha]; decide) (by rw [Array.size_setIfInBounds, ha]; decide))
      have hs4 : Heap.SameBut TO s3.heap (s3.heap.update TO (Obj.mapSeq fun xs => xs.setIfInBounds 0 v)) := Heap.SameBut.update ..
      have hTO4 : IsT (s3.heap.update TO (Obj.mapSeq fun xs => xs.setIfInBounds 0 v)) TO (arr.setIfInBounds 0 v) := by
        show (s3.heap.update TO _).get? TO = _
        rw [Heap.get?_update_self _ hTO3 rfl]
        simp [Obj.mapSeq]
      have q4 := h1 v s3 (s3.heap.update TO (Obj.mapSeq fun xs => xs.setIfInBounds 0 v)) s3.toks q1 (.of hs4 (.inr rfl))
      have hz4 : IsZ (s3.heap.update TO (Obj.mapSeq fun xs => xs.setIfInBounds 0 v)) z TI TO .ellipsis f1 := hs4.extBut _ _ ne.2.1 hz3
      have hTI4 : IsT (s3.heap.update TO (Obj.mapSeq fun xs => xs.setIfInBounds 0 v)) TI #[.ref a1, .ref a2] := hs4.extBut _ _ ne.2.2 hTI3
      refine wpAny_bind (wpAny_letGo (wpAny_pure ?_))
      refine wpAny_bind (wpAny_bind (wpAny_onRaise ?_))
      show wpAny _ _ (Builtin.SmallTypes.nextOf (.ref a2) >>= _) _ _ _
      refine wpAny_bind (wpAny_mono (d2 v { s3 with heap := s3.heap.update TO (Obj.mapSeq fun xs => xs.setIfInBounds 0 v) } _ _ _ q4 hz4 hTI4 hTO4 (fun v => kz) (fun v => kt) (fun v => kt)) (fun y s5 ⟨zk5, q5⟩ => wpAny_pure ?_) fun _ _ z => z.elim)
      have hz5 : IsZ s5.heap z TI TO .ellipsis f1 := zk5 _ _ (.inl rfl) hz4
      have hTI5 : IsT s5.heap TI #[.ref a1, .ref a2] := zk5 _ _ (.inr (.inl rfl)) hTI4
      have hTO5 : IsT s5.heap TO (arr.setIfInBounds 0 v) := zk5 _ _ (.inr (.inr rfl)) hTO4
      refine wpAny_bind (wpAny_seqItems hTO5 rfl ?_)
      refine wpAny_bind (wpAny_updateSeq hTO5 rfl ?_ (by rw [Array.size_setIfInBounds, ha]; decide) (by rw [Array.size_setIfInBounds, Array.size_setIfInBounds, ha]; decide))
      generalize hH6 : s5.heap.update TO (Obj.mapSeq fun xs => xs.setIfInBounds 1 y) = H6
      have hs6 : Heap.SameBut TO s5.heap H6 := by rw [← hH6]; exact Heap.SameBut.update ..
      have hTO6 : IsT H6 TO #[v, y] := by
        show H6.get? TO = _
        rw [← hH6, Heap.get?_update_self _ hTO5 rfl]
        obtain ⟨l⟩ := arr
        match l, ha with
        | [p, q], _ => simp [Obj.mapSeq]
      have q6 := h2 v y s5 H6 s5.toks q5 (.of hs6 (.inr rfl))
      have hz6 : IsZ H6 z TI TO .ellipsis f1 := hs6.extBut _ _ ne.2.1 hz5
      have hTI6 : IsT H6 TI #[.ref a1, .ref a2] := hs6.extBut _ _ ne.2.2 hTI5
      refine wpAny_bind (wpAny_letGo (wpAny_pure (wpAny_pure ?_)))
      refine wpAny_bind (wpAny_seqItems hTO6 rfl ?_)
      refine wpAny_bind (wpAny_newTuple ?_)
      have zlt : z < H6.objs.size := Heap.lt_size hz6
      show wpAny _ _ (Builtin.SmallTypes.ownedTupleHandOut (.ref z) (.ref H6.objs.size) >>= _) _ _ { s5 with heap := H6.push { cls := .type "tuple", data := .seq #[v, y] } }
      refine wpAny_bind ?_
      unfold Builtin.SmallTypes.ownedTupleHandOut
      have hz7 : IsZ (H6.push { cls := .type "tuple", data := .seq #[v, y] }) z TI TO .ellipsis f1 := Heap.get?_push_of_some _ hz6
      refine wpAny_bind (wpAny_setField_rec hz7 (by simp) fun h8 hz8 hs8 => ?_)
      replace hz8 : IsZ h8 z TI TO (rawInt H6.objs.size) f1 := hz8
      replace hs8 : Heap.SameBut z (H6.push { cls := .type "tuple", data := .seq #[v, y] }) h8 := hs8
      refine wpAny_setField_rec hz8 (by simp) fun h9' hz9 hs9 => ?_
      replace hz9 : IsZ h9' z TI TO (rawInt H6.objs.size) false := hz9
      replace hs9 : Heap.SameBut z h8 h9' := hs9
      have up : ∀ c o, c ≠ z → H6.get? c = some o → h9'.get? c = some o := fun c o n e => hs9.extBut _ _ n (hs8.extBut _ _ n (Heap.get?_push_of_some _ e))
      refine wpAny_pure ⟨H6.objs.size, v, y, rfl, hs9.extBut _ _ (Nat.ne_of_gt zlt) (hs8.extBut _ _ (Nat.ne_of_gt zlt) (Heap.get?_push_size _ rfl)), ⟨_, false, _, hz9, .inr ⟨_, rfl⟩, up _ _ (Ne.symm ne.1) hTI6, up _ _ (Ne.symm ne.2.1) hTO6, rfl⟩, ?_⟩
      exact h2 v y { s5 with heap := H6 } h9' s5.toks q6 fun c o n1 _ e => up c o n1 e
    · have hz3 : IsZ s3.heap z TI TO .ellipsis f1 := zk _ _ (.inl rfl) hz2
      have hTI3 : IsT s3.heap TI #[.ref a1, .ref a2] := zk _ _ (.inr (.inl rfl)) hTI2
      have hTO3 : IsT s3.heap TO arr := zk _ _ (.inr (.inr rfl)) hTO2
      have nx : xe ≠ z := fun e => by rw [e] at hoe; unfold IsZ at hz3; rw [hz3] at hoe; cases hoe; simp at hce
      refine wpAny_setField_rec hz3 (by simp) fun h4 hz4 hs4 => ?_
      replace hz4 : IsZ h4 z TI TO .none f1 := hz4
      replace hs4 : Heap.SameBut z s3.heap h4 := hs4
      exact ⟨⟨xe, ee, oe, hs4.extBut _ _ nx hoe, hce⟩, ⟨_, _, arr, hz4, .inl rfl, hs4.extBut _ _ (Ne.symm ne.1) hTI3, hs4.extBut _ _ (Ne.symm ne.2.1) hTO3, ha⟩, h9 s3 h4 s3.toks q9 (.of hs4 (.inl rfl))⟩
  | false =>
    simp only [Bool.false_eq_true, if_false]
    rw [← Array.forIn_toList]
    refine wpAny_bind ?_
    simp only [List.forIn_cons, List.forIn_nil]
    refine wpAny_bind (wpAny_bind (wpAny_holding ?_))
    show wpAny _ _ (Builtin.SmallTypes.nextOf (.ref a1) >>= _) _ _ _
    refine wpAny_bind (wpAny_mono (d1 { s with heap := ha1 } _ _ _ hS0 hz1 hTI1 hTO1 (fun v => kz) (fun v => kt) (fun v => kt)) (fun v s3 ⟨zk, q1⟩ => wpAny_pure (wpAny_pure ?_)) fun e s3 ⟨st, zk, q9⟩ => ⟨st, ⟨f0, f1, arr, zk _ _ (.inl rfl) hz1, hw, zk _ _ (.inr (.inl rfl)) hTI1, zk _ _ (.inr (.inr rfl)) hTO1, ha⟩, q9⟩)
    have hz3 : IsZ s3.heap z TI TO f0 f1 := zk _ _ (.inl rfl) hz1
    have hTI3 : IsT s3.heap TI #[.ref a1, .ref a2] := zk _ _ (.inr (.inl rfl)) hTI1
    have hTO3 : IsT s3.heap TO arr := zk _ _ (.inr (.inr rfl)) hTO1
    refine wpAny_bind (wpAny_bind (wpAny_holding ?_))
    show wpAny _ _ (Builtin.SmallTypes.nextOf (.ref a2) >>= _) _ _ _
    refine wpAny_bind (wpAny_mono (d2 v s3 _ _ _ q1 hz3 hTI3 hTO3 (fun v => kz) (fun v => kt) (fun v => kt)) (fun y s5 ⟨zk5, q5⟩ => wpAny_pure (wpAny_pure (wpAny_pure ?_))) fun _ _ z => z.elim)
    have hz5 : IsZ s5.heap z TI TO f0 f1 := zk5 _ _ (.inl rfl) hz3
    have hTI5 : IsT s5.heap TI #[.ref a1, .ref a2] := zk5 _ _ (.inr (.inl rfl)) hTI3
    have hTO5 : IsT s5.heap TO arr := zk5 _ _ (.inr (.inr rfl)) hTO3
    refine wpAny_bind (wpAny_newTuple ?_ (by show 2 ≤ sizeLine; decide))
    refine wpAny_pure ⟨s5.heap.objs.size, v, y, rfl, Heap.get?_push_size _ rfl, ⟨f0, f1, arr, Heap.get?_push_of_some _ hz5, hw, Heap.get?_push_of_some _ hTI5, Heap.get?_push_of_some _ hTO5, ha⟩, ?_⟩
    exact h2 v y s5 _ s5.toks q5 fun c o _ _ e => Heap.get?_push_of_some _ e
end
end Mn

set_option Elab.async false
set_option linter.all false
set_option maxRecDepth 100000
set_option maxHeartbeats 4000000
set_option autoImplicit false
namespace Mn
open PySem PySem.Spec PyProof.Rows L2 GenW
variable [Tbs]
/-! zip of two generators: made, drawn from -/
abbrev zTG (h : Heap) (a1 a2 : Addr) : Heap := h.push { cls := .type "tuple", data := .seq #[.ref a1, .ref a2] }
abbrev zOG (h : Heap) (a1 a2 : Addr) : Heap := (zTG h a1 a2).push { cls := .type "tuple", data := .seq #[.none, .none] }
abbrev zZG (h : Heap) (a1 a2 : Addr) : Heap := (zOG h a1 a2).push { cls := .type "zip", data := .fields #[.none, .bool false, .bool false, .ref h.objs.size, .ref (zTG h a1 a2).objs.size] }
theorem zipMeetsG {a1 a2 : Addr} {g1 g2 : Nat} : Meets (Builtin.«zip.__new__» ⟨[.type "zip", .ref a1, .ref a2], []⟩) (fun _ R s => (s.heap.IsGen a1 g1 ∧ s.heap.IsGen a2 g2) ∧ R (.ok (.ret (.ref (zOG s.heap a1 a2).objs.size))) { s with heap := zZG s.heap a1 a2 }) :=
  .of_wp fun prog w A R s h => by
    obtain ⟨hp, g, d, tk, os⟩ := s; obtain ⟨⟨h1, h2⟩, h⟩ := h
    have hsub := sub_zip
    have q1 : ∀ {A' : Around} {E : Value → Shared → Prop} {Q : Value → Shared → Prop}, Q (.ref a1) ⟨hp, g, d, tk, os⟩ → wpAny (model prog w) A' (pyIter (.ref a1)) Q E ⟨hp, g, d, tk, os⟩ := fun q => wpAny_pyIter_gen (s := ⟨hp, g, d, tk, os⟩) h1 q
    have q2 : ∀ {A' : Around} {E : Value → Shared → Prop} {Q : Value → Shared → Prop}, Q (.ref a2) ⟨hp, g, d, tk, os⟩ → wpAny (model prog w) A' (pyIter (.ref a2)) Q E ⟨hp, g, d, tk, os⟩ := fun q => wpAny_pyIter_gen (s := ⟨hp, g, d, tk, os⟩) h2 q
    wp_walk using q1, q2
    exact ⟨_, rfl, h⟩
section
variable {P : Program} {w : World} {A : Around} {E : Value → Shared → Prop} {s : Shared}
theorem call_zipG {a1 a2 : Addr} {g1 g2 n : Nat} {Q : Value → Shared → Prop} (hn : s.heap.objs.size = n) (h1 : s.heap.IsGen a1 g1) (h2 : s.heap.IsGen a2 g2)
    (h : ∀ h', ZI (n + 2) n (n + 1) a1 a2 h' → h'.objs.size = n + 3 → (∀ c o, s.heap.get? c = some o → h'.get? c = some o) → Q (.ref (n + 2)) { s with heap := h' }) : wpAny (model P w) A (call (.type "zip") [.ref a1, .ref a2]) Q E s := by
  refine callType_new F.called_zip (by decide) (F.typeCall_zip_2 _ _) (F.newCall_zip_2 _ _) (fun obj => F.args_object_init_3 obj _ _) F.entry_zip_new zipMeetsG ⟨⟨h1, h2⟩, ?_⟩
  have z1 : (zTG s.heap a1 a2).objs.size = n + 1 := by rw [Heap.size_push, hn]
  have z2 : (zOG s.heap a1 a2).objs.size = n + 2 := by rw [Heap.size_push, z1]
  have z3 : (zZG s.heap a1 a2).objs.size = n + 3 := by rw [Heap.size_push, z2]
  have gZ : (zZG s.heap a1 a2).get? (zOG s.heap a1 a2).objs.size = some { cls := .type "zip", data := .fields #[.none, .bool false, .bool false, .ref s.heap.objs.size, .ref (zTG s.heap a1 a2).objs.size] } := Heap.get?_push_size _ rfl
  have gO : (zZG s.heap a1 a2).get? (zTG s.heap a1 a2).objs.size = some { cls := .type "tuple", data := .seq #[.none, .none] } := Heap.get?_push_of_some _ (Heap.get?_push_size _ rfl)
  have gT : (zZG s.heap a1 a2).get? s.heap.objs.size = some { cls := .type "tuple", data := .seq #[.ref a1, .ref a2] } := Heap.get?_push_of_some _ (Heap.get?_push_of_some _ (Heap.get?_push_size _ rfl))
  rw [z1, z2, hn] at gZ
  rw [z1] at gO
  rw [hn] at gT
  rw [z2]
  exact ⟨⟨_, gZ, rfl⟩, h _ ⟨.none, false, #[.none, .none], gZ, .inl rfl, gT, gO, rfl⟩ z3 fun c o x => Heap.get?_push_of_some _ (Heap.get?_push_of_some _ (Heap.get?_push_of_some _ x))⟩
theorem zipg_pyNext {z TI TO a1 a2 : Addr} {Q : Option Value → Shared → Prop} (hz : ZI z TI TO a1 a2 s.heap)
    (h : wpAny (model P w) A.in1 (Builtin.«zip.__next__» ⟨[.ref z], []⟩) (fun fin s' => ∃ T x y, fin = .done (.ret (.ref T)) ∧ IsT s'.heap T #[x, y] ∧ Q (some (.ref T)) s') (fun e s' => Stop e s'.heap ∧ Q none s') s) : wpAny (model P w) A (pyNext (.ref z)) Q E s := by
  obtain ⟨f0, f, arr, hz, _⟩ := hz
  have hT : s.TypeIs (.ref z) "zip" := ⟨_, hz, rfl⟩
  unfold pyNext
  refine wpAny_bind (wpAny_attempt (wpAny_callSpecial?_slot (name := Str.ofString "__next__") hT F.slot_zip_next (wpAny_call_entry F.slot_zip_next hT F.entry_zip_next (wpAny_mono h (fun fin s' ⟨T, x, y, e, _, q⟩ => ?_) fun e s' ⟨⟨x, ex, o, ho, hc⟩, q⟩ => ?_) (F.args_zip_next_1 _))))
  · subst e
    exact ⟨_, rfl, wpAny_pure q⟩
  · subst ex
    refine wpAny_bind (wpAny_isInstance (T := "StopIteration") (b := true) ⟨o, ho, hc⟩ isSubtype_stop ?_)
    exact wpAny_pure q
end
end Mn

set_option Elab.async false
set_option linter.all false
set_option maxRecDepth 100000
set_option maxHeartbeats 4000000
set_option autoImplicit false
namespace Mn
open PySem PySem.Spec PyProof.Rows L2 GenW
open Sem (wp)
/-! a run ends in one way -/
section
variable {M : Model}
theorem runs_det {Γ : PySem.Ctx} {p : Pos} {t : Sem PySem.Fin} {fs : List Frame} {s s1 : Shared} {e1 : End} (h : Runs M Γ p t fs s e1 s1) : ∀ {e2 : End} {s2 : Shared}, Runs M Γ p t fs s e2 s2 → e1 = e2 ∧ s1 = s2 := by
  induction h with
  | done => intro e2 s2 k; cases k; exact ⟨rfl, rfl⟩
  | raise => intro e2 s2 k; cases k; exact ⟨rfl, rfl⟩
  | yield => intro e2 s2 k; cases k; exact ⟨rfl, rfl⟩
  | again hq _ ih => intro e2 s2 k; cases k; rename_i a b; exact ih b
  | rule _ ih => intro e2 s2 k; cases k; rename_i b; exact ih b
  | «at» _ ih => intro e2 s2 k; cases k; rename_i b; exact ih b
  | load ho _ ih => intro e2 s2 k; cases k; rename_i a b; rw [ho] at a; cases a; exact ih b
  | update ho _ ih => intro e2 s2 k; cases k; rename_i a b; exact ih b
  | loadIfAlive _ ih => intro e2 s2 k; cases k; rename_i b; exact ih b
  | point _ ih => intro e2 s2 k; cases k; rename_i b; exact ih b
  | alloc _ ih => intro e2 s2 k; cases k; rename_i b; exact ih b
  | fresh _ ih => intro e2 s2 k; cases k; rename_i b; exact ih b
  | ask _ ih => intro e2 s2 k; cases k; rename_i b; exact ih b
  | choose hn _ ih => intro e2 s2 k; cases k; rename_i a b; exact ih b
  | os _ ih => intro e2 s2 k; cases k; rename_i b; exact ih b
  | handled _ ih => intro e2 s2 k; cases k; rename_i b; exact ih b
  | genState hs _ ih => intro e2 s2 k; cases k; rename_i a b; rw [hs] at a; cases a; exact ih b
  | stack _ ih => intro e2 s2 k; cases k; rename_i b; exact ih b
  | thread _ ih => intro e2 s2 k; cases k; rename_i b; exact ih b
  | newGen _ ih => intro e2 s2 k; cases k; rename_i b; exact ih b
  | call _ _ ih1 ih2 =>
    intro e2 s2 k
    cases k with
    | call a b =>
      obtain ⟨x, y⟩ := ih1 a
      cases x; subst y
      exact ih2 b
    | callSusp a => obtain ⟨x, _⟩ := ih1 a; cases x
  | callSusp _ ih =>
    intro e2 s2 k
    cases k with
    | call a b => obtain ⟨x, _⟩ := ih a; cases x
    | callSusp a =>
      obtain ⟨x, y⟩ := ih a
      cases x; subst y
      exact ⟨rfl, rfl⟩
  | resumeFresh hs hr hq _ ih1 ih2 =>
    intro e2 s2 k
    cases k with
    | resumeFresh a b c d =>
      rw [hs] at a; cases a
      obtain ⟨x, y⟩ := ih1 b
      subst x; subst y
      exact ih2 d
    | resumeSuspended a b c d => rw [hs] at a; cases a
    | resumeJustStarted a b c => exact absurd rfl b
    | resumeRunning a b => rw [hs] at a; cases a
    | resumeFinished a b => rw [hs] at a; cases a
  | resumeSuspended hs hr hq _ ih1 ih2 =>
    intro e2 s2 k
    cases k with
    | resumeFresh a b c d => rw [hs] at a; cases a
    | resumeSuspended a b c d =>
      rw [hs] at a; cases a
      obtain ⟨x, y⟩ := ih1 b
      subst x; subst y
      exact ih2 d
    | resumeJustStarted a b c => rw [hs] at a; cases a
    | resumeThrowFresh a b => rw [hs] at a; cases a
    | resumeRunning a b => rw [hs] at a; cases a
    | resumeFinished a b => rw [hs] at a; cases a
  | resumeJustStarted hs hv _ ih =>
    intro e2 s2 k
    cases k with
    | resumeFresh a b c d => exact absurd rfl hv
    | resumeSuspended a b c d => rw [hs] at a; cases a
    | resumeJustStarted a b c => exact ih c
    | resumeRunning a b => rw [hs] at a; cases a
    | resumeFinished a b => rw [hs] at a; cases a
  | resumeThrowFresh hs _ ih =>
    intro e2 s2 k
    cases k with
    | resumeSuspended a b c d => rw [hs] at a; cases a
    | resumeThrowFresh a b => exact ih b
    | resumeRunning a b => rw [hs] at a; cases a
    | resumeFinished a b => rw [hs] at a; cases a
  | resumeRunning hs _ ih =>
    intro e2 s2 k
    cases k with
    | resumeFresh a b c d => rw [hs] at a; cases a
    | resumeSuspended a b c d => rw [hs] at a; cases a
    | resumeJustStarted a b c => rw [hs] at a; cases a
    | resumeThrowFresh a b => rw [hs] at a; cases a
    | resumeRunning a b => exact ih b
    | resumeFinished a b => rw [hs] at a; cases a
  | resumeFinished hs _ ih =>
    intro e2 s2 k
    cases k with
    | resumeFresh a b c d => rw [hs] at a; cases a
    | resumeSuspended a b c d => rw [hs] at a; cases a
    | resumeJustStarted a b c => rw [hs] at a; cases a
    | resumeThrowFresh a b => rw [hs] at a; cases a
    | resumeRunning a b => rw [hs] at a; cases a
    | resumeFinished a b => exact ih b
  | segRet _ _ ih1 ih2 =>
    intro e2 s2 k
    cases k with
    | segRet a b =>
      obtain ⟨x, y⟩ := ih1 a
      cases x; subst y
      exact ih2 b
    | segSuspOut a b => obtain ⟨x, _⟩ := ih1 b; cases x
    | segSuspGen a b c d => obtain ⟨x, _⟩ := ih1 b; cases x
  | segGen _ _ ih1 ih2 =>
    intro e2 s2 k
    cases k with
    | segGen a b =>
      obtain ⟨x, y⟩ := ih1 a
      cases x; subst y
      exact ih2 b
    | segSuspOut a b => obtain ⟨x, _⟩ := ih1 b; cases x
    | segSuspGen a b c d => obtain ⟨x, _⟩ := ih1 b; cases x
  | segSuspOut hn _ ih =>
    intro e2 s2 k
    cases k with
    | segRet a b => obtain ⟨x, _⟩ := ih a; cases x
    | segGen a b => obtain ⟨x, _⟩ := ih a; cases x
    | segSuspOut a b =>
      obtain ⟨x, y⟩ := ih b
      cases x; subst y
      exact ⟨rfl, rfl⟩
    | segSuspGen a b c d => rw [hn] at a; cases a
  | segSuspGen hn _ hq _ ih1 ih2 =>
    intro e2 s2 k
    cases k with
    | segRet a b => obtain ⟨x, _⟩ := ih1 a; cases x
    | segGen a b => obtain ⟨x, _⟩ := ih1 a; cases x
    | segSuspOut a b => rw [hn] at a; cases a
    | segSuspGen a b c d =>
      rw [hn] at a; cases a
      obtain ⟨x, y⟩ := ih1 b
      cases x; subst y
      exact ih2 d
end
theorem wakes_det {M : Model} {Γ : PySem.Ctx} {p : Pos} {g : Nat} {r : Resume} {s s1 s2 : Shared} {a b : GenResult} (h : Wakes M Γ p g r s a s1) (k : Wakes M Γ p g r s b s2) : a = b ∧ s1 = s2 := by
  unfold Wakes at h k
  have two : ∀ {x y : End} {z1 z2 : Shared} {c : Code} {p0 : Pos} {t : Sem PySem.Fin} {fs : List Frame}, Runs M (Γ.wake c p) p0 t fs (s.setGen g .running) x z1 → Runs M (Γ.wake c p) p0 t fs (s.setGen g .running) y z2 → x.result = y.result ∧ z1.setGen g x.genState = z2.setGen g y.genState := fun h1 h2 => by
    obtain ⟨x, y⟩ := runs_det h1 h2
    subst x; subst y
    exact ⟨rfl, rfl⟩
  cases hg : s.gens[g]? with
  | none => rw [hg] at h; exact h.elim
  | some st =>
    rw [hg] at h k
    cases st with
    | running => exact ⟨h.1.trans k.1.symm, h.2.trans k.2.symm⟩
    | finished => exact ⟨h.1.trans k.1.symm, h.2.trans k.2.symm⟩
    | suspended k0 l0 c0 p0 fs0 cl =>
      obtain ⟨e1, z1, r1, _, rfl, rfl⟩ := h
      obtain ⟨e2, z2, r2, _, rfl, rfl⟩ := k
      exact two r1 r2
    | fresh c =>
      cases r with
      | throw x => exact ⟨h.1.trans k.1.symm, h.2.trans k.2.symm⟩
      | send v =>
        cases v with
        | none =>
          obtain ⟨e1, z1, r1, _, rfl, rfl⟩ := h
          obtain ⟨e2, z2, r2, _, rfl, rfl⟩ := k
          exact two r1 r2
        | _ => exact ⟨h.1.trans k.1.symm, h.2.trans k.2.symm⟩
theorem wp_both {α : Type} (M : Model) (Γ : PySem.Ctx) (t : Sem α) : ∀ (Q Q' : α → Pos → Shared → Prop) (E E' : Value → Pos → Shared → Prop) (p : Pos) (s : Shared), wp M Γ t Q E p s → wp M Γ t Q' E' p s → wp M Γ t (fun a p s => Q a p s ∧ Q' a p s) (fun e p s => E e p s ∧ E' e p s) p s := by
  induction t with
  | pure a => intro Q Q' E E' p s h k; exact ⟨h, k⟩
  | raise e => intro Q Q' E E' p s h k; exact ⟨h, k⟩
  | unsupported _ => intro Q Q' E E' p s h _; exact h
  | finish _ => intro Q Q' E E' p s h _; exact h
  | rule _ f ih => intro Q Q' E E' p s h k; exact ih () Q Q' E E' p s h k
  | «at» p' f ih => intro Q Q' E E' p s h k; exact ih () Q Q' E E' p' s h k
  | load a _ f ih =>
    intro Q Q' E E' p s h k
    obtain ⟨o, ho, h⟩ := h
    obtain ⟨o', ho', k⟩ := k
    rw [ho] at ho'; cases ho'
    exact ⟨o, ho, ih o Q Q' E E' p s h k⟩
  | update a _ g f ih => intro Q Q' E E' p s h k; exact ⟨h.1, ih () Q Q' E E' p _ h.2 k.2⟩
  | loadIfAlive a f ih => intro Q Q' E E' p s h k; exact ih _ Q Q' E E' p s h k
  | point _ f ih => intro Q Q' E E' p s h k; exact ih () Q Q' E E' p s h k
  | register _ _ => intro Q Q' E E' p s h _; exact h
  | alloc o f ih => intro Q Q' E E' p s h k; exact ih _ Q Q' E E' p _ h k
  | fresh f ih => intro Q Q' E E' p s h k; exact ih _ Q Q' E E' p _ h k
  | ask f ih => intro Q Q' E E' p s h k; exact ih _ Q Q' E E' p s h k
  | choose src m f ih => intro Q Q' E E' p s h k; exact ⟨h.1, ih _ Q Q' E E' p _ h.2 k.2⟩
  | os q _ f ih => intro Q Q' E E' p s h k; exact ih _ Q Q' E E' p _ h k
  | call c hd _ _ f ih =>
    intro Q Q' E E' p s h k
    obtain ⟨r, s1, hr, h⟩ := h
    obtain ⟨r', s1', hr', k⟩ := k
    obtain ⟨x, y⟩ := runs_det hr hr'
    cases x; subst y
    exact ⟨r, s1, hr, ih r Q Q' E E' p s1 h k⟩
  | handled own f ih => intro Q Q' E E' p s h k; exact ih _ Q Q' E E' p s h k
  | genState g f ih =>
    intro Q Q' E E' p s h k
    obtain ⟨st, hs, h⟩ := h
    obtain ⟨st', hs', k⟩ := k
    rw [hs] at hs'; cases hs'
    exact ⟨st, hs, ih _ Q Q' E E' p s h k⟩
  | newGen c f ih => intro Q Q' E E' p s h k; exact ih _ Q Q' E E' p _ h k
  | resume g r _ f ih =>
    intro Q Q' E E' p s h k
    obtain ⟨res, s1, hw, h⟩ := h
    obtain ⟨res', s1', hw', k⟩ := k
    obtain ⟨x, y⟩ := wakes_det hw hw'
    subst x; subst y
    exact ⟨res, s1, hw, ih res Q Q' E E' p s1 h k⟩
  | yield _ _ _ _ => intro Q Q' E E' p s h _; exact h
  | stack f ih => intro Q Q' E E' p s h k; exact ih _ Q Q' E E' p s h k
  | fork _ _ => intro Q Q' E E' p s h _; exact h
  | thread f ih => intro Q Q' E E' p s h k; exact ih _ Q Q' E E' p s h k
  | await _ _ _ _ _ => intro Q Q' E E' p s h _; exact h
theorem wpAny_both {α : Type} {M : Model} {A : Around} {t : Sem α} {Q Q' : α → Shared → Prop} {E E' : Value → Shared → Prop} {s : Shared} (h : wpAny M A t Q E s) (k : wpAny M A t Q' E' s) : wpAny M A t (fun a s => Q a s ∧ Q' a s) (fun e s => E e s ∧ E' e s) s :=
  fun Γ p hΓ => wp_both M Γ t _ _ _ _ p s (h Γ p hΓ) (k Γ p hΓ)
theorem codeAny_both {M : Model} {A : Around} {c : Code} {R R' : Result → Shared → Prop} {s : Shared} (h : codeAny M A c R s) (k : codeAny M A c R' s) : codeAny M A c (fun r s => R r s ∧ R' r s) s := by
  intro Γ p e w
  obtain ⟨r, s1, h1, h2⟩ := h Γ p e w
  obtain ⟨r', s1', k1, k2⟩ := k Γ p e w
  obtain ⟨x, y⟩ := runs_det h1 k1
  cases x; subst y
  exact ⟨r, s1, h1, h2, k2⟩
end Mn

set_option Elab.async false
set_option linter.all false
set_option maxRecDepth 100000
set_option maxHeartbeats 4000000
set_option autoImplicit false
namespace Mn
open PySem PySem.Spec PyProof.Rows L2 GenW
variable [Tbs]
/-! the same readings, with one thing more: the table of generators stays as it is, and nothing is raised -/
def GE (X : Cx) (e : Expr) (t : TE) : Prop := ∀ (pins : List (Addr × Obj)) (s : Shared) (σ : L2.St) (H : Hp) (Q : VK), Inv X pins σ H s → t σ H Q → wpAny (model X.prog X.w) X.A (eval e X.env) (fun u s' => EP X pins σ Q u s' ∧ s'.gens = s.gens) (fun _ _ => False) s
def GT (X : Cx) (e : Expr) (t : TT) : Prop := ∀ (pins : List (Addr × Obj)) (s : Shared) (σ : L2.St) (H : Hp) (Q : Bool → Hp → Prop), Inv X pins σ H s → t σ H Q → wpAny (model X.prog X.w) X.A (isTrue e X.env (eval e X.env)) (fun b s' => (∃ H', Inv X pins σ H' s' ∧ Q b H') ∧ s'.gens = s.gens) (fun _ _ => False) s
def GS1 (X : Cx) (st : Stmt) (t : TS) : Prop := ∀ (pins : List (Addr × Obj)) (s : Shared) (σ : L2.St) (H : Hp) (D : Ends), Inv X pins σ H s → t D σ H → wpAny (model X.prog X.w) X.A (exec st X.env) (fun f s' => SP X pins D f s' ∧ s'.gens = s.gens) (fun _ _ => False) s
def GSs1 (X : Cx) (st : List Stmt) (t : TS) : Prop := ∀ (pins : List (Addr × Obj)) (s : Shared) (σ : L2.St) (H : Hp) (D : Ends), Inv X pins σ H s → t D σ H → wpAny (model X.prog X.w) X.A (execs st X.env) (fun f s' => SP X pins D f s' ∧ s'.gens = s.gens) (fun _ _ => False) s
section
variable {X : Cx} {e : Expr} {es : List Expr} {pos : Pos} {te : TE} {st : Stmt} {rest : List Stmt} {t u : TS}
/-- from a rule that stands, and the table alone -/
theorem ge_of (h : PE X e te) (g : ∀ (pins : List (Addr × Obj)) (s : Shared) (σ : L2.St) (H : Hp) (Q : VK), Inv X pins σ H s → te σ H Q → wpAny (model X.prog X.w) X.A (eval e X.env) (fun _ s' => s'.gens = s.gens) (fun _ _ => False) s) : GE X e te := fun pins s σ H Q I q =>
  wpAny_mono (wpAny_both (h.run pins s σ H Q I q) (g pins s σ H Q I q)) (fun _ _ z => z) fun _ _ z => z.2
theorem ge_var {i : Nat} {x : Str} (hN : X.N[i]? = some x) (hv : Vis X.env.scope x) (hd : (x == ("__debug__" : Str)) = false := by decide) (hcd : (x == ("__classdict__" : Str)) = false := by decide) : GE X (.Name x pos) (tVar i) := by
  refine ge_of (pe_var hN hv hd hcd) fun pins s σ H Q I h => ?_
  obtain ⟨v, e, h⟩ := h
  obtain ⟨m, hn, hl⟩ := I.loc
  obtain ⟨u, r, l⟩ := hl i x v hN e hv
  rcases l with ⟨hk, hm⟩ | ⟨hk, c, hc, hcell⟩
  · exact wpAny_Name (wpAny_loadName_local I.ok.kind hk hn hm rfl) hd
  · rcases hk with hk | hk
    · exact wpAny_Name (wpAny_loadName_cell I.ok.kind hk hc hcell rfl) hd
    · exact wpAny_Name (wpAny_loadName_free I.ok.kind hk hc hcell rfl hcd) hd
theorem ge_int {i : Int} {j : Nat} : GE X (.Constant (.int i) j pos) (tC (.int i)) := ge_of pe_int fun _ _ _ _ _ _ _ => wpAny_Constant_int rfl
theorem ge_bl {b : Bool} {j : Nat} : GE X (.Constant (.bool b) j pos) (tC (.bl b)) := ge_of pe_bl fun _ _ _ _ _ _ _ => Constant_bool rfl
/-! statements -/
theorem gs1_nil : GSs1 X [] tNext := fun _ _ σ H _ I h => wpAny_execs_nil ⟨⟨σ, H, I, h⟩, rfl⟩
theorem gs1_cons (h1 : GS1 X st t) (h2 : GSs1 X rest u) : GSs1 X (st :: rest) (tSeq t u) := fun pins s σ H D I h => by
  refine wpAny_execs_cons (wpAny_mono (h1 pins s σ H { D with nx := u D } I h) (fun f s1 ⟨q, eg⟩ => ?_) fun _ _ z => z)
  cases f with
  | next =>
    obtain ⟨σ', H', I', q⟩ := q
    exact wpAny_mono (h2 pins s1 σ' H' D I' q) (fun f s2 ⟨z, eg2⟩ => ⟨z, eg2.trans eg⟩) fun _ _ z => z
  | ret v => exact ⟨q, eg⟩
  | brk => exact ⟨q, eg⟩
  | cont => exact ⟨q, eg⟩
theorem gs1_ret (he : GE X e te) : GS1 X (.Return (some e) pos) (tRet te) := fun pins s σ H D I h =>
  wpAny_Return_some (wpAny_mono (he pins s σ H _ I h) (fun v s1 ⟨⟨x, H1, I1, r1, q1⟩, eg⟩ => ⟨⟨x, σ, H1, I1, r1, q1⟩, eg⟩) fun _ _ z => z)
theorem gs1_if {c : Expr} {a b : List Stmt} {tc : TT} (hc : GT X c tc) (ha : GSs1 X a t) (hb : GSs1 X b u) : GS1 X (.If c a b pos) (tIfS tc t u) := fun pins s σ H D I h => by
  refine wpAny_If (wpAny_mono (hc pins s σ H _ I h) (fun d s1 ⟨⟨H1, I1, q1⟩, eg⟩ => ?_) fun _ _ z => z)
  cases d with
  | true => exact wpAny_mono (ha pins s1 σ H1 D I1 q1) (fun f s2 ⟨z, eg2⟩ => ⟨z, eg2.trans eg⟩) fun _ _ z => z
  | false => exact wpAny_mono (hb pins s1 σ H1 D I1 q1) (fun f s2 ⟨z, eg2⟩ => ⟨z, eg2.trans eg⟩) fun _ _ z => z
end
end Mn

set_option Elab.async false
set_option linter.all false
set_option maxRecDepth 100000
set_option maxHeartbeats 4000000
set_option autoImplicit false
namespace Mn
open PySem PySem.Spec PyProof.Rows L2 GenW
variable [Tbs]
/-! arguments, calls, defs, with the table of generators -/
def GA (X : Cx) (es : List Expr) (t : TA) : Prop := ∀ (pos : Pos) (pins : List (Addr × Obj)) (s : Shared) (σ : L2.St) (H : Hp) (Q : List V → Hp → Prop), Inv X pins σ H s → t σ H Q → wpAny (model X.prog X.w) X.A (spliced (backTo pos (starEach es X.env))) (fun us s' => AP X pins σ Q us s' ∧ s'.gens = s.gens) (fun _ _ => False) s
section
variable {X : Cx} {e : Expr} {es : List Expr} {pos : Pos} {te : TE} {ta : TA}
theorem ga_nil : GA X [] tNil := fun _ _ _ _ H Q I h => Calls.spliced_nil ⟨⟨[], H, I, .nil, h⟩, rfl⟩
theorem ga_cons (he : GE X e te) (hr : GA X es ta) (hs : starEach (e :: es) X.env = (false, eval e X.env) :: starEach es X.env := by rfl) : GA X (e :: es) (tCons te ta) := fun pos pins s σ H Q I h => by
  rw [hs]
  refine Calls.spliced_cons (x := eval e X.env) (rest := backTo pos (starEach es X.env)) (wpAny_mono (he pins s σ H _ I h) (fun u s1 ⟨⟨x, H1, I1, r1, q1⟩, eg⟩ => ?_) fun _ _ z => z)
  exact wpAny_mono (hr pos pins s1 σ H1 _ I1 q1) (fun us s2 ⟨⟨xs, H2, I2, r2, q2⟩, eg2⟩ => ⟨⟨x :: xs, H2, I2, .cons r1 r2, q2⟩, eg2.trans eg⟩) fun _ _ z => z
theorem geM {t t' : TE} (h : GE X e t) (i : ∀ s H Q, t' s H Q → t s H Q) : GE X e t' := fun pins s σ H Q I q => h pins s σ H Q I (i _ _ _ q)
theorem gaM {t t' : TA} (h : GA X es t) (i : ∀ s H Q, t' s H Q → t s H Q) : GA X es t' := fun pos pins s σ H Q I q => h pos pins s σ H Q I (i _ _ _ q)
theorem gsM {st : Stmt} {t t' : TS} (h : GS1 X st t) (i : ∀ E s H, t' E s H → t E s H) : GS1 X st t' := fun pins s σ H D I q => h pins s σ H D I (i _ _ _ q)
theorem gssM {st : List Stmt} {t t' : TS} (h : GSs1 X st t) (i : ∀ E s H, t' E s H → t E s H) : GSs1 X st t' := fun pins s σ H D I q => h pins s σ H D I (i _ _ _ q)
end
/-- a def leaves the table as it is -/
def GnF (P : Program) (w : World) (K : PySem.W.Frag) (mg : Str → Option Value) (base : Heap) (k : Nat) (f : Addr) (fd : FuncData) (ps : List Str) (sp : Sp) : Prop :=
  ∀ (A : Around) (outer : List Env) (s : Shared) (H : Hp) (args : Args) (us : List Value) (vs : List V) (Q : VK), Room k A → Env0 P w K mg base A outer s H → BindsTo s fd args (ps.zip us) → Vals vs us → sp vs H Q E0 →
    codeAny (model P w) A (.call (.ref f) args) (fun r s' => CR CX0 outer P w H s Q E0 r s' ∧ s'.gens = s.gens) s
def ClG1 (P : Program) (w : World) (K : PySem.W.Frag) (mg : Str → Option Value) (base : Heap) (x : Str) (k : Nat) (ps : List Str) (d : DSp) : Prop :=
  ∃ f fd, mg x = some (.ref f) ∧ PySem.W.keepIn K (.ref f) = true ∧ Binds K fd ps [] ∧ (∀ ds m Q, d ds m Q → ds.length = ps.length) ∧ GnF P w K mg base k f fd ps (lfSp ⟨K, w, Tbs.T⟩ d)
/-- the context of a def's body that raises nothing -/
abbrev cx1 (P : Program) (w : World) (K : PySem.W.Frag) (mg : Str → Option Value) (base : Heap) (N : List Str) (qual : Str) (scope : Scope) (f : Addr) (cd : Value) (A : Around) (outer : List Env) (s : Shared) (H : Hp) : Cx := cxOf CX0 P w K mg base N qual scope f cd A outer s H E0
theorem gnG {P : Program} {w : World} {K : PySem.W.Frag} {mg : Str → Option Value} {base : Heap} {x : Str} {st : Stmt} {N ps : List Str} {k : Nat} {t : DS} {d : DSp} (h : ∃ f fd, Df K mg x st ps f fd) (S : FnScope N ps (defScope st)) (hl : ∀ ds m Q, d ds m Q → ds.length = ps.length) (hb : Body N.length t d)
    (der : ∀ (f : Addr) (cdv : Value) (A : Around) (outer : List Env) (s : Shared) (H : Hp), Room k (A.deeper (envOfC x (defScope st) s.heap.objs.size f cdv)) → GSs1 (cx1 P w K mg base N x (defScope st) f cdv A outer s H) (defBody st) (lfS ⟨K, w, Tbs.T⟩ (cx1 P w K mg base N x (defScope st) f cdv A outer s H).wx t)) :
    ClG1 P w K mg base x (k + 1) ps d := by
  obtain ⟨f, fd, Dd⟩ := h
  refine ⟨f, fd, Dd.g, Dd.F.kp, Dd.b, hl, fun A outer s H args us vs Q room e0 bd rv hsp => ?_⟩
  obtain ⟨oc, od, kV, doc, pm, an, cdv, ct, osl, rfl, lk, hcd⟩ := Dd.F.ex
  have inK : K.In s.heap := e0.mod.kin.keeps fun b o e => (e0.bs b o e).1
  have noLim : s.heap.NoLimit := e0.mod.nolimit.keeps fun b o e => (e0.bs b o e).1
  have hlv : vs.length = ps.length := by
    obtain ⟨G, ds, m, Qd, rp, rl, q, w⟩ := id hsp
    rw [← rp.len]; exact hl _ _ _ q
  refine codeAny_call_function room.depth (inK _ _ lk) rfl S.co S.gen rfl (PySem.W.codeRec_of inK hcd) (bd _ _ _ _ (wpAny_newFunctionEnv_cells S.kind (fun y hy => ?_) fun env he s1 ic => ?_))
  · obtain ⟨n, v⟩ := y
    exact (S.par n (List.of_mem_zip hy).1).imp (fun q => q) fun q => ⟨q, PySem.W.cellsFrom_some _ _ _ (.inl q)⟩
  · subst he
    refine ⟨noLim.keeps ic.toInCall.keep, codeAny_func ?_⟩
    have g1 : s1.gens = s.gens := by obtain ⟨h1, tk, e, _⟩ := ic.done; rw [e]
    refine wpAny_mono (der f cdv A outer s H (room.deeper _) [] s1 (L2.start N vs) H _ (inv_start S room.hd e0 hlv rv ic) (lfS_start hb hsp)) (fun fl s' ⟨hs, eg⟩ => ?_) fun _ _ z => z.elim
    cases fl with
    | ret u => obtain ⟨v, σ', H', J, r1, q⟩ := hs; exact ⟨⟨v, H', J.os, J.bare, J.base, J.hok, r1, q⟩, eg.trans g1⟩
    | next => obtain ⟨σ', H', J, q⟩ := hs; exact ⟨⟨.non, H', J.os, J.bare, J.base, J.hok, rfl, q⟩, eg.trans g1⟩
    | brk => obtain ⟨_, _, _, q⟩ := hs; exact q.elim
    | cont => obtain ⟨_, _, _, q⟩ := hs; exact q.elim
section
variable {X : Cx} {k : Nat} {ps : List Str} {d : DSp} {x : Str} {p pos : Pos} {e : Expr} {es : List Expr} {tr : DA}
theorem gd_callF (C : ClG1 X.prog X.w X.K X.mg X.base x k ps d) (room : Room k X.A) (hg : Gl X x) (ha : GA X (e :: es) (lfA X.kf tr)) (hdb : (x == ("__debug__" : Str)) = false := by decide) (he : starEach (e :: es) X.env = (false, eval e X.env) :: starEach es X.env := by rfl) (hpl : (backTo pos (starEach es X.env)).any (·.1) = false := by rfl) :
    GE X (.Call (.Name x p) (e :: es) [] pos) (lf X.kf (dCB d tr)) := by
  obtain ⟨f, fd, hm, hk, bd, hl, F⟩ := C
  intro pins s σ H Q I ⟨G, ro, m, Qd, hs, hr, q, w⟩
  have h : lfA X.kf tr σ H fun vs H1 => lfSp X.kf d vs H1 Q E0 := ⟨G, ro, m, _, hs, hr, q, fun vs H1 G1 m1 ds s1 r1 h1 q1 => ⟨G1, ds, m1, Qd, h1, r1, q1, w.after s1⟩⟩
  refine wpAny_Call_Name_kw (ld_glob I hg hm ?_ hdb)
  refine PySem.W.callWith_K (h₀ := X.base) I.ok.mod.kin hk (wpAny_mono (ha pos pins s σ H _ I h) (fun us s1 ⟨⟨vs, H1, I1, rv, q1⟩, eg⟩ => ⟨I1.kIn, ?_⟩) fun _ _ z => z) he hpl
  have hlu : us.length = ps.length := by
    obtain ⟨G1, ds, m1, Q1, rp, _, q2, _⟩ := id q1
    rw [← rv.length, ← rp.len]; exact hl _ _ _ q2
  have bz := bd s1 us I1.kIn (by rw [List.append_nil]; exact hlu)
  rw [List.append_nil] at bz
  refine wpAny_call (codeAny_mono (F X.A X.stack s1 H1 ⟨us, []⟩ us vs Q room I1.env0 bz rv q1) fun res s2 ⟨hq, eg2⟩ => ?_)
  cases res with
  | error e => exact False.elim hq
  | ok fl => cases fl with
    | ret u => exact ⟨I1.after hq, eg2.trans eg⟩
    | next => exact False.elim hq
    | brk => exact False.elim hq
    | cont => exact False.elim hq
/-- data readings -/
theorem gd_var {i : Nat} (h : GE X (.Name x pos) (tVar i)) : GE X (.Name x pos) (lf X.kf (dVar i)) :=
  geM h fun s H Q ⟨G, ro, m, Qd, hs, hr, ⟨d, e, q⟩, w⟩ => let ⟨v, e1, rv⟩ := hs.get i d e; ⟨v, e1, w.now hr rv q⟩
theorem gd_of {e : Expr} {v : V} {d : D} (h : GE X e (tC v)) (r : ∀ G, Rp X.kf G d v) : GE X e (lf X.kf (dC d)) :=
  geM h fun s H Q ⟨G, ro, m, Qd, hs, hr, q, w⟩ => w.now hr (r G) q
theorem gda_nil : GA X [] (lfA X.kf dNil) := gaM ga_nil fun s H Q ⟨G, ro, m, Qd, hs, hr, q, w⟩ => w _ _ _ _ _ Stp.refl hr .nil q
theorem gda_cons {a : Expr} {ta : DT} (ha : GE X a (lf X.kf ta)) (hr : GA X es (lfA X.kf tr)) (hs : starEach (a :: es) X.env = (false, eval a X.env) :: starEach es X.env := by rfl) : GA X (a :: es) (lfA X.kf (dCons ta tr)) := by
  refine gaM (ga_cons ha hr hs) fun s H Q ⟨G, ro, m, Qd, hs, hr, q, w⟩ => ?_
  refine ⟨G, ro, m, _, hs, hr, q, fun v H1 G1 m1 d s1 r1 h1 q1 => ?_⟩
  exact ⟨G1, ro, m1, _, hs.same s1.g, r1, q1, fun vs H2 G2 m2 ds s2 r2 h2 q2 => w _ _ _ _ _ (s1.trans s2) r2 (.cons (h1.same s2.g) h2) q2⟩
end
end Mn

set_option Elab.async false
set_option linter.all false
set_option maxRecDepth 100000
set_option maxHeartbeats 4000000
set_option autoImplicit false
namespace Mn
open PySem PySem.Spec PyProof.Rows L2 GenW
variable [Tbs]
/-! arithmetic, comparisons, and, or, not, with the table of generators -/
section
variable {X : Cx} {a b : Expr} {ta tb : TE} {pos : Pos} {rest : List Expr} {tA tB' : TT}
theorem gbin {R : Value → Shared → Prop} {f : Value → Value → Sem Value} {pins : List (Addr × Obj)} {s : Shared} {σ : L2.St} {H : Hp} {K : V → V → Hp → Prop} (ha : GE X a ta) (hb : GE X b tb) (I : Inv X pins σ H s) (h : ta σ H fun x H1 => tb σ H1 fun y H2 => K x y H2)
    (k : ∀ v u s2 x y H2, Inv X pins σ H2 s2 → s2.gens = s.gens → RelV x v → RelV y u → K x y H2 → wpAny (model X.prog X.w) X.A (f v u) R (fun _ _ => False) s2) :
    wpAny (model X.prog X.w) X.A (eval a X.env) (fun v s1 => wpAny (model X.prog X.w) X.A (eval b X.env) (fun u s2 => wpAny (model X.prog X.w) X.A (f v u) R (fun _ _ => False) s2) (fun _ _ => False) s1) (fun _ _ => False) s :=
  wpAny_mono (ha pins s σ H _ I h) (fun v s1 ⟨⟨x, H1, I1, r1, q1⟩, e1⟩ => wpAny_mono (hb pins s1 σ H1 _ I1 q1) (fun u s2 ⟨⟨y, H2, I2, r2, q2⟩, e2⟩ => k v u s2 x y H2 I2 (e2.trans e1) r1 r2 q2) fun _ _ z => z) fun _ _ z => z
/-- a comparison -/
def GC1 (X : Cx) (op : CmpOp) (a b : Expr) (t : TE) : Prop := ∀ (pins : List (Addr × Obj)) (s : Shared) (σ : L2.St) (H : Hp) (Q : VK), Inv X pins σ H s → t σ H Q →
    wpAny (model X.prog X.w) X.A (eval a X.env) (fun v s1 => wpAny (model X.prog X.w) X.A (eval b X.env) (fun u s2 => wpAny (model X.prog X.w) X.A (compareOp op v u) (fun w s' => EP X pins σ Q w s' ∧ s'.gens = s.gens) (fun _ _ => False) s2) (fun _ _ => False) s1) (fun _ _ => False) s
theorem ge_cmp {op : CmpOp} {t : TE} (h : GC1 X op a b t) (h1 : behindInMarks op b = false := by first | exact nobehind _ (by decide) (by decide) | rfl) : GE X (.Compare a [op] [b] pos) t := fun pins s σ H Q I hw => wpAny_Compare1 (h pins s σ H Q I hw) h1
theorem gt_cmp {op : CmpOp} {t : TE} (h : GC1 X op a b t) (h1 : behindInMarks op b = false := by first | exact nobehind _ (by decide) (by decide) | rfl) : GT X (.Compare a [op] [b] pos) (tB t) := fun pins s σ H Q I hw => by
  refine wpAny_isTrue_Compare1 (wpAny_mono (h pins s σ H _ I hw) (fun v s1 h1 => wpAny_mono h1 (fun u s2 h2 => wpAny_mono h2 (fun c s3 ⟨⟨x, H1, I1, r1, q1⟩, e1⟩ => ?_) fun _ _ z => z) fun _ _ z => z) fun _ _ z => z) h1
  obtain ⟨d, rfl, q⟩ := q1
  cases r1
  exact wpAny_truthy_bool ⟨⟨H1, I1, q⟩, e1⟩
theorem gt_val {e : Expr} {t : TE} (h : GE X e t) (he : ∀ whole, isTrue e X.env whole = (do let v ← whole; standAt e.pos; holding [v] (truthy v)) := by intro _; rfl) : GT X e (tB t) := fun pins s σ H Q I hw => by
  refine isTrue_plain (wpAny_mono (h pins s σ H _ I hw) (fun v s1 ⟨⟨x, H1, I1, r1, q1⟩, e1⟩ => ?_) fun _ _ z => z) (he _)
  obtain ⟨d, rfl, q⟩ := q1
  cases r1
  exact wpAny_truthy_bool ⟨⟨H1, I1, q⟩, e1⟩
/-- a test whatever its whole is -/
def GW1 (X : Cx) (e : Expr) (t : TT) : Prop := ∀ (whole : Sem Value) (pins : List (Addr × Obj)) (s : Shared) (σ : L2.St) (H : Hp) (Q : Bool → Hp → Prop), Inv X pins σ H s → t σ H Q → wpAny (model X.prog X.w) X.A (isTrue e X.env whole) (fun b s' => (∃ H', Inv X pins σ H' s' ∧ Q b H') ∧ s'.gens = s.gens) (fun _ _ => False) s
theorem gt_w {e : Expr} {t : TT} (h : GW1 X e t) : GT X e t := fun pins s σ H Q I q => h _ pins s σ H Q I q
theorem gw_or1 (ha : GT X a tA) : GW1 X (.BoolOp .Or [a] pos) tA := fun wh pins s σ H Q I h => by
  refine isTrue_or (wpAny_mono (ha pins s σ H Q I h) (fun c s1 e => ?_) fun _ _ z => z)
  cases c with
  | false => exact isTrue_or_nil e
  | true => exact e
theorem gw_or (ha : GT X a tA) (hb : GW1 X (.BoolOp .Or (b :: rest) pos) tB') : GW1 X (.BoolOp .Or (a :: b :: rest) pos) (tOr tA tB') := fun wh pins s σ H Q I h => by
  refine isTrue_or (wpAny_mono (ha pins s σ H _ I h) (fun c s1 ⟨⟨H1, I1, q1⟩, e1⟩ => ?_) fun _ _ z => z)
  cases c with
  | true => exact ⟨⟨H1, I1, q1⟩, e1⟩
  | false => exact wpAny_mono (hb wh pins s1 σ H1 Q I1 q1) (fun _ s2 z => ⟨z.1, z.2.trans e1⟩) fun _ _ z => z
theorem gt_not (ha : GT X a tA) : GT X (.UnaryOp .Not a pos) (tNot tA) := fun pins s σ H Q I h => isTrue_not (ha pins s σ H (fun c H1 => Q (!c) H1) I h)
theorem ge_one {op} {t : TE} (h : GE X a t) : GE X (.BoolOp op [a] pos) t := fun pins s σ H Q I hw => BoolOp_one (h pins s σ H Q I hw)
theorem ge_and (ha : GE X a ta) (hb : GE X (.BoolOp .And (b :: rest) pos) tb) : GE X (.BoolOp .And (a :: b :: rest) pos) (tAndV ta tb) := fun pins s σ H Q I h => by
  refine BoolOp_and (wpAny_mono (ha pins s σ H _ I h) (fun v s1 ⟨⟨x, H1, I1, r1, q1⟩, e1⟩ => ?_) fun _ _ z => z)
  obtain ⟨c, rfl, q1⟩ := q1
  cases r1
  refine wpAny_truthy_bool ?_
  cases c with
  | true => exact wpAny_mono (hb pins s1 σ H1 Q I1 q1) (fun _ s2 z => ⟨z.1, z.2.trans e1⟩) fun _ _ z => z
  | false => exact ⟨⟨.bl false, H1, I1, rfl, q1⟩, e1⟩
theorem ge_not (ha : GE X a ta) : GE X (.UnaryOp .Not a pos) (tNotV ta) := fun pins s σ H Q I h => by
  refine UnaryOp_ (wpAny_mono (ha pins s σ H _ I h) (fun v s1 ⟨⟨x, H1, I1, r1, q1⟩, e1⟩ => ?_) fun _ _ z => z)
  obtain ⟨c, rfl, q1⟩ := q1
  cases r1
  exact not_of (wpAny_truthy_bool ⟨⟨.bl (!c), H1, I1, rfl, q1⟩, e1⟩)
theorem ge_ifExp {c : Expr} (hc : GT X c tA) (ha : GE X a ta) (hb : GE X b tb) : GE X (.IfExp c a b pos) (tIf tA ta tb) := fun pins s σ H Q I h => by
  refine wpAny_IfExp (wpAny_mono (hc pins s σ H _ I h) (fun d s1 ⟨⟨H1, I1, q1⟩, e1⟩ => ?_) fun _ _ z => z)
  cases d with
  | true => exact wpAny_mono (ha pins s1 σ H1 Q I1 q1) (fun _ s2 z => ⟨z.1, z.2.trans e1⟩) fun _ _ z => z
  | false => exact wpAny_mono (hb pins s1 σ H1 Q I1 q1) (fun _ s2 z => ⟨z.1, z.2.trans e1⟩) fun _ _ z => z
end
end Mn

set_option Elab.async false
set_option linter.all false
set_option maxRecDepth 100000
set_option maxHeartbeats 4000000
set_option autoImplicit false
namespace Mn
open PySem PySem.Spec PyProof.Rows L2 GenW
variable [Tbs]
/-! operations by their rules; data forms, with the table of generators -/
def OpG (X : Cx) (f : Value → Value → Sem Value) (r : R2) : Prop := ∀ (pins : List (Addr × Obj)) (s : Shared) (σ : L2.St) (H : Hp) (x y : V) (v u : Value) (Q : VK), Inv X pins σ H s → RelV x v → RelV y u → r x y H Q →
    wpAny (model X.prog X.w) X.A (f v u) (fun w s' => EP X pins σ Q w s' ∧ s'.gens = s.gens) (fun _ _ => False) s
def CallG (X : Cx) (f : Value) (r : List V → Hp → VK → Prop) : Prop := ∀ (pins : List (Addr × Obj)) (s : Shared) (σ : L2.St) (H : Hp) (xs : List V) (us : List Value) (Q : VK), Inv X pins σ H s → Vals xs us → r xs H Q →
    wpAny (model X.prog X.w) X.A (call f us) (fun w s' => EP X pins σ Q w s' ∧ s'.gens = s.gens) (fun _ _ => False) s
section
variable {X : Cx} {a b c : Expr} {ta tb tc : DT} {ua ub : DB} {pos : Pos} {rest es : List Expr} {tr : DA}
theorem gtM {e : Expr} {t t' : TT} (h : GT X e t) (i : ∀ s H Q, t' s H Q → t s H Q) : GT X e t' := fun pins s σ H Q I q => h pins s σ H Q I (i _ _ _ q)
theorem gwM {e : Expr} {t t' : TT} (h : GW1 X e t) (i : ∀ s H Q, t' s H Q → t s H Q) : GW1 X e t' := fun wh pins s σ H Q I q => h wh pins s σ H Q I (i _ _ _ q)
theorem gd_op {op : Operator} {r : R2} {dr : DR2} (ho : OpG X (binaryOp op) r) (hc : C2 X.kf r dr) (ha : GE X a (lf X.kf ta)) (hb : GE X b (lf X.kf tb)) : GE X (.BinOp a op b pos) (lf X.kf (dOp dr ta tb)) := fun pins s σ H Q I h =>
  wpAny_BinOp (gbin ha hb I (lfOp hc h) fun v u s2 x y H2 I2 e2 rx ry q => wpAny_mono (ho pins s2 σ H2 x y v u Q I2 rx ry q) (fun _ _ z => ⟨z.1, z.2.trans e2⟩) fun _ _ z => z)
theorem gc_op {op : CmpOp} {r : R2} {dr : DR2} (ho : OpG X (compareOp op) r) (hc : C2 X.kf r dr) (ha : GE X a (lf X.kf ta)) (hb : GE X b (lf X.kf tb)) : GC1 X op a b (lf X.kf (dOp dr ta tb)) := fun pins s σ H Q I h =>
  gbin ha hb I (lfOp hc h) fun v u s2 x y H2 I2 e2 rx ry q => wpAny_mono (ho pins s2 σ H2 x y v u Q I2 rx ry q) (fun _ _ z => ⟨z.1, z.2.trans e2⟩) fun _ _ z => z
theorem gd_cmp {op : CmpOp} {r : R2} {dr : DR2} (ho : OpG X (compareOp op) r) (hc : C2 X.kf r dr) (ha : GE X a (lf X.kf ta)) (hb : GE X b (lf X.kf tb)) (hm : behindInMarks op b = false) : GE X (.Compare a [op] [b] pos) (lf X.kf (dOp dr ta tb)) := ge_cmp (gc_op ho hc ha hb) hm
theorem gdt_val {t : DT} (h : GE X a (lf X.kf t)) (he : ∀ whole, isTrue a X.env whole = (do let v ← whole; standAt a.pos; holding [v] (truthy v)) := by intro _; rfl) : GT X a (lfB X.kf (dTest t)) := gtM (gt_val h he) fun _ _ _ h => lfTest h
theorem gdt_cmp {op : CmpOp} {r : R2} {dr : DR2} (ho : OpG X (compareOp op) r) (hc : C2 X.kf r dr) (ha : GE X a (lf X.kf ta)) (hb : GE X b (lf X.kf tb)) (hm : behindInMarks op b = false) : GT X (.Compare a [op] [b] pos) (lfB X.kf (dTest (dOp dr ta tb))) :=
  gtM (gt_cmp (gc_op ho hc ha hb) hm) fun _ _ _ h => lfTest h
theorem gd_and (ha : GE X a (lf X.kf ta)) (hb : GE X (.BoolOp .And (b :: rest) pos) (lf X.kf tb)) : GE X (.BoolOp .And (a :: b :: rest) pos) (lf X.kf (dAndV ta tb)) := by
  refine geM (ge_and ha hb) fun s H Q ⟨G, ro, m, Qd, hs, hr, q, w⟩ => ?_
  refine ⟨G, ro, m, _, hs, hr, q, fun v H1 G1 m1 d s1 r1 h1 ⟨k, e, q1⟩ => ?_⟩
  subst e
  cases h1
  refine ⟨k, rfl, ?_⟩
  cases k with
  | true => exact ⟨G1, ro, m1, Qd, hs.same s1.g, r1, q1, w.after s1⟩
  | false => exact w _ _ _ _ _ s1 r1 (.bl false) q1
theorem gd_not (ha : GE X a (lf X.kf ta)) : GE X (.UnaryOp .Not a pos) (lf X.kf (dNotV ta)) := by
  refine geM (ge_not ha) fun s H Q ⟨G, ro, m, Qd, hs, hr, q, w⟩ => ?_
  refine ⟨G, ro, m, _, hs, hr, q, fun v H1 G1 m1 d s1 r1 h1 ⟨k, e, q1⟩ => ?_⟩
  subst e
  cases h1
  exact ⟨k, rfl, w _ _ _ _ _ s1 r1 (.bl (!k)) q1⟩
theorem gdw_or (ha : GT X a (lfB X.kf ua)) (hb : GW1 X (.BoolOp .Or (b :: rest) pos) (lfB X.kf ub)) : GW1 X (.BoolOp .Or (a :: b :: rest) pos) (lfB X.kf (dOr ua ub)) := by
  refine gwM (gw_or ha hb) fun s H Q ⟨G, ro, m, Qd, hs, hr, q, w⟩ => ?_
  refine ⟨G, ro, m, _, hs, hr, q, fun k H1 G1 m1 s1 r1 q1 => ?_⟩
  cases k with
  | false => exact ⟨G1, ro, m1, Qd, hs.same s1.g, r1, q1, fun b H' G' m' s' r' q' => w b H' G' m' (s1.trans s') r' q'⟩
  | true => exact w _ _ _ _ s1 r1 q1
theorem gdt_not (ha : GT X a (lfB X.kf ua)) : GT X (.UnaryOp .Not a pos) (lfB X.kf (dNot ua)) := by
  refine gtM (gt_not ha) fun s H Q ⟨G, ro, m, Qd, hs, hr, q, w⟩ => ?_
  exact ⟨G, ro, m, _, hs, hr, q, fun k H1 G1 m1 s1 r1 q1 => w _ _ _ _ s1 r1 q1⟩
theorem gd_if (hc : GT X c (lfB X.kf ua)) (ha : GE X a (lf X.kf ta)) (hb : GE X b (lf X.kf tb)) : GE X (.IfExp c a b pos) (lf X.kf (dIf ua ta tb)) := by
  refine geM (ge_ifExp hc ha hb) fun s H Q ⟨G, ro, m, Qd, hs, hr, q, w⟩ => ?_
  refine ⟨G, ro, m, _, hs, hr, q, fun k H1 G1 m1 s1 r1 q1 => ?_⟩
  cases k with
  | true => exact ⟨G1, ro, m1, Qd, hs.same s1.g, r1, q1, w.after s1⟩
  | false => exact ⟨G1, ro, m1, Qd, hs.same s1.g, r1, q1, w.after s1⟩
end
end Mn

set_option Elab.async false
set_option linter.all false
set_option maxRecDepth 100000
set_option maxHeartbeats 4000000
set_option autoImplicit false
namespace Mn
open PySem PySem.Spec PyProof.Rows L2 GenW
variable [Tbs]
/-! operations on ints, chains, displays, with the table of generators -/
section
variable {X : Cx} {a b c : Expr} {ta tb tc : DT} {pos : Pos}
theorem og_i {f : Value → Value → Sem Value} {C : Int → Int → Prop} {g : Int → Int → Int} (rule : ∀ (i j : Int) (t u : Tok) (s : Shared) (Q : Value → Shared → Prop) (E : Value → Shared → Prop), C i j → Q (.int (g i j) s.toks) { s with toks := s.toks + 1 } → wpAny (model X.prog X.w) X.A (f (.int i t) (.int j u)) Q E s) :
    OpG X f (rI C fun i j => .int (g i j)) := fun pins s σ H x y v u Q I rx ry h => by
  obtain ⟨i, j, rfl, rfl, hc, q⟩ := h
  obtain ⟨t, rfl⟩ := rx
  obtain ⟨t', rfl⟩ := ry
  exact rule i j t t' s _ _ hc ⟨⟨.int (g i j), H, I.tok _, ⟨_, rfl⟩, q⟩, rfl⟩
theorem og_i0 {f : Value → Value → Sem Value} {g : Int → Int → Int} (rule : ∀ (i j : Int) (t u : Tok) (s : Shared) (Q : Value → Shared → Prop) (E : Value → Shared → Prop), Q (.int (g i j) s.toks) { s with toks := s.toks + 1 } → wpAny (model X.prog X.w) X.A (f (.int i t) (.int j u)) Q E s) :
    OpG X f (rI0 fun i j => .int (g i j)) := fun pins s σ H x y v u Q I rx ry h => by
  obtain ⟨i, j, rfl, rfl, q⟩ := h
  obtain ⟨t, rfl⟩ := rx
  obtain ⟨t', rfl⟩ := ry
  exact rule i j t t' s _ _ ⟨⟨.int (g i j), H, I.tok _, ⟨_, rfl⟩, q⟩, rfl⟩
theorem og_b0 {f : Value → Value → Sem Value} {g : Int → Int → Bool} (rule : ∀ (i j : Int) (t u : Tok) (s : Shared) (Q : Value → Shared → Prop) (E : Value → Shared → Prop), Q (.bool (g i j)) s → wpAny (model X.prog X.w) X.A (f (.int i t) (.int j u)) Q E s) :
    OpG X f (rI0 fun i j => .bl (g i j)) := fun pins s σ H x y v u Q I rx ry h => by
  obtain ⟨i, j, rfl, rfl, q⟩ := h
  obtain ⟨t, rfl⟩ := rx
  obtain ⟨t', rfl⟩ := ry
  exact rule i j t t' s _ _ ⟨⟨.bl (g i j), H, I, rfl, q⟩, rfl⟩
theorem og_sub : OpG X (binaryOp .Sub) (rI0 fun i j => .int (i - j)) := og_i0 fun _ _ _ _ _ _ _ q => sub_int q
theorem og_mul : OpG X (binaryOp .Mult) (rI CMul fun i j => .int (i * j)) := og_i fun _ _ _ _ _ _ _ hc q => mul_int q hc.ok
theorem og_le : OpG X (compareOp .LtE) (rI0 fun i j => .bl (decide (i ≤ j))) := og_b0 fun _ _ _ _ _ _ _ q => le_int q
theorem og_gt : OpG X (compareOp .Gt) (rI0 fun i j => .bl (decide (j < i))) := og_b0 fun _ _ _ _ _ _ _ q => gt_int q
theorem OpG.or {f : Value → Value → Sem Value} {r r' : R2} (h : OpG X f r) (h' : OpG X f r') : OpG X f (fun x y H Q => r x y H Q ∨ r' x y H Q) := fun pins s σ H x y v u Q I rx ry q => q.elim (h pins s σ H x y v u Q I rx ry) (h' pins s σ H x y v u Q I rx ry)
theorem gd_chain {op op' : CmpOp} {r r' : R2} {dr dr' : DR2} (ho : OpG X (compareOp op) r) (ho' : OpG X (compareOp op') r') (hc : C2 X.kf r dr) (hc' : C2 X.kf r' dr') (ha : GE X a (lf X.kf ta)) (hb : GE X b (lf X.kf tb)) (hz : GE X c (lf X.kf tc))
    (h1 : lastMarks [op, op'] [b, c] = false := by rfl) : GE X (.Compare a [op, op'] [b, c] pos) (lf X.kf (dChain dr dr' ta tb tc)) := fun pins s σ H Q I h => by
  refine Compare_chain (wpAny_mono (ha pins s σ H _ I (lfChain hc hc' h)) (fun v s1 ⟨⟨x, H1, I1, r1, q1⟩, e1⟩ => chain_link (wpAny_mono (hb pins s1 σ H1 _ I1 q1) (fun u s2 ⟨⟨y, H2, I2, r2, q2⟩, e2⟩ =>
    wpAny_mono (ho pins s2 σ H2 x y v u _ I2 r1 r2 q2) (fun d s3 ⟨⟨z, H3, I3, r3, k, e, q3⟩, e3⟩ => ?_) fun _ _ z => z) fun _ _ z => z)) fun _ _ z => z) h1
  subst e
  cases r3
  refine wpAny_truthy_bool ?_
  cases k with
  | false => exact ite_ff ⟨⟨.bl false, H3, I3, rfl, q3⟩, e3.trans (e2.trans e1)⟩
  | true => exact ite_tt (chain_last (wpAny_mono (hz pins s3 σ H3 _ I3 q3) (fun w' s4 ⟨⟨z', H4, I4, r4, q4⟩, e4⟩ => wpAny_mono (ho' pins s4 σ H4 y z' u w' Q I4 r2 r4 q4) (fun _ _ z => ⟨z.1, z.2.trans (e4.trans (e3.trans (e2.trans e1)))⟩) fun _ _ z => z) fun _ _ z => z))
end
end Mn

set_option Elab.async false
set_option linter.all false
set_option maxRecDepth 100000
set_option maxHeartbeats 4000000
set_option autoImplicit false
namespace Mn
open PySem PySem.Spec PyProof.Rows L2 GenW
variable [Tbs]
/-! tests of chains; x[i] with a written number, with the table of generators -/
section
variable {X : Cx} {a b c : Expr} {ta tb tc : DT} {pos : Pos}
theorem gdt_chain {op op' : CmpOp} {r r' : R2} {dr dr' : DR2} (ho : OpG X (compareOp op) r) (ho' : OpG X (compareOp op') r') (hc : C2 X.kf r dr) (hc' : C2 X.kf r' dr') (ha : GE X a (lf X.kf ta)) (hb : GE X b (lf X.kf tb)) (hz : GE X c (lf X.kf tc))
    (h1 : lastMarks [op, op'] [b, c] = false := by rfl) : GT X (.Compare a [op, op'] [b, c] pos) (lfB X.kf (dTest (dChain dr dr' ta tb tc))) := fun pins s σ H Q I h => by
  have h2 := lfChain hc hc' (lfTest h)
  refine isTrue_chain (wpAny_mono (ha pins s σ H _ I h2) (fun v s1 ⟨⟨x, H1, I1, r1, q1⟩, e1⟩ => test_link (wpAny_mono (hb pins s1 σ H1 _ I1 q1) (fun u s2 ⟨⟨y, H2, I2, r2, q2⟩, e2⟩ =>
    wpAny_mono (ho pins s2 σ H2 x y v u _ I2 r1 r2 q2) (fun d s3 ⟨⟨z, H3, I3, r3, k, e, q3⟩, e3⟩ => ?_) fun _ _ z => z) fun _ _ z => z)) fun _ _ z => z) h1
  subst e
  cases r3
  refine wpAny_truthy_bool ?_
  cases k with
  | false =>
    obtain ⟨k', e', q'⟩ := q3
    cases e'
    exact ite_ff ⟨⟨H3, I3, q'⟩, e3.trans (e2.trans e1)⟩
  | true =>
    refine ite_tt (test_last (wpAny_mono (hz pins s3 σ H3 _ I3 q3) (fun w' s4 ⟨⟨z', H4, I4, r4, q4⟩, e4⟩ => wpAny_mono (ho' pins s4 σ H4 y z' u w' _ I4 r2 r4 q4) (fun d' s5 ⟨⟨z2, H5, I5, r5, k2, ek, q5⟩, e5⟩ => ?_) fun _ _ z => z) fun _ _ z => z))
    subst ek
    cases r5
    exact wpAny_truthy_bool ⟨⟨H5, I5, q5⟩, e5.trans (e4.trans (e3.trans (e2.trans e1)))⟩
end
end Mn

set_option Elab.async false
set_option linter.all false
set_option maxRecDepth 100000
set_option maxHeartbeats 4000000
set_option autoImplicit false
namespace Mn
open PySem PySem.Spec PyProof.Rows L2 GenW
variable [Tbs]
section
variable {X : Cx} {a : Expr} {ta : DT} {pos p2 : Pos} {i : Int} {j : Nat}
theorem gd_ixI (hi : 0 ≤ i) (hu : X.A.units + 65 < cLine) (hp : PD X a ta) (ha : GE X a (lf X.kf ta)) : GE X (.Subscript a (.Constant (.int i) j p2) pos) (lf X.kf (dOp aIx ta (dC (.int i)))) := by
  refine ge_of (pd_ix hu hp pd_int) fun pins s σ H Q I h => ?_
  have h2 := lfOp c2_ix h
  refine Subscript_ (wpAny_mono (ha pins s σ H _ I h2) (fun v s1 ⟨⟨x, H1, I1, r1, q1⟩, e1⟩ => ?_) fun _ _ z => z)
  obtain ⟨G, ro, m, Qd, hs, hr, q, w⟩ := q1
  have q3 := w.now hr (.int i) q
  have I2 := I1.tok (s1.toks + 1)
  refine wpAny_Constant_int ?_
  have hn := line63
  rcases q3 with ⟨p, xs, i', z, e, ei, hq, he, _⟩ | ⟨p, xs, i', z, e, ei, hq, he, _⟩ | ⟨p, xs, k, b, z, e, ei, _⟩
  · subst e
    cases ei
    obtain rfl : v = Value.ref p := r1
    obtain ⟨its, r, pl, hz⟩ := I2.list hq
    obtain ⟨j', h1, h2', h3, h4, h5⟩ := atI_get he
    obtain ⟨w', ew, _⟩ := r.get h2'
    have hl := r.length
    have hj : i.toNat = j' := by
      rw [seqIndex_of hi h5] at h1
      exact Option.some.inj h1
    exact item_listR pl.isList hi (by omega) (by rw [hj]; simpa using ew) e1 rfl
  · subst e
    cases ei
    obtain rfl : v = Value.ref p := r1
    obtain ⟨its, r, pl, hz⟩ := I2.tuple hq
    obtain ⟨j', h1, h2', h3, h4, h5⟩ := atI_get he
    obtain ⟨w', ew, _⟩ := r.get h2'
    have hl := r.length
    exact subscriptTail_builtinR (x := w') pl.typeIs slot_tuple_getitem.lookup
      (getItem_tuple (j := j') (Q := fun r s' => r = w' ∧ s'.gens = s.gens) pl (by omega) (by omega) (by rw [List.size_toArray, ← hl]; exact h1) (by simpa using ew) ⟨rfl, e1⟩) rfl
  · cases ei
end
end Mn

set_option Elab.async false
set_option linter.all false
set_option maxRecDepth 100000
set_option maxHeartbeats 4000000
set_option autoImplicit false
namespace Mn
open PySem PySem.Spec PyProof.Rows L2 GenW
variable [Tbs]
/-! == and !=, len, all, max, isinstance, with the table of generators -/
section
variable {X : Cx} {a b c : Expr} {ta tb tc : DT} {pos p p2 : Pos} {e : Expr} {es : List Expr} {tr : DA}
theorem og_of {f : Value → Value → Sem Value} {r : R2} (h : OpR X f r) (g : ∀ (pins : List (Addr × Obj)) (s : Shared) (σ : L2.St) (H : Hp) (x y : V) (v u : Value) (Q : VK), Inv X pins σ H s → RelV x v → RelV y u → r x y H Q → wpAny (model X.prog X.w) X.A (f v u) (fun _ s' => s'.gens = s.gens) (fun _ _ => False) s) : OpG X f r := fun pins s σ H x y v u Q I rx ry q =>
  wpAny_mono (wpAny_both (h pins s σ H x y v u Q I rx ry q) (g pins s σ H x y v u Q I rx ry q)) (fun _ _ z => z) fun _ _ z => z.2
theorem cg_of {f : Value} {r : List V → Hp → VK → Prop} (h : CallR X f r) (g : ∀ (pins : List (Addr × Obj)) (s : Shared) (σ : L2.St) (H : Hp) (xs : List V) (us : List Value) (Q : VK), Inv X pins σ H s → Vals xs us → r xs H Q → wpAny (model X.prog X.w) X.A (call f us) (fun _ s' => s'.gens = s.gens) (fun _ _ => False) s) : CallG X f r := fun pins s σ H xs us Q I rx q =>
  wpAny_mono (wpAny_both (h pins s σ H xs us Q I rx q) (g pins s σ H xs us Q I rx q)) (fun _ _ z => z) fun _ _ z => z.2
theorem og_eq : OpG X (compareOp .Eq) rEq := og_of op_eq fun pins s σ H x y v u Q I rx ry ⟨hs, q⟩ => by
  cases x with
  | non =>
    cases rx
    cases y with
    | non => cases ry; exact PySem.EqNone.eq_none_none rfl
    | bl j => cases ry; exact PySem.EqNone.eq_none_bool rfl
    | int j => obtain ⟨t', rfl⟩ := ry; exact PySem.EqNone.eq_none_int rfl
    | str j => obtain ⟨t', rfl⟩ := ry; exact PySem.EqNone.eq_none_str rfl
    | _ => cases hs
  | bl i =>
    cases rx
    cases y with
    | non => cases ry; exact PySem.EqNone.eq_bool_none rfl
    | bl j => cases ry; exact eq_bool rfl
    | str j => obtain ⟨t', rfl⟩ := ry; exact PySem.EqMixed.eq_bool_str rfl
    | _ => cases hs
  | int i =>
    obtain ⟨t, rfl⟩ := rx
    cases y with
    | non => cases ry; exact PySem.EqNone.eq_int_none rfl
    | int j => obtain ⟨t', rfl⟩ := ry; exact eq_int rfl
    | str j => obtain ⟨t', rfl⟩ := ry; exact PySem.EqMixed.eq_int_str rfl
    | _ => cases hs
  | str i =>
    obtain ⟨t, rfl⟩ := rx
    cases y with
    | non => cases ry; exact PySem.EqNone.eq_str_none rfl
    | bl j => cases ry; exact PySem.EqMixed.eq_str_bool rfl
    | int j => obtain ⟨t', rfl⟩ := ry; exact PySem.EqMixed.eq_str_int rfl
    | str j => obtain ⟨t', rfl⟩ := ry; exact eq_str rfl
    | _ => cases hs
  | byt i =>
    obtain ⟨t, rfl⟩ := rx
    cases y with
    | byt j => obtain ⟨t', rfl⟩ := ry; exact PySem.W.eq_bytes rfl
    | _ => cases hs
  | _ => cases y <;> cases hs
theorem og_ne : OpG X (compareOp .NotEq) rNe := og_of op_ne fun pins s σ H x y v u Q I rx ry ⟨hs, q⟩ => by
  cases x with
  | non =>
    cases rx
    cases y with
    | non => cases ry; exact PySem.EqNone.ne_none_none rfl
    | bl j => cases ry; exact PySem.EqNone.ne_none_bool rfl
    | int j => obtain ⟨t', rfl⟩ := ry; exact PySem.EqNone.ne_none_int rfl
    | str j => obtain ⟨t', rfl⟩ := ry; exact PySem.EqNone.ne_none_str rfl
    | _ => cases hs
  | bl i =>
    cases rx
    cases y with
    | non => cases ry; exact PySem.EqNone.ne_bool_none rfl
    | bl j => cases ry; exact ne_bool rfl
    | str j => obtain ⟨t', rfl⟩ := ry; exact PySem.EqMixed.ne_bool_str rfl
    | _ => cases hs
  | int i =>
    obtain ⟨t, rfl⟩ := rx
    cases y with
    | non => cases ry; exact PySem.EqNone.ne_int_none rfl
    | int j => obtain ⟨t', rfl⟩ := ry; exact ne_int rfl
    | str j => obtain ⟨t', rfl⟩ := ry; exact PySem.EqMixed.ne_int_str rfl
    | _ => cases hs
  | str i =>
    obtain ⟨t, rfl⟩ := rx
    cases y with
    | non => cases ry; exact PySem.EqNone.ne_str_none rfl
    | bl j => cases ry; exact PySem.EqMixed.ne_str_bool rfl
    | int j => obtain ⟨t', rfl⟩ := ry; exact PySem.EqMixed.ne_str_int rfl
    | str j => obtain ⟨t', rfl⟩ := ry; exact ne_str rfl
    | _ => cases hs
  | byt i =>
    obtain ⟨t, rfl⟩ := rx
    cases y with
    | byt j => obtain ⟨t', rfl⟩ := ry; exact PySem.W.ne_bytes rfl
    | _ => cases hs
  | _ => cases y <;> cases hs
theorem og_eqD (hu : X.A.units + 64 < cLine) : OpG X (compareOp .Eq) (rEqD X.K) := og_of (op_eqD hu) fun pins s σ H x y v u Q I rx ry ⟨d, e, hd, he, sd, se, q⟩ => by
  obtain ⟨as, r1⟩ := Dp.reads I d x v hd rx
  obtain ⟨bs, r2⟩ := Dp.reads I e y u he ry
  exact SeqAt.compareEq_shaped r1 r2 sd se hu rfl
theorem og_neD (hu : X.A.units + 64 < cLine) : OpG X (compareOp .NotEq) (rNeD X.K) := og_of (op_neD hu) fun pins s σ H x y v u Q I rx ry ⟨d, e, hd, he, sd, se, q⟩ => by
  obtain ⟨as, r1⟩ := Dp.reads I d x v hd rx
  obtain ⟨bs, r2⟩ := Dp.reads I e y u he ry
  exact SeqAt.compareNe_shaped r1 r2 sd se hu rfl
theorem og_eqA (hu : X.A.units + 64 < cLine) : OpG X (compareOp .Eq) (rEqA X.kf) := og_eq.or (og_eqD hu)
theorem og_neA (hu : X.A.units + 64 < cLine) : OpG X (compareOp .NotEq) (rNeA X.kf) := og_ne.or (og_neD hu)
/-- f(x, ..) of a built-in def -/
theorem gd_callB {x : Str} {id : String} {r : List V → Hp → VK → Prop} {dr : DRL} (hcr : CallG X (.builtin id) r) (hc : CL X.kf r dr) (hg : Gl X x) (hm : X.mg x = none) (hv : bootBuiltins x = some (.builtin id)) (ha : GA X (a :: es) (lfA X.kf tr)) (hn : x ≠ "__name__" := by decide) (hdb : (x == ("__debug__" : Str)) = false := by decide)
    (he : starEach (a :: es) X.env = (false, eval a X.env) :: starEach es X.env := by rfl) (hpl : (backTo pos (starEach es X.env)).any (·.1) = false := by rfl) : GE X (.Call (.Name x p) (a :: es) [] pos) (lf X.kf (dCB dr tr)) := fun pins s σ H Q I ⟨G, ro, m, Qd, hs, hr, q, w⟩ => by
  have h : lfA X.kf tr σ H fun vs H1 => r vs H1 Q := ⟨G, ro, m, _, hs, hr, q, fun vs H1 G1 m1 ds s1 r1 h1 q1 => hc _ _ _ _ _ _ _ r1 h1 q1 (w.after s1)⟩
  refine wpAny_Call_Name_kw (ld_blt I hg hm hv ?_ hn hdb)
  exact PyProof.Rows.callWith_builtin1 (wpAny_mono (ha pos pins s σ H _ I h) (fun us s1 ⟨⟨vs, H1, I1, r1, q1⟩, e1⟩ => wpAny_mono (hcr pins s1 σ H1 vs us Q I1 r1 q1) (fun _ _ z => ⟨z.1, z.2.trans e1⟩) fun _ _ z => z) fun _ _ z => z) he hpl
theorem cg_len : CallG X (.builtin "len") (fun xs H Q => (∃ p ys, xs = [.ref p] ∧ (SqL X.kf H p ys ∨ SqT X.kf H p ys) ∧ Q (.int ys.length) H) ∨ ∃ z, xs = [.str z] ∧ z.length ≤ sizeLine ∧ Q (.int z.length) H) := cg_of callR_len fun pins s σ H xs us Q I r h => by
  have hn := line63
  rcases h with ⟨p, ys, rfl, hq, q⟩ | ⟨z, rfl, hz, q⟩
  · obtain ⟨u, rfl, rx⟩ := vals1 r
    cases rx
    rcases hq with hq | hq
    · obtain ⟨its, r', pl, hz⟩ := I.list hq
      exact Calls.call_len_list pl.isList (by have := r'.length; simp only [List.size_toArray]; omega) rfl
    · obtain ⟨its, r', pl, hz⟩ := I.tuple hq
      exact len_tuple pl (by have := r'.length; simp only [List.size_toArray]; omega) rfl
  · obtain ⟨u, rfl, t, rfl⟩ := vals1 r
    exact len_str (by omega) rfl
theorem cg_all (hc : X.calm = true) : CallG X (.builtin "all") (rAll X.kf) := cg_of (cr_all hc) fun pins s σ H vs us Q I r ⟨a, bs, ev, hs, q⟩ => by
  subst ev
  obtain ⟨its, rv, hl, _⟩ := I.list hs
  rw [Vals.ref1 r]
  refine call_all_walk (iter_any hl.isList fun s₂ e2 st hne => ?_)
  subst e2
  refine ⟨_, _, _, _, _, _, _, rfl, Walks.list (A := X.A.in1) (I.ok.hd hc) _ a hne its.toArray, st, truth_bools rv.bls, fun h' tk hk => rfl⟩
theorem cg_max (hc : X.calm = true) (hu : X.A.units + 64 < cLine) : CallG X (.builtin "max") (fun xs H Q => (∃ i j, xs = [.int i, .int j] ∧ Q (.int (if j > i then j else i)) H) ∨ rMaxT X.kf xs H Q) := cg_of (callR_max hc hu) fun pins s σ H vs us Q I r h => by
  rcases h with ⟨i, j, rfl, q⟩ | ⟨a, n, ns, rfl, hs, q⟩
  · obtain ⟨u, w', rfl, ⟨t, rfl⟩, ⟨t', rfl⟩⟩ := vals2 r
    exact max_two_ints (I.ok.hd hc) fun h' tk k => rfl
  · rw [Vals.ref1 r]
    have hd : X.A.units + 1 + PyData.depthAll (PyData.int n :: ns.map PyData.int) < cLine := by
      have z := depth_ints (n :: ns)
      rw [List.map_cons] at z
      omega
    rcases hs with hs | hs
    · obtain ⟨its, rv, hl, _⟩ := I.list hs
      obtain ⟨as, hr⟩ := Dp.readsAll I _ _ its (dp_ints (n :: ns)) rv
      exact PySem.W.max_list_data (I.ok.hd hc) hl.isList hr (alike_ints (n :: ns)) hd fun i v h' tk bs hv rd hk => rfl
    · obtain ⟨its, rv, hl, _⟩ := I.tuple hs
      obtain ⟨as, hr⟩ := Dp.readsAll I _ _ its (dp_ints (n :: ns)) rv
      exact PySem.W.max_tuple_data (I.ok.hd hc) (show s.heap.IsTuple a its.toArray from hl) hr (alike_ints (n :: ns)) hd fun i v h' tk bs hv rd hk => rfl
theorem cg_isi : CallG X (.builtin "isinstance") (rIsiD X.kf) := cg_of call_isiD fun pins s σ H xs us Q I r ⟨x, c, t, u, b, ex, k, ty, e, q⟩ => by
  subst ex
  obtain ⟨u1, u2, rfl, r1, r2⟩ := vals2 r
  have e2 := k.eq r2
  subst e2
  cases ty with
  | x ty =>
    obtain ⟨P, Z, p, hx⟩ := kit_of I r1 ty
    exact PySem.W.kia_one Z I.kIn p e hx fun tk => rfl
  | d hq =>
    cases (show u1 = Value.ref _ from r1)
    obtain ⟨P, Z, p, hx⟩ := kit_ext I hq
    exact PySem.W.kia_one Z I.kIn p e hx fun tk => rfl
end
end Mn

set_option Elab.async false
set_option linter.all false
set_option maxRecDepth 100000
set_option maxHeartbeats 4000000
set_option autoImplicit false
namespace Mn
open PySem PySem.Spec PyProof.Rows L2 PySem.W
variable [Tbs]
/-! a, *b = xs; *b, a = xs -/
section
variable {X : Cx} {pins : List (Addr × Obj)} {σ : L2.St} {H : Hp} {s : Shared}
end
section
variable {X : Cx} {e1 e2 : Expr} {p pos : Pos} {k : Nat}
/-! over data -/
variable {te : DT} {e : Expr} {i j : Nat} {y1 y2 : Str} {p1 p2 : Pos}
end
end Mn

set_option Elab.async false
set_option linter.all false
set_option maxRecDepth 100000
set_option maxHeartbeats 4000000
set_option autoImplicit false
namespace Mn
open PySem PySem.Spec PyProof.Rows L2 GenW
variable [Tbs]
/-! targets, displays, more statements, with the table of generators -/
def GG1 (X : Cx) (target : Expr) (t : TG) : Prop := ∀ (pins : List (Addr × Obj)) (s : Shared) (σ : L2.St) (H : Hp) (v : V) (u : Value) (Q : L2.St → Hp → Prop), Inv X pins σ H s → RelV v u → t v σ H Q →
    wpAny (model X.prog X.w) X.A (assign target X.env u) (fun _ s' => (∃ σ' H', Inv X pins σ' H' s' ∧ Q σ' H') ∧ s'.gens = s.gens) (fun _ _ => False) s
def GGs1 (X : Cx) (ts : List Expr) (t : TGs) : Prop := ∀ (pins : List (Addr × Obj)) (s : Shared) (σ : L2.St) (H : Hp) (vs : List V) (us : List Value) (Q : L2.St → Hp → Prop), Inv X pins σ H s → Vals vs us → t vs σ H Q →
    wpAny (model X.prog X.w) X.A (assignInOrder ((assignEach ts X.env).map (·.2)) us) (fun _ s' => (∃ σ' H', Inv X pins σ' H' s' ∧ Q σ' H') ∧ s'.gens = s.gens) (fun _ _ => False) s
section
variable {X : Cx} {a b c e : Expr} {ta tb tc te : DT} {pos p p2 : Pos} {es : List Expr} {tr : DA}
/-- a store alone: the table stays -/
theorem store_g {pins : List (Addr × Obj)} {σ : L2.St} {H : Hp} {s : Shared} {i : Nat} {x : Str} {u : Value} (I : Inv X pins σ H s) (hi : X.N[i]? = some x) (hx : Loc X.env.scope x) (hf : X.fn x = true ∨ X.env.scope.names.lookup x = some .local) :
    wpAny (model X.prog X.w) X.A (storeName X.env x u) (fun _ s' => s'.gens = s.gens) (fun _ _ => False) s := by
  obtain ⟨m, hn, hl⟩ := id I.loc
  rcases hx with hk | hk
  · exact wpAny_storeName_local hk hn (fun h' hn' hs => rfl) (by rw [I.ok.kind]; rfl)
  · have hfn : X.fn x = true := hf.elim id fun z => by rw [z] at hk; cases hk
    obtain ⟨c, hc⟩ := I.ok.has x (.inl hk)
    obtain ⟨w', z⟩ := I.cell x c hc
    exact wpAny_storeName_cell I.ok.kind hk hc z (fun h' hc' hs => rfl)
theorem gg_name {i : Nat} {x : Str} (hN : X.N.Nodup) (hi : X.N[i]? = some x) (hx : Loc X.env.scope x) (hf : X.fn x = true ∨ X.env.scope.names.lookup x = some .local := by first | exact .inl rfl | exact .inr rfl | assumption) : GG1 X (.Name x pos) (gName i) := fun pins s σ H v u Q I r h =>
  wpAny_assign_Name (wpAny_mono (wpAny_both (E := fun _ _ => False) (store_ok (Q := fun _ s' => ∃ σ' H', Inv X pins σ' H' s' ∧ Q σ' H') I hN hi hx r (fun s' I' => ⟨_, H, I', h⟩) hf) (store_g I hi hx hf)) (fun _ _ z => z) fun _ _ z => z.2)
theorem ggs_nil : GGs1 X [] gNil := fun pins s σ H vs us Q I r h => by
  obtain ⟨e, h⟩ := h
  subst e
  cases r
  exact assignInOrder_nil ⟨⟨σ, H, I, h⟩, rfl⟩
theorem ggs_cons {t : TG} {u : TGs} (h1 : GG1 X e t) (h2 : GGs1 X es u) (hs : (assignEach (e :: es) X.env).map (·.2) = assign e X.env :: (assignEach es X.env).map (·.2) := by rfl) : GGs1 X (e :: es) (gCons t u) := fun pins s σ H vs us Q I r h => by
  obtain ⟨v, vr, e1, h⟩ := h
  subst e1
  cases r with
  | cons r rr =>
    rw [hs]
    exact assignInOrder_cons (wpAny_mono (h1 pins s σ H _ _ _ I r h) (fun _ s1 ⟨⟨σ1, H1, I1, q1⟩, e1⟩ => wpAny_mono (h2 pins s1 σ1 H1 _ _ Q I1 rr q1) (fun _ _ z => ⟨z.1, z.2.trans e1⟩) fun _ _ z => z) fun _ _ z => z)
theorem gg_tup {k : Nat} {t : TGs} {n : Nat} (hc : X.calm = true) (h : GGs1 X es t) (hn : (assignEach es X.env).length = n := by rfl) (hst : (assignEach es X.env).findIdx? (·.1) = none := by rfl) : GG1 X (.Tuple es k pos) (gTup X.kf n t) := fun pins s σ H v u Q I r hw => by
  obtain ⟨a, xs, e1, hq, hl, hw⟩ := hw
  subst e1
  cases r
  obtain ⟨its, rv, ht, hz⟩ := I.tuple hq
  refine assign_Tuple_tuple (I.ok.hd hc) ht (by simp [hn, ← hl, rv.length]) hst fun h' hx => ?_
  have I1 : Inv X pins σ H { s with heap := h' } := I.kept (t' := s.toks) fun b o e => hx b o (Nat.ne_of_lt (Heap.lt_size e)) e
  exact h pins _ σ H xs _ Q I1 (by simpa using rv) hw
/-! statements -/
theorem gs1_asg {tg : Expr} {te : TE} {g : TG} (he : GE X e te) (hg : GG1 X tg g) (hs : swapsWithSole [tg] e pos.line X.env = pure false) (hw : swappedStores [tg] e X.env = pure none)
    (h1 : (assignEach [tg] X.env).map (·.2) = [assign tg X.env]) : GS1 X (.Assign [tg] e pos) (tAsg te g) := fun pins s σ H D I h => by
  refine wpAny_Assign_stores (wpAny_mono (he pins s σ H _ I h) (fun v s1 ⟨⟨x, H1, I1, r1, q1⟩, e1⟩ => ?_) fun _ _ z => z) hs hw
  rw [h1]
  exact wpAny_mono (hg pins s1 σ H1 x v _ I1 r1 q1) (fun _ s2 z => ⟨z.1, z.2.trans e1⟩) fun _ _ z => z
theorem gs1_set {i : Nat} {x : Str} {te : TE} {pos' : Pos} (hN : X.N.Nodup) (hi : X.N[i]? = some x) (hx : Loc X.env.scope x) (he : GE X e te) (hs : swapsWith e (some (.Name x pos')) pos.line X.env = pure false) (hf : X.fn x = true ∨ X.env.scope.names.lookup x = some .local) :
    GS1 X (.Assign [.Name x pos'] e pos) (tAsg te (gName i)) := fun pins s σ H D I h => by
  refine wpAny_Assign_Name (wpAny_mono (he pins s σ H _ I h) (fun v s1 ⟨⟨y, H1, I1, r1, q1⟩, e1⟩ => ?_) fun _ _ z => z) hs
  exact wpAny_mono (wpAny_both (E := fun _ _ => False) (store_ok (Q := fun _ s' => SP X pins D .next s') I1 hN hi hx r1 (fun s2 I2 => ⟨_, H1, I2, q1⟩) hf) (store_g I1 hi hx hf)) (fun _ s2 z => ⟨z.1, z.2.trans e1⟩) fun _ _ z => z.2
theorem gs1_drop {te : TE} (he : GE X e te) (hs : swapsWith e none pos.line X.env = pure false) : GS1 X (.Expr e pos) (tDrop te) := fun pins s σ H D I h =>
  wpAny_Expr_any (wpAny_mono (he pins s σ H _ I h) (fun v s1 ⟨⟨x, H1, I1, r1, q1⟩, e1⟩ => ⟨⟨σ, H1, I1, q1⟩, e1⟩) fun _ _ z => z) I.quiet hs
/-! the data readings of statements -/
def GDS (X : Cx) (st : Stmt) (t : DS) : Prop := GS1 X st (lfS X.kf X.wx t)
def GDSs (X : Cx) (st : List Stmt) (t : DS) : Prop := GSs1 X st (lfS X.kf X.wx t)
variable {st : Stmt} {rest : List Stmt} {t u : DS}
theorem gdss_nil : GDSs X [] xNext := gssM gs1_nil fun E s H ⟨G, r, m, De, hs, hr, q, w⟩ => w.nx _ _ _ _ _ Stp.refl hs hr q
theorem gdss_cons (h1 : GDS X st t) (h2 : GDSs X rest u) : GDSs X (st :: rest) (xSeq t u) := gssM (gs1_cons h1 h2) fun _ _ _ h => lfSeq h
theorem gdss_one (h1 : GDS X st t) : GDSs X [st] t := fun pins s σ H D I h => by
  refine wpAny_execs_cons (wpAny_mono (h1 pins s σ H D I h) (fun f s1 ⟨q, e1⟩ => ?_) fun _ _ z => z)
  cases f with
  | next => exact wpAny_execs_nil ⟨q, e1⟩
  | ret v => exact ⟨q, e1⟩
  | brk => exact ⟨q, e1⟩
  | cont => exact ⟨q, e1⟩
theorem gds_never : GDS X st xNever := fun _ _ _ _ _ _ ⟨_, _, _, _, _, _, q, _⟩ => q.elim
theorem gds_drop (he : GE X e (lf X.kf te)) (hs : swapsWith e none pos.line X.env = pure false := by rfl) : GDS X (.Expr e pos) (xDrop te) :=
  gsM (gs1_drop he hs) fun E s H ⟨G, r, m, De, hs, hr, q, w⟩ => ⟨G, r, m, _, hs, hr, q, fun v H1 G1 m1 d s1 r1 h1 q1 => w.nx _ _ _ _ _ s1 (hs.same s1.g) r1 q1⟩
theorem gds_ret (he : GE X e (lf X.kf te)) : GDS X (.Return (some e) pos) (xRet te) :=
  gsM (gs1_ret he) fun E s H ⟨G, r, m, De, hs, hr, q, w⟩ => ⟨G, r, m, _, hs, hr, q, w.rt⟩
theorem gds_if {c : Expr} {a b : List Stmt} {tc : DB} (hc : GT X c (lfB X.kf tc)) (ha : GDSs X a t) (hb : GDSs X b u) : GDS X (.If c a b pos) (xIf tc t u) := by
  refine gsM (gs1_if hc ha hb) fun E s H ⟨G, r, m, De, hs, hr, q, w⟩ => ?_
  refine ⟨G, r, m, _, hs, hr, q, fun k H1 G1 m1 s1 r1 q1 => ?_⟩
  cases k with
  | true => exact ⟨G1, r, m1, De, hs.same s1.g, r1, q1, w.after s1⟩
  | false => exact ⟨G1, r, m1, De, hs.same s1.g, r1, q1, w.after s1⟩
theorem gds_set {i : Nat} {x : Str} {pos' : Pos} (hN : X.N.Nodup) (hi : X.N[i]? = some x) (hx : Loc X.env.scope x) (he : GE X e (lf X.kf te)) (hs : swapsWith e (some (.Name x pos')) pos.line X.env = pure false := by rfl) (hf : X.fn x = true ∨ X.env.scope.names.lookup x = some .local := by first | exact .inl rfl | exact .inr rfl | assumption) :
    GDS X (.Assign [.Name x pos'] e pos) (xAsg te (gV i)) := gsM (gs1_set hN hi hx he hs hf) fun _ _ _ h => lfAsg (vs := [i]) (gc_name (by simp)) h
theorem gds_asg {tg : Expr} {vs : List Nat} {g : TG} {dg : DG} (he : GE X e (lf X.kf te)) (hg : GG1 X tg g) (gc : GC X.kf g dg vs) (hs : swapsWithSole [tg] e pos.line X.env = pure false := by rfl) (hw : swappedStores [tg] e X.env = pure none := by rfl)
    (h1 : (assignEach [tg] X.env).map (·.2) = [assign tg X.env] := by rfl) : GDS X (.Assign [tg] e pos) (xAsg te dg) := gsM (gs1_asg he hg hs hw h1) fun _ _ _ h => lfAsg gc h
/-! displays -/
theorem gd_tup {x1} (hp : PDA X es tr) (ha : GA X es (lfA X.kf tr)) : GE X (.Tuple es x1 pos) (lf X.kf (dTup tr)) := ge_of (pd_tup hp) fun pins s σ H Q I ⟨G, ro, m, Qd, hs, hr, q, w⟩ => by
  have h : lfA X.kf tr σ H fun vs H1 => vs.length ≤ sizeLine := ⟨G, ro, m, _, hs, hr, q, fun vs H1 G1 m1 ds s1 r1 h1 q1 => show vs.length ≤ sizeLine from by rw [← h1.len]; exact q1.1⟩
  exact wpAny_Tuple_spliced (wpAny_mono (ha pos pins s σ H _ I h) (fun us s1 ⟨⟨xs, H1, I1, r1, z⟩, e1⟩ => ⟨by rw [← r1.length]; exact z, e1⟩) fun _ _ z => z)
theorem gd_lst (hp : PDA X es tr) (ha : GA X es (lfA X.kf tr)) : GE X (.List es pos) (lf X.kf (dLst tr)) := ge_of (pd_lst hp) fun pins s σ H Q I ⟨G, ro, m, Qd, hs, hr, q, w⟩ => by
  have h : lfA X.kf tr σ H fun vs H1 => vs.length ≤ sizeLine := ⟨G, ro, m, _, hs, hr, q, fun vs H1 G1 m1 ds s1 r1 h1 q1 => show vs.length ≤ sizeLine from by rw [← h1.len]; exact q1.1⟩
  exact wpAny_List_spliced (wpAny_mono (ha pos pins s σ H _ I h) (fun us s1 ⟨⟨xs, H1, I1, r1, z⟩, e1⟩ => ⟨by rw [← r1.length]; exact z, e1⟩) fun _ _ z => z)
/-- what a star takes out: the items, and the table as it was -/
theorem star_any_g {pins : List (Addr × Obj)} {σ : L2.St} {H : Hp} {s : Shared} {a : Addr} {xs : List V} {Q : List Value → Shared → Prop} (I : Inv X pins σ H s) (h : SqT X.kf H a xs ∨ SqL X.kf H a xs) (hQ : ∀ us s', Inv X pins σ H s' → Vals xs us → s'.gens = s.gens → Q us s') :
    PySem.W.StarOf (model X.prog X.w) X.A (fun _ _ => False) (.ref a) Q s := by
  rcases h with h | h
  · obtain ⟨its, r, ⟨o, ho, hc, n, hd⟩, hz⟩ := I.tuple h
    have zl := r.length
    have z : wpAny (model X.prog X.w) X.A (collect (.ref a)) Q (fun _ _ => False) s :=
      wpAny_collect_seq a (.inr rfl) ho hc hd (fun h' hk => hQ its _ (I.kept (t' := s.toks) hk) r rfl) (by rw [List.size_toArray]; omega)
    unfold PySem.W.StarOf notIterableAtAll
    exact wpAny_bind (wpAny_specialOf (T := "tuple") ⟨o, ho, hc⟩ PySem.F.slot_tuple_iter.lookup (wpAny_pure ⟨rfl, z⟩))
  · obtain ⟨its, r, pl, hz⟩ := I.list h
    obtain ⟨o, ho, hc, n, hd⟩ := pl.isList
    have zl := r.length
    have z : wpAny (model X.prog X.w) X.A (collect (.ref a)) Q (fun _ _ => False) s :=
      wpAny_collect_seq a (.inl rfl) ho hc hd (fun h' hk => hQ its _ (I.kept (t' := s.toks) hk) r rfl) (by rw [List.size_toArray]; omega)
    unfold PySem.W.StarOf notIterableAtAll
    exact wpAny_bind (wpAny_specialOf (T := "list") ⟨o, ho, hc⟩ PySem.F.slot_list_iter.lookup (wpAny_pure ⟨rfl, z⟩))
/-! *x, a tuple or a list -/
theorem gda_star (he : GE X e (lf X.kf te)) (hr : GA X es (lfA X.kf tr)) (hs : starEach (.Starred e p :: es) X.env = (true, eval e X.env) :: starEach es X.env := by rfl) : GA X (.Starred e p :: es) (lfA X.kf (dStar te tr)) := fun pos pins s σ H Q I ⟨G, ro, m, Qd, hs1, hr1, q, w⟩ => by
  have h : lf X.kf te σ H fun x H1 => ∃ a xs, x = V.ref a ∧ (SqT X.kf H1 a xs ∨ SqL X.kf H1 a xs) ∧ lfA X.kf tr σ H1 fun ys H2 => Q (xs ++ ys) H2 := by
    refine ⟨G, ro, m, _, hs1, hr1, q, fun v H1 G1 m1 d s1 r1 h1 ⟨xs, e1, q1⟩ => ?_⟩
    obtain ⟨a, vs, ev, hq, hv, hz⟩ := seq_is r1 h1 e1
    refine ⟨a, vs, ev, hq.symm, G1, ro, m1, _, hs1.same s1.g, r1, q1, fun us H2 G2 m2 ds s2 r2 h2 q2 => ?_⟩
    exact w _ _ _ _ _ (s1.trans s2) r2 ((hv.same s2.g).app h2) q2
  refine PySem.W.items_star (wpAny_mono (he pins s σ H _ I h) (fun v s1 ⟨⟨y, H1, I1, ry, a, xs, ey, hx, q⟩, e1⟩ => ?_) fun _ _ z => z) hs
  subst ey
  obtain rfl : v = Value.ref a := ry
  refine star_any_g I1 hx fun us s2 I2 rv e2 => ?_
  exact wpAny_mono (hr pos pins s2 σ H1 _ I2 q) (fun ws s3 ⟨⟨vs, H3, I3, r3, q3⟩, e3⟩ => ⟨⟨xs ++ vs, H3, I3, rv.append r3, q3⟩, e3.trans (e2.trans e1)⟩) fun _ _ z => z
end
end Mn

set_option Elab.async false
set_option linter.all false
set_option maxRecDepth 100000
set_option maxHeartbeats 4000000
set_option autoImplicit false
namespace Mn
open PySem PySem.Spec PyProof.Rows L2 GenW
variable [Tbs]
/-! iterators and for, with the table of generators -/
/-- an iterator whose steps leave the table -/
structure Turn2 (P : Program) (w : World) (K : PySem.W.Frag) (tg : Expr) (J : It) (fp : List Addr) (it : Addr) (tn : Nat → Heap → Prop) : Prop extends Turn P w K tg J fp it tn where
  itemG : ∀ (X : Cx), X.prog = P → X.w = w → X.K = K → X.calm = true → ∀ (i : Nat) (pins : List (Addr × Obj)) (s : Shared) (σ : L2.St) (H : Hp), Inv X pins σ H s → (∀ b ∈ fp, FpOk X pins H b) → tn i s.heap → J.go i H →
    wpAny (model P w) X.A (pyNext (.ref it)) (fun r s1 => ∃ u, r = some u ∧ wpAny (model P w) X.A (letOwnedTupleGo tg (.ref it) u) (fun _ s2 => s2.gens = s.gens) (fun _ _ => False) s1) (fun _ _ => False) s
  doneG : ∀ (X : Cx), X.prog = P → X.w = w → X.K = K → X.calm = true → ∀ (i : Nat) (pins : List (Addr × Obj)) (s : Shared) (σ : L2.St) (H : Hp), Inv X pins σ H s → (∀ b ∈ fp, FpOk X pins H b) → tn i s.heap → J.stop i H →
    wpAny (model P w) X.A (pyNext (.ref it)) (fun _ s1 => s1.gens = s.gens) (fun _ _ => False) s
theorem Turn2.item2 {X : Cx} {tg : Expr} {J : It} {fp : List Addr} {it : Addr} {tn : Nat → Heap → Prop} (T : Turn2 X.prog X.w X.K tg J fp it tn) (hc : X.calm = true) {i : Nat} {pins : List (Addr × Obj)} {s : Shared} {σ : L2.St} {H : Hp} (I : Inv X pins σ H s) (f : ∀ b ∈ fp, FpOk X pins H b) (st : tn i s.heap) (go : J.go i H) :
    wpAny (model X.prog X.w) X.A (pyNext (.ref it)) (fun r s1 => ∃ u, r = some u ∧ wpAny (model X.prog X.w) X.A (letOwnedTupleGo tg (.ref it) u) (fun _ s2 => (∃ x H', Inv X pins σ H' s2 ∧ RelV x u ∧ J.yld i H x H' ∧ tn (i + 1) s2.heap ∧ ∀ b ∈ fp, H' b = none) ∧ s2.gens = s.gens) (fun _ _ => False) s1) (fun _ _ => False) s :=
  wpAny_mono (wpAny_both (T.item X rfl rfl rfl hc i pins s σ H (fun _ _ => False) I f st go) (T.itemG X rfl rfl rfl hc i pins s σ H I f st go)) (fun r s1 ⟨⟨u, e, h⟩, ⟨u2, e2, h2⟩⟩ => by
    subst e
    cases e2
    exact ⟨u, rfl, wpAny_mono (wpAny_both h h2) (fun _ _ z => z) fun _ _ z => z.1⟩) fun _ _ z => z.1
theorem Turn2.done2 {X : Cx} {tg : Expr} {J : It} {fp : List Addr} {it : Addr} {tn : Nat → Heap → Prop} (T : Turn2 X.prog X.w X.K tg J fp it tn) (hc : X.calm = true) {i : Nat} {pins : List (Addr × Obj)} {s : Shared} {σ : L2.St} {H : Hp} (I : Inv X pins σ H s) (f : ∀ b ∈ fp, FpOk X pins H b) (st : tn i s.heap) (go : J.stop i H) :
    wpAny (model X.prog X.w) X.A (pyNext (.ref it)) (fun r s1 => (r = none ∧ Inv X pins σ H s1) ∧ s1.gens = s.gens) (fun _ _ => False) s :=
  wpAny_mono (wpAny_both (T.done X rfl rfl rfl hc i pins s σ H (fun _ _ => False) I f st go) (T.doneG X rfl rfl rfl hc i pins s σ H I f st go)) (fun _ _ z => z) fun _ _ z => z.1
theorem turn2_list {P : Program} {w : World} {K : PySem.W.Frag} {tg : Expr} (a it : Addr) : Turn2 P w K tg (Itl K a) [it] it (fun i h => h.IsListIter it a i) where
  toTurn := turn_list a it
  itemG := fun X hP hw hK hc i pins s σ H I hf st hg => by
    subst hP hw hK
    obtain ⟨xs, x, hq, hx⟩ := hg
    obtain ⟨its, rv, p, hz⟩ := I.list hq
    obtain ⟨u, hu, ru⟩ := rv.get hx
    refine wpAny_pyNext_list_item st p.isList (x := u) (by simpa using hu) fun h' st' sb => ?_
    obtain ⟨o, e, c, d⟩ := id st'
    exact ⟨u, rfl, go_of (s := { s with heap := h' }) e c d (by decide) rfl⟩
  doneG := fun X hP hw hK hc i pins s σ H I hf st hg => by
    subst hP hw hK
    obtain ⟨xs, hq, hx⟩ := hg
    obtain ⟨its, rv, p, hz⟩ := I.list hq
    exact wpAny_pyNext_list_end (I.ok.hd hc) st p.isList (by have := rv.length; simp; omega) fun h' eb => rfl
theorem turn2_tuple {P : Program} {w : World} {K : PySem.W.Frag} {tg : Expr} (a it : Addr) : Turn2 P w K tg (Itt K a) [it] it (fun i h => h.IsTupleIter it a i) where
  toTurn := turn_tuple a it
  itemG := fun X hP hw hK hc i pins s σ H I hf st hg => by
    subst hP hw hK
    obtain ⟨xs, x, hq, hx⟩ := hg
    obtain ⟨its, rv, p, hz⟩ := I.tuple hq
    obtain ⟨u, hu, ru⟩ := rv.get hx
    refine wpAny_pyNext_tuple_item st (show s.heap.IsTuple a its.toArray from p) (x := u) (by simpa using hu) fun h' st' sb => ?_
    obtain ⟨o, e, c, d⟩ := id st'
    exact ⟨u, rfl, go_of (s := { s with heap := h' }) e c d (by decide) rfl⟩
  doneG := fun X hP hw hK hc i pins s σ H I hf st hg => by
    subst hP hw hK
    obtain ⟨xs, hq, hx⟩ := hg
    obtain ⟨its, rv, p, hz⟩ := I.tuple hq
    exact wpAny_pyNext_tuple_end (I.ok.hd hc) st (show s.heap.IsTuple a its.toArray from p) (by have := rv.length; simp; omega) fun h' eb => rfl
theorem turn2_range {P : Program} {w : World} {K : PySem.W.Frag} {tg : Expr} (it : Addr) (lo : Int) (n : Nat) : Turn2 P w K tg (Itr lo n) [it] it (fun i h => IsRangeIter h it (lo + (i : Nat) * 1) ((n : Int) - (i : Nat)) 1) where
  toTurn := turn_range it lo n
  itemG := fun X hP hw hK hc i pins s σ H I hf st hg => by
    subst hP hw hK
    refine (Walks.range (prog := X.prog) (w := X.w) (I.ok.hd hc) it lo 1 n).item i s _ _ hg st fun v h' tk hv st' kk => ?_
    exact ⟨_, rfl, go_of (s := { s with heap := h', toks := tk }) (n := "range_iterator") st' rfl rfl (by decide) rfl⟩
  doneG := fun X hP hw hK hc i pins s σ H I hf st hg => by
    subst hP hw hK
    exact wpAny_pyNext_range_end (I.ok.hd hc) st (by have : n ≤ i := hg; omega) fun h' eb => rfl
/-- an iterator has come, and the table is as it was -/
def PIE2 (X : Cx) (pins : List (Addr × Obj)) (σ : L2.St) (tg : Expr) (R : It → Hp → Prop) (itv : Value) (s2 : Shared) : Prop :=
  ∃ (it : Addr) (fp : List Addr) (tn : Nat → Heap → Prop) (J : It) (H' : Hp), itv = .ref it ∧ Inv X pins σ H' s2 ∧ Turn2 X.prog X.w X.K tg J fp it tn ∧ tn 0 s2.heap ∧ (∀ b ∈ fp, FpOk X pins H' b) ∧ R J H'
def GI (X : Cx) (tg iter : Expr) (wi : TI) : Prop := ∀ (pins : List (Addr × Obj)) (s : Shared) (σ : L2.St) (H : Hp) (R : It → Hp → Prop), Inv X pins σ H s → wi σ H R →
    wpAny (model X.prog X.w) X.A (eval iter X.env) (fun v s1 => wpAny (model X.prog X.w) X.A (pyIter v) (fun itv s2 => PIE2 X pins σ tg R itv s2 ∧ s2.gens = s.gens) (fun _ _ => False) s1) (fun _ _ => False) s
theorem giM {X : Cx} {tg iter : Expr} {w w' : TI} (h : GI X tg iter w) (i : ∀ s H R, w' s H R → w s H R) : GI X tg iter w' := fun pins s σ H R I q => h pins s σ H R I (i _ _ _ q)
section
variable {X : Cx}
theorem gi_split {e : Expr} {t : DT} (h : GE X e (lf X.kf t)) {tg : Expr} : GI X tg e (fun s H R => lf X.kf t s H fun x H1 => ∃ a, x = .ref a ∧ (((∃ us, SqL X.kf H1 a us) ∧ R (Itl X.kf a) H1) ∨ ((∃ us, SqT X.kf H1 a us) ∧ R (Itt X.kf a) H1))) := fun pins s σ H R I q => by
  refine wpAny_mono (h pins s σ H _ I q) (fun v s1 ⟨⟨x, H1, I1, r1, q1⟩, eg⟩ => ?_) fun _ _ z => z
  obtain ⟨a, e1, q1⟩ := q1
  subst e1
  cases r1
  rcases q1 with ⟨⟨us, hq⟩, q2⟩ | ⟨⟨us, hq⟩, q2⟩
  · obtain ⟨its, rv, p, hz⟩ := I1.list hq
    refine wpAny_pyIter_list p.isList ⟨⟨s1.heap.objs.size, [s1.heap.objs.size], _, _, H1, rfl, I1.kept (t' := s1.toks) fun b o e => Heap.get?_push_of_some _ e, turn2_list a _, ⟨_, Heap.get?_push_size _ rfl, rfl, rfl⟩, fun b hb => ?_, q2⟩, eg⟩
    obtain rfl : b = s1.heap.objs.size := by simpa using hb
    exact I1.fpOk (Nat.le_refl _) (I1.hok.fresh (Nat.le_refl _))
  · obtain ⟨its, rv, p, hz⟩ := I1.tuple hq
    refine wpAny_pyIter_tuple (show s1.heap.IsTuple a its.toArray from p) ⟨⟨s1.heap.objs.size, [s1.heap.objs.size], _, _, H1, rfl, I1.kept (t' := s1.toks) fun b o e => Heap.get?_push_of_some _ e, turn2_tuple a _, ⟨_, Heap.get?_push_size _ rfl, rfl, rfl⟩, fun b hb => ?_, q2⟩, eg⟩
    obtain rfl : b = s1.heap.objs.size := by simpa using hb
    exact I1.fpOk (Nat.le_refl _) (I1.hok.fresh (Nat.le_refl _))
theorem gdi_seq {tg e : Expr} {t : DT} (h : GE X e (lf X.kf t)) : GI X tg e (lfI X.kf (sSeq t)) := by
  refine giM (gi_split h) fun s H R ⟨G, r, m, Q, hs, hr, q, w⟩ => ?_
  refine ⟨G, r, m, _, hs, hr, q, fun v H1 G1 m1 d s1 r1 h1 ⟨ds, e, q1⟩ => ?_⟩
  rcases e with e | e
  · subst e
    cases h1 with
    | lst h2 h3 h4 => exact ⟨_, rfl, .inl ⟨⟨_, .inl (.inl (r1.sub _ _ h2))⟩, w _ _ _ _ _ s1 r1 (wk_list h2 h3) q1⟩⟩
  · subst e
    cases h1 with
    | tup h2 h3 h4 => exact ⟨_, rfl, .inr ⟨⟨_, h2.sq r1.sub _⟩, w _ _ _ _ _ s1 r1 (wk_tup h2 h3) q1⟩⟩
/-- for -/
theorem gs1_for {tg iter : Expr} {body : List Stmt} {wi : TI} {g : TG} {tb : TS} {pos : Pos} (hc : X.calm = true) (hi : GI X tg iter wi) (hg : GG1 X tg g) (hb : GSs1 X body tb) (hs : ∀ x, foldedSetIterable iter X.env x = pure x) : GS1 X (.For tg iter body [] pos) (tFor wi g tb) := fun pins s σ H D I h => by
  refine wpAny_For (wpAny_mono (hi pins s σ H _ I h) (fun v s1 h1 => wpAny_mono h1 (fun itv s2 h2 => ?_) fun _ _ z => z) fun _ _ z => z) hs
  obtain ⟨⟨it, fp, tn, J, H2, e, I2, T, st2, f2, W, ⟨m0, w0⟩, turn⟩, eg⟩ := h2
  subst e
  have stat : ∀ {H' : Hp}, (∀ b ∈ fp, H' b = none) → ∀ b ∈ fp, FpOk X pins H' b := fun hn b hb => ⟨hn b hb, (f2 b hb).2⟩
  have no : PassesOwn (model X.prog X.w) X.A X.env (fun _ _ => False) := PassesOwn.never
  refine codeAny_forLoop_any (fun n s' => s'.gens = s.gens ∧ ∃ i σ' H', Inv X pins σ' H' s' ∧ tn i s'.heap ∧ (∀ b ∈ fp, H' b = none) ∧ W i n σ' H') ?_ m0 ⟨eg, 0, σ, H2, I2, st2, fun b hb => (f2 b hb).1, w0⟩
  rintro n s3 ⟨e3, i, σ3, H3, I3, st3, fr3, w3⟩
  rcases turn i n σ3 H3 w3 with ⟨stop, qn⟩ | ⟨go, N, hN, step⟩
  · refine wpAny_passesOwn no (wpAny_mono (T.done2 hc I3 (stat fr3) st3 stop) (fun r s4 ⟨⟨hr, I4⟩, e4⟩ => ?_) fun _ _ z => z)
    subst hr
    exact wpAny_execs_nil ⟨⟨σ3, H3, I4, qn⟩, e4.trans e3⟩
  · refine wpAny_passesOwn no (wpAny_mono (T.item2 hc I3 (stat fr3) st3 go) (fun r s4 ⟨u, hr, h4⟩ => ?_) fun _ _ z => z)
    subst hr
    refine wpAny_passesOwn no (wpAny_mono h4 (fun _ s5 ⟨⟨x, H5, I5, r5, y5, st5, fr5⟩, e5⟩ => ?_) fun _ _ z => z)
    have I5' := I5.pinned (stat fr5) (T.obj _ _ st5)
    refine wpAny_passesOwn no (wpAny_mono (hg _ s5 σ3 H5 x u _ I5' r5 (step x H5 y5)) (fun _ s6 ⟨⟨σ6, H6, I6, q6⟩, e6⟩ => ?_) fun _ _ z => z)
    refine wpAny_passesOwn no (wpAny_mono (hb _ s6 σ6 H6 _ I6 q6) (fun f s7 ⟨q7, e7⟩ => ?_) fun _ _ z => z)
    have eg7 : s7.gens = s.gens := e7.trans (e6.trans (e5.trans e3))
    have again : ∀ {σ7 : L2.St} {H7 : Hp}, Inv X (pins ++ pinsAt fp s5.heap) σ7 H7 s7 → N σ7 H7 → ∃ m, m < n ∧ s7.gens = s.gens ∧ ∃ i σ' H', Inv X pins σ' H' s7 ∧ tn i s7.heap ∧ (∀ b ∈ fp, H' b = none) ∧ W i m σ' H' := fun {σ7 H7} I7 n7 => by
      obtain ⟨m', hm, w7⟩ := hN σ7 H7 n7
      have pz : ∀ b ∈ fp, ∀ o, s5.heap.get? b = some o → s7.heap.get? b = some o ∧ H7 b = none := fun b hb o e =>
        let z := I7.pin (b, o) (List.mem_append_right _ (List.mem_append_right _ (mem_pinsAt hb e)))
        ⟨z.1, z.2.1⟩
      refine ⟨m', hm, eg7, i + 1, σ7, H7, I7.unpinned, T.keep _ _ _ st5 fun b hb o e => (pz b hb o e).1, fun b hb => ?_, w7⟩
      obtain ⟨o, e, d⟩ := T.obj _ _ st5 b hb
      exact (pz b hb o e).2
    cases f with
    | next => obtain ⟨σ7, H7, I7, n7⟩ := q7; exact again I7 n7
    | cont => obtain ⟨σ7, H7, I7, n7⟩ := q7; exact again I7 n7
    | brk => obtain ⟨σ7, H7, I7, q7⟩ := q7; exact ⟨⟨σ7, H7, I7.unpinned, q7⟩, eg7⟩
    | ret v => obtain ⟨x7, σ7, H7, I7, r7, q7⟩ := q7; exact ⟨⟨x7, σ7, H7, I7.unpinned, r7, q7⟩, eg7⟩
end
end Mn

set_option Elab.async false
set_option linter.all false
set_option maxRecDepth 100000
set_option maxHeartbeats 4000000
set_option autoImplicit false
namespace Mn
open PySem PySem.Spec PyProof.Rows L2 GenW
variable [Tbs]
/-! list comprehensions, with the table of generators -/
/-- what comes ahead of the loop and behind it -/
theorem lc_pre {X : Cx} {pins : List (Addr × Obj)} {s : Shared} {σ : L2.St} {H : Hp} {Q : VK} {Rw : It → Addr → Hp → Prop} {elt tg iter : Expr} {ifs : List Expr} {more : List Comprehension} {scope : Scope} {own : List (Str × Nat)} {pos pos' : Pos} {wi : TI} {use : Option (Value → Sem Unit)} {Qf : Value → Shared → Prop}
    (hc : X.calm = true) (hN : X.N.Nodup) (I : Inv X pins σ H s) (hi : GI X tg iter wi) (ok : BlkOk X.N X.env.scope scope own) (hs : ∀ x, foldedSetIterable iter X.env x = pure x)
    (h : wi σ H fun J H1 => ∀ D, H1 D = none → Rw J D (upd H1 D (.lst [])))
    (loop : ∀ (it : Addr) (fp : List Addr) (tn : Nat → Heap → Prop) (J : It) (D C : Addr) (H3 : Hp) (s3 s4 : Shared) (cl : List (Str × Addr)), Turn2 X.prog X.w X.K tg J fp it tn → Inv (X.blk s3 H3 scope (compEnvC scope cl C X.env) fp) [] (wipe σ (own.map (·.2))) H3 s4 → tn 0 s4.heap → (∀ b ∈ fp, H3 b = none) → s4.gens = s.gens → Rw J D H3 →
      codeAny (model X.prog X.w) X.A (.compLoop (.ListComp elt (⟨tg, iter, ifs, 0⟩ :: more) scope pos) 0 (.ref it) (.ref D) (compEnvC scope cl C X.env))
        (fun r s' => r = .ok .next ∧ ∃ H5, Inv (X.blk s3 H3 scope (compEnvC scope cl C X.env) fp) [] (wipe σ (own.map (·.2))) H5 s' ∧ Q (.ref D) H5 ∧ s'.gens = s.gens) s4)
    (fin : ∀ D C s' m H', Inv X pins σ H' s' → Q (.ref D) H' → s'.gens = s.gens → s'.heap.Ns C m → FpOk X pins H' C → compPost (model X.prog X.w) X.A (fun _ _ => False) use Qf (.ref D) C (.ok .next) s') :
    wpAny (model X.prog X.w) X.A (comprehension (.ListComp elt (⟨tg, iter, ifs, 0⟩ :: more) scope pos) scope X.env pos' (newList []) false (eval iter X.env) use) Qf (fun _ _ => False) s := by
  have frees : ∀ y ∈ scope.names, y.2 = .free → ∃ c, X.env.cells.lookup y.1 = some c := fun y hy e => (ok.free y hy e).elim (fun k => I.ok.has _ (.inl k)) fun k => I.ok.has _ (.inr k)
  refine wpAny_comprehension_free (use := use) rfl hs (closure_ok frees) ok.kind (fun y hy e => by rw [ok.uniq y hy, e]) (wpAny_mono (hi pins s σ H _ I h) (fun xv s1 hx => wpAny_mono hx (fun itv s2 h2 => ?_) fun _ _ z => z) fun _ _ z => z)
  obtain ⟨⟨it, fp, tn, J, H2, ev, I2, T, st2, f2, q⟩, eg⟩ := h2
  subst ev
  refine wpAny_newObj_type (newEnv_comp ?_) (by show 0 ≤ sizeLine; decide)
  have low : ∀ b ∈ fp, b < s2.heap.objs.size := fun b hb => let ⟨_, e, _⟩ := T.obj _ _ st2 b hb; Heap.lt_size e
  generalize hD : s2.heap.objs.size = D at low ⊢
  have rw0 := q D (I2.hok.fresh (Nat.le_of_eq hD))
  generalize hs3 : ({ s2 with heap := s2.heap.push { cls := .type "list", data := .seq ([] : List Value).toArray } } : Shared) = s3
  have hp3 : s3.heap = s2.heap.push { cls := .type "list", data := .seq ([] : List Value).toArray } := by rw [← hs3]
  have eg3 : s3.gens = s.gens := by rw [← hs3]; exact eg
  have I3 : Inv X pins σ (upd H2 D (.lst [])) s3 := by
    rw [← hs3]
    exact I2.laid (t' := s2.toks) (fun b o e => Heap.get?_push_of_some _ e) (Nat.le_of_eq hD) ⟨Nat.zero_le _, [], 0, .nil, by rw [← hD]; exact Heap.get?_push_size _ rfl⟩
  have f3 : ∀ b ∈ fp, FpOk X pins (upd H2 D (.lst [])) b ∧ b < s3.heap.objs.size := fun b hb => by
    have hlt := low b hb
    refine ⟨⟨?_, (f2 b hb).2⟩, by rw [hp3, Heap.size_push, hD]; exact Nat.lt_succ_of_lt hlt⟩
    rw [upd_ne (Nat.ne_of_lt hlt)]
    exact (f2 b hb).1
  generalize upd H2 D (.lst []) = H3 at I3 rw0 f3 ⊢
  have st3 : tn 0 s3.heap := T.keep _ _ _ st2 fun b _ o e => by rw [hp3]; exact Heap.get?_push_of_some _ e
  have I4 := block_start I3 ok hN f3
  have st4 : tn 0 (pushCells (s3.heap.push { cls := .type "dict", data := .dict #[] }) scope.names) := T.keep _ _ _ st3 fun b _ o e => pushCells_keeps _ _ _ _ (Heap.get?_push_of_some _ e)
  have run := loop it fp tn J D s3.heap.objs.size H3 s3 _ (cellsFrom (s3.heap.objs.size + 1) scope.names (cloFrom X.env.cells scope.names [])) T I4 st4 (fun b hb => (f3 b hb).1.1) eg3 rw0
  have back := codeAny_mono run (R' := fun r s' => compPost (model X.prog X.w) X.A (fun _ _ => False) use Qf (.ref D) s3.heap.objs.size r s') fun r s' ⟨er, H5, I5, q5, e5⟩ => by
    subst er
    have nC : H5 s3.heap.objs.size = none := I5.free
    obtain ⟨m, hn, _⟩ := I5.loc
    exact fin D _ s' m H5 (I3.call' (ch := fp) I5.os I5.base I5.hok I5.bare fun b hb => ⟨(f3 b hb).1.2.2.2.1, (f3 b hb).1.2.1, (f3 b hb).1.2.2.2.2.1, (f3 b hb).1.2.2.2.2.2⟩) q5 e5 hn (I3.fpOk (Nat.le_refl _) nC)
  exact codeAny_compStart_list back (T.self X.A 0 _ _ _ st4 back)
end Mn

set_option Elab.async false
set_option linter.all false
set_option maxRecDepth 100000
set_option maxHeartbeats 4000000
set_option autoImplicit false
namespace Mn
open PySem PySem.Spec PyProof.Rows L2 GenW
variable [Tbs]
/-! [e for x in y], with the table of generators -/
section
variable {X : Cx}
theorem app_g {pins : List (Addr × Obj)} {σ : L2.St} {H : Hp} {s : Shared} {D : Addr} {xs : List V} {y : V} {v : Value} (I : Inv X pins σ H s) (hD : H D = some (.lst xs)) (hz : xs.length < sizeLine) (r : RelV y v) :
    wpAny (model X.prog X.w) X.A (call (.builtin "list.append") [.ref D, v]) (fun _ s' => Inv X pins σ (upd H D (.lst (xs ++ [y]))) s' ∧ s'.gens = s.gens) (fun _ _ => False) s := by
  have g : wpAny (model X.prog X.w) X.A (call (.builtin "list.append") [.ref D, v]) (fun _ s' => s'.gens = s.gens) (fun _ _ => False) s := by
    obtain ⟨_, its, n, ri, e⟩ := I.hok D _ hD
    exact append_at (hsz := by have := ri.length; rw [List.size_toArray]; omega) e fun h' sb ho' => rfl
  exact wpAny_mono (wpAny_both (E := fun _ _ => False) (app_ok (Q := fun _ s' => Inv X pins σ (upd H D (.lst (xs ++ [y]))) s') I hD hz r fun s' I' => I') g) (fun _ _ z => z) fun _ _ z => z.1
/-- the iterator's objects, from within the block -/
theorem blk_fp {s3 s' : Shared} {H3 H' : Hp} {scope : Scope} {ce : Env} {fp : List Addr} {σ' : L2.St} (I' : Inv (X.blk s3 H3 scope ce fp) [] σ' H' s') (hn : ∀ b ∈ fp, H' b = none) : ∀ b ∈ fp, FpOk (X.blk s3 H3 scope ce fp) [] H' b := fun b hb =>
  ⟨hn b hb, (I'.ok.exf b hb).1, I'.ok.exfs b hb, .inl hb, fun x c e => (I'.ok.exf b hb).2 x c e, fun p hp => nomatch (show p ∈ ([] : List (Addr × Obj)) from hp)⟩
/-- a step of an iterator, and its store -/
theorem step_g {tg : Expr} {J : It} {fp : List Addr} {it : Addr} {tn : Nat → Heap → Prop} (T : Turn2 X.prog X.w X.K tg J fp it tn) (hc : X.calm = true) {g : TG} (hg : GG1 X tg g) {i : Nat} {pins : List (Addr × Obj)} {s : Shared} {σ : L2.St} {H : Hp} (I : Inv X pins σ H s) (f : ∀ b ∈ fp, FpOk X pins H b) (st : tn i s.heap) (go : J.go i H) {R : L2.St → Hp → Prop} (step : ∀ x H', J.yld i H x H' → g x σ H' R) :
    wpAny (model X.prog X.w) X.A (pyNext (.ref it)) (fun r s1 => ∃ u, r = some u ∧ wpAny (model X.prog X.w) X.A (letOwnedTupleGo tg (.ref it) u) (fun _ s2 => wpAny (model X.prog X.w) X.A (assign tg X.env u) (fun _ s3 => ∃ pl σ3 H3, Inv X (pins ++ pl) σ3 H3 s3 ∧ R σ3 H3 ∧ s3.gens = s.gens ∧
      ∀ {σ' : L2.St} {H' : Hp} {s' : Shared}, Inv X (pins ++ pl) σ' H' s' → tn (i + 1) s'.heap ∧ ∀ b ∈ fp, H' b = none) (fun _ _ => False) s2) (fun _ _ => False) s1) (fun _ _ => False) s := by
  refine wpAny_mono (T.item2 hc I f st go) (fun r s1 ⟨u, er, h1⟩ => ⟨u, er, wpAny_mono h1 (fun _ s2 ⟨⟨x, H2, I2, r2, y2, st2, n2⟩, e2⟩ => ?_) fun _ _ z => z⟩) fun _ _ z => z
  have stat : ∀ b ∈ fp, FpOk X pins H2 b := fun b hb => ⟨n2 b hb, (f b hb).2⟩
  refine wpAny_mono (hg _ s2 σ H2 x u R (I2.pinned stat (T.obj _ _ st2)) r2 (step x H2 y2)) (fun _ s3 ⟨⟨σ3, H3, I3, q3⟩, e3⟩ => ⟨pinsAt fp s2.heap, σ3, H3, I3, q3, e3.trans e2, fun {σ' H' s'} I' => ?_⟩) fun _ _ z => z
  have pz : ∀ b ∈ fp, ∀ o, s2.heap.get? b = some o → s'.heap.get? b = some o ∧ H' b = none := fun b hb o e =>
    let z := I'.pin (b, o) (List.mem_append_right _ (List.mem_append_right _ (mem_pinsAt hb e)))
    ⟨z.1, z.2.1⟩
  exact ⟨T.keep _ _ _ st2 fun b hb o e => (pz b hb o e).1, fun b hb => let ⟨o, e, _⟩ := T.obj _ _ st2 b hb; (pz b hb o e).2⟩
end
section
variable {X : Cx} {elt tg iter : Expr} {scope : Scope} {own : List (Str × Nat)} {pos : Pos} {src : DI} {g : TG} {dg : DG} {te : DT}
theorem lfYes {σ : L2.St} {H : Hp} {R : Bool → Hp → Prop} (h : lfB X.kf dYes σ H R) : R true H := by
  obtain ⟨G, ro, m, Qd, hs, hr, q, w⟩ := h
  exact w true H G m Stp.refl hr q
/-- how the loop goes -/
def LcR (Q : VK) (g : TG) (tt : TT) (te : TE) (vs : List Nat) (σ : L2.St) (J : It) (D : Addr) (H3 : Hp) : Prop := ∃ W : Nat → Nat → Hp → Prop, (∃ m, W 0 m H3) ∧ ∀ i m H, W i m H →
  (J.stop i H ∧ Q (.ref D) H) ∨ (J.go i H ∧ ∃ Nx : Hp → Prop, (∀ H', Nx H' → ∃ m', m' < m ∧ W (i + 1) m' H') ∧ ∀ x H', J.yld i H x H' → g x (wipe σ vs) H' fun σ2 H2 => wipe σ2 vs = wipe σ vs ∧ tt σ2 H2 fun b H3 =>
    if b = true then te σ2 H3 fun y H4 => ∃ acc, H4 D = some (.lst acc) ∧ acc.length < sizeLine ∧ Nx (upd H4 D (.lst (acc ++ [y]))) else Nx H3)
theorem gd_lc (hc : X.calm = true) (hN : X.N.Nodup) (hi : GI X tg iter (lfI X.kf src)) (ok : BlkOk X.N X.env.scope scope own) (gc : GC X.kf g dg (own.map (·.2)))
    (hg : ∀ (s : Shared) (H : Hp) (C : Addr) (cl : List (Str × Addr)) (fp : List Addr), GG1 (X.blk s H scope (compEnvC scope cl C X.env) fp) tg g)
    (he : ∀ (s : Shared) (H : Hp) (C : Addr) (cl : List (Str × Addr)) (fp : List Addr), GE (X.blk s H scope (compEnvC scope cl C X.env) fp) elt (lf X.kf te)) (hs : ∀ x, foldedSetIterable iter X.env x = pure x := by intro _; rfl) :
    GE X (.ListComp elt [⟨tg, iter, [], 0⟩] scope pos) (lf X.kf (dLc src (own.map (·.2)) dg dYes te)) := fun pins s σ H Q I h0 => by
  rw [eval_ListComp]
  have h1 : lfI X.kf src σ H fun J H1 => ∀ D, H1 D = none → LcR Q g (lfB X.kf dYes) (lf X.kf te) (own.map (·.2)) σ J D (upd H1 D (.lst [])) := lc_frz gc h0
  refine lc_pre (Q := Q) (Rw := LcR Q g (lfB X.kf dYes) (lf X.kf te) (own.map fun x => x.2) σ) hc hN I hi ok hs h1 (fun it fp tn J D C H3 s3 s4 cl T I4 st4 n4 e4 ⟨W, ⟨m0, w0⟩, turn⟩ => ?_) fun D C s' m H' I' q e' hn f => ⟨m, hn, fun h'' sb => ?_⟩
  · refine compLoop_any (fun n s' => s'.gens = s.gens ∧ ∃ i H', Inv (X.blk s3 H3 scope (compEnvC scope cl C X.env) fp) [] (wipe σ (own.map (·.2))) H' s' ∧ tn i s'.heap ∧ (∀ b ∈ fp, H' b = none) ∧ W i n H') (fun n s5 ⟨e5, i, H5, I5, st5, n5, w5⟩ => ?_) m0 ⟨e4, 0, H3, I4, st4, n4, w0⟩
    rcases turn i n H5 w5 with ⟨stop, qq⟩ | ⟨go, Nx, hNx, step⟩
    · refine wpAny_mono (Turn2.done2 (X := X.blk s3 H3 scope (compEnvC scope cl C X.env) fp) T hc I5 (blk_fp I5 n5) st5 stop) (fun r s6 ⟨⟨er, I6⟩, e6⟩ => ?_) fun _ _ z => z.elim
      subst er
      exact ⟨rfl, H5, I6, qq, e6.trans e5⟩
    · refine wpAny_mono (step_g (X := X.blk s3 H3 scope (compEnvC scope cl C X.env) fp) T hc (hg s3 H3 C cl fp) I5 (blk_fp I5 n5) st5 go step) (fun r s6 ⟨u, er, h6⟩ => ?_) fun _ _ z => z.elim
      subst er
      refine wpAny_mono h6 (fun _ s7 h7 => wpAny_mono h7 (fun _ s8 ⟨pl, σ8, H8, I8, ⟨hw8, q8⟩, e8, k8⟩ => wpAny_tests_nil ?_) fun _ _ z => z.elim) fun _ _ z => z.elim
      have q9 := lfYes q8
      simp only [if_true] at q9 ⊢
      refine wpAny_mono (he s3 H3 C cl fp _ s8 σ8 H8 _ I8 q9) (fun z s10 ⟨⟨yv, H10, I10, r10, acc, hD10, hz10, nx⟩, e10⟩ => ?_) fun _ _ z => z.elim
      refine wpAny_mono (app_g (X := X.blk s3 H3 scope (compEnvC scope cl C X.env) fp) I10 hD10 hz10 r10) (fun _ s11 ⟨I11, e11⟩ => ?_) fun _ _ z => z.elim
      obtain ⟨m', hm, w'⟩ := hNx _ nx
      refine ⟨m', hm, e11.trans (e10.trans (e8.trans e5)), i + 1, _, (I11.unpinned (pins := [])).weak (by rw [← hw8, wipe_length]) (fun j v e => ?_), (k8 I11).1, (k8 I11).2, w'⟩
      rw [← hw8] at e
      exact (wipe_some e).1
  · obtain ⟨f0, f1, f2, f3, f4, f5⟩ := f
    exact ⟨⟨.ref D, H', I'.turned (t' := s'.toks) (fun b o hb e => (sb.2 b hb).trans e) f0 f1 f3 f4 f5, rfl, q⟩, e'⟩
end
end Mn

set_option Elab.async false
set_option linter.all false
set_option maxRecDepth 100000
set_option maxHeartbeats 4000000
set_option autoImplicit false
namespace Mn
open PySem PySem.Spec PyProof.Rows L2 GenW
variable [Tbs]
/-! y = [e for a in b for c in d], with the table of generators -/
/-- how the two loops go -/
def Lc2R (Q : VK) (g : TG) (tt : TT) (wi1 : TI) (g1 : TG) (tt1 : TT) (te : TE) (vs vs1 : List Nat) (σ : L2.St) (J : It) (D : Addr) (H3 : Hp) : Prop := ∃ W : Nat → Nat → Hp → Prop, (∃ m, W 0 m H3) ∧ ∀ i m H, W i m H →
  (J.stop i H ∧ Q (.ref D) H) ∨ (J.go i H ∧ ∃ Nx : Hp → Prop, (∀ H', Nx H' → ∃ m', m' < m ∧ W (i + 1) m' H') ∧ ∀ x H', J.yld i H x H' → g x (wipe σ vs) H' fun σ2 H2 => wipe σ2 vs = wipe σ vs ∧ tt σ2 H2 fun b H3 =>
    if b = true then wi1 σ2 H3 fun J1 H4 => ∃ W1 : Nat → Nat → Hp → Prop, (∃ m, W1 0 m H4) ∧ ∀ j k H, W1 j k H →
      (J1.stop j H ∧ Nx H) ∨ (J1.go j H ∧ ∃ Nx1 : Hp → Prop, (∀ H', Nx1 H' → ∃ k', k' < k ∧ W1 (j + 1) k' H') ∧ ∀ x H', J1.yld j H x H' → g1 x (wipe σ2 vs1) H' fun σ3 H5 => wipe σ3 vs1 = wipe σ2 vs1 ∧ tt1 σ3 H5 fun b H6 =>
        if b = true then te σ3 H6 fun y H7 => ∃ acc, H7 D = some (.lst acc) ∧ acc.length < sizeLine ∧ Nx1 (upd H7 D (.lst (acc ++ [y]))) else Nx1 H6)
    else Nx H3)
section
variable {X : Cx} {elt tg iter tg1 iter1 : Expr} {scope : Scope} {own : List (Str × Nat)} {vs1 : List Nat} {pos : Pos} {src src1 : DI} {g g1 : TG} {dg dg1 : DG} {te : DT}
theorem lc2_loop {s : Shared} {σ : L2.St} {Q : VK} {it : Addr} {fp : List Addr} {tn : Nat → Heap → Prop} {J : It} {D C : Addr} {H3 : Hp} {s3 s4 : Shared} {cl : List (Str × Addr)} (hc : X.calm = true) (hv : ∀ i ∈ vs1, i ∈ own.map fun x => x.2)
    (hg : GG1 (X.blk s3 H3 scope (compEnvC scope cl C X.env) fp) tg g) (hi1 : GI (X.blk s3 H3 scope (compEnvC scope cl C X.env) fp) tg1 iter1 (lfI X.kf src1)) (hg1 : GG1 (X.blk s3 H3 scope (compEnvC scope cl C X.env) fp) tg1 g1)
    (he : GE (X.blk s3 H3 scope (compEnvC scope cl C X.env) fp) elt (lf X.kf te)) (hs1 : ∀ env x, foldedSetIterable iter1 env x = pure x)
    (T : Turn2 X.prog X.w X.K tg J fp it tn) (I4 : Inv (X.blk s3 H3 scope (compEnvC scope cl C X.env) fp) [] (wipe σ (own.map fun x => x.2)) H3 s4) (st4 : tn 0 s4.heap) (n4 : ∀ b ∈ fp, H3 b = none) (e4 : s4.gens = s.gens)
    (h : Lc2R Q g (lfB X.kf dYes) (lfI X.kf src1) g1 (lfB X.kf dYes) (lf X.kf te) (own.map fun x => x.2) vs1 σ J D H3) :
    codeAny (model X.prog X.w) X.A (.compLoop (.ListComp elt [⟨tg, iter, [], 0⟩, ⟨tg1, iter1, [], 0⟩] scope pos) 0 (.ref it) (.ref D) (compEnvC scope cl C X.env))
      (fun r s' => r = .ok .next ∧ ∃ H5, Inv (X.blk s3 H3 scope (compEnvC scope cl C X.env) fp) [] (wipe σ (own.map fun x => x.2)) H5 s' ∧ Q (.ref D) H5 ∧ s'.gens = s.gens) s4 := by
  obtain ⟨W, ⟨m0, w0⟩, turn⟩ := h
  refine compLoop2_out (hs1 _) (fun n s' => s'.gens = s.gens ∧ ∃ i H', Inv (X.blk s3 H3 scope (compEnvC scope cl C X.env) fp) [] (wipe σ (own.map fun x => x.2)) H' s' ∧ tn i s'.heap ∧ (∀ b ∈ fp, H' b = none) ∧ W i n H') (fun n s5 ⟨e5, i, H5, I5, st5, n5, w5⟩ => ?_) m0 ⟨e4, 0, H3, I4, st4, n4, w0⟩
  rcases turn i n H5 w5 with ⟨stop, qq⟩ | ⟨go, Nx, hNx, step⟩
  · refine wpAny_mono (Turn2.done2 (X := X.blk s3 H3 scope (compEnvC scope cl C X.env) fp) T hc I5 (blk_fp I5 n5) st5 stop) (fun r s6 ⟨⟨er, I6⟩, e6⟩ => ?_) fun _ _ z => z.elim
    subst er
    exact ⟨rfl, H5, I6, qq, e6.trans e5⟩
  · refine wpAny_mono (step_g (X := X.blk s3 H3 scope (compEnvC scope cl C X.env) fp) T hc hg I5 (blk_fp I5 n5) st5 go step) (fun r s6 ⟨u, er, h6⟩ => ?_) fun _ _ z => z.elim
    subst er
    refine wpAny_mono h6 (fun _ s7 h7 => wpAny_mono h7 (fun _ s8 ⟨pl, σ8, H8, I8, ⟨hw8, q8⟩, e8, k8⟩ => wpAny_tests_nil ?_) fun _ _ z => z.elim) fun _ _ z => z.elim
    have q9 := lfYes q8
    simp only [if_true] at q9 ⊢
    refine wpAny_mono (hi1 _ s8 σ8 H8 _ I8 q9) (fun xv s10 hx => wpAny_mono hx (fun itv s11 ⟨⟨it1, fp1, tn1, J1, H11, ev, I11, T1, st11, f11, W1, ⟨m1, w1⟩, turn1⟩, e11⟩ => ?_) fun _ _ z => z.elim) fun _ _ z => z.elim
    subst ev
    have stat1 : ∀ {H' : Hp}, (∀ b ∈ fp1, H' b = none) → ∀ b ∈ fp1, FpOk (X.blk s3 H3 scope (compEnvC scope cl C X.env) fp) ([] ++ pl) H' b := fun hn b hb => ⟨hn b hb, (f11 b hb).2⟩
    have lp : codeAny (model X.prog X.w) X.A (.compLoop (.ListComp elt [⟨tg, iter, [], 0⟩, ⟨tg1, iter1, [], 0⟩] scope pos) 1 (.ref it1) (.ref D) (compEnvC scope cl C X.env)) (fun r s' => match r with
        | .ok _ => ∃ m, m < n ∧ s'.gens = s.gens ∧ ∃ i H', Inv (X.blk s3 H3 scope (compEnvC scope cl C X.env) fp) [] (wipe σ (own.map fun x => x.2)) H' s' ∧ tn i s'.heap ∧ (∀ b ∈ fp, H' b = none) ∧ W i m H'
        | .error _ => False) s11 := by
      refine compLoop2_in (fun k s' => s'.gens = s.gens ∧ ∃ j H', Inv (X.blk s3 H3 scope (compEnvC scope cl C X.env) fp) ([] ++ pl) (wipe σ8 vs1) H' s' ∧ tn1 j s'.heap ∧ (∀ b ∈ fp1, H' b = none) ∧ W1 j k H') (fun k s12 ⟨e12, j, H12, I12, st12, n12, w12⟩ => ?_) m1 ⟨e11.trans (e8.trans e5), 0, H11, I11.weak (wipe_length _ _) (fun j v e => (wipe_some e).1), st11, fun b hb => (f11 b hb).1, w1⟩
      rcases turn1 j k H12 w12 with ⟨stop1, nx1⟩ | ⟨go1, Nx1, hNx1, step1⟩
      · refine wpAny_mono (Turn2.done2 (X := X.blk s3 H3 scope (compEnvC scope cl C X.env) fp) T1 hc I12 (stat1 n12) st12 stop1) (fun r s13 ⟨⟨er, I13⟩, e13⟩ => ?_) fun _ _ z => z.elim
        subst er
        obtain ⟨m', hm, w'⟩ := hNx _ nx1
        refine ⟨m', hm, e13.trans e12, i + 1, _, (I13.unpinned (pins := [])).weak (by rw [wipe_length, wipe_length, ← wipe_length σ8, hw8, wipe_length]) (fun j v e => ?_), (k8 I13).1, (k8 I13).2, w'⟩
        rw [← hw8] at e
        obtain ⟨a1, a2⟩ := wipe_some e
        rw [wipe_out fun z => a2 (hv j z)]
        exact a1
      · refine wpAny_mono (step_g (X := X.blk s3 H3 scope (compEnvC scope cl C X.env) fp) T1 hc hg1 I12 (stat1 n12) st12 go1 step1) (fun r s13 ⟨u1, er, h13⟩ => ?_) fun _ _ z => z.elim
        subst er
        refine wpAny_mono h13 (fun _ s14 h14 => wpAny_mono h14 (fun _ s15 ⟨pl1, σ15, H15, I15, ⟨hw15, q15⟩, e15, k15⟩ => wpAny_tests_nil ?_) fun _ _ z => z.elim) fun _ _ z => z.elim
        have q16 := lfYes q15
        simp only [if_true] at q16 ⊢
        refine wpAny_mono (he _ s15 σ15 H15 _ I15 q16) (fun z s17 ⟨⟨yv, H17, I17, r17, acc, hD17, hz17, nx⟩, e17⟩ => ?_) fun _ _ z => z.elim
        refine wpAny_mono (app_g (X := X.blk s3 H3 scope (compEnvC scope cl C X.env) fp) I17 hD17 hz17 r17) (fun _ s18 ⟨I18, e18⟩ => ?_) fun _ _ z => z.elim
        obtain ⟨m', hm, w'⟩ := hNx1 _ nx
        refine ⟨m', hm, e18.trans (e17.trans (e15.trans e12)), j + 1, _, I18.unpinned.weak (by rw [← hw15, wipe_length]) (fun j v e => ?_), (k15 I18).1, (k15 I18).2, w'⟩
        rw [← hw15] at e
        exact (wipe_some e).1
    exact compStart1_ok lp (T1.self X.A 0 _ _ _ st11 lp)
theorem gds_setLc2 {i : Nat} {y : Str} {py spos : Pos} (hc : X.calm = true) (hN : X.N.Nodup) (hy : X.N[i]? = some y) (hyl : X.env.scope.names.lookup y = some .local)
    (hsw : swapsWith (.ListComp elt [⟨tg, iter, [], 0⟩, ⟨tg1, iter1, [], 0⟩] scope pos) (some (.Name y py)) spos.line X.env = pure true) (hi : GI X tg iter (lfI X.kf src)) (ok : BlkOk X.N X.env.scope scope own) (hv : ∀ i ∈ vs1, i ∈ own.map (·.2)) (gc : GC X.kf g dg (own.map (·.2))) (gc1 : GC X.kf g1 dg1 vs1)
    (hg : ∀ (s : Shared) (H : Hp) (C : Addr) (cl : List (Str × Addr)) (fp : List Addr), GG1 (X.blk s H scope (compEnvC scope cl C X.env) fp) tg g)
    (hi1 : ∀ (s : Shared) (H : Hp) (C : Addr) (cl : List (Str × Addr)) (fp : List Addr), GI (X.blk s H scope (compEnvC scope cl C X.env) fp) tg1 iter1 (lfI X.kf src1))
    (hg1 : ∀ (s : Shared) (H : Hp) (C : Addr) (cl : List (Str × Addr)) (fp : List Addr), GG1 (X.blk s H scope (compEnvC scope cl C X.env) fp) tg1 g1)
    (he : ∀ (s : Shared) (H : Hp) (C : Addr) (cl : List (Str × Addr)) (fp : List Addr), GE (X.blk s H scope (compEnvC scope cl C X.env) fp) elt (lf X.kf te)) (hs : ∀ x, foldedSetIterable iter X.env x = pure x := by intro _; rfl) (hs1 : ∀ env x, foldedSetIterable iter1 env x = pure x := by intro _ _; rfl) :
    GDS X (.Assign [.Name y py] (.ListComp elt [⟨tg, iter, [], 0⟩, ⟨tg1, iter1, [], 0⟩] scope pos) spos) (xAsg (dLc2 src (own.map (·.2)) dg dYes src1 vs1 dg1 dYes te) (gV i)) := fun pins s σ H D I h => by
  have h1 : lfI X.kf src σ H fun J H1 => ∀ A, H1 A = none → Lc2R (fun x H1 => gName i x σ H1 D.nx) g (lfB X.kf dYes) (lfI X.kf src1) g1 (lfB X.kf dYes) (lf X.kf te) (own.map fun x => x.2) vs1 σ J A (upd H1 A (.lst [])) :=
    lc2_frz gc gc1 (lfAsg (vs := [i]) (gc_name (by simp)) h)
  rw [exec_Assign_Name_used _ _ _ _ hsw]
  refine wpAny_bind (wpAny_standAt (wpAny_bind ?_))
  show wpAny _ X.A (comprehension (.ListComp elt [⟨tg, iter, [], 0⟩, ⟨tg1, iter1, [], 0⟩] scope pos) scope X.env _ (newList []) false (eval iter X.env) (some (assign (.Name y py) X.env)) >>= _) _ _ s
  refine wpAny_bind (wpAny_mono (lc_pre (Q := fun x H1 => gName i x σ H1 D.nx) (Qf := fun _ s' => SP X pins D .next s' ∧ s'.gens = s.gens) hc hN I hi ok hs h1 (fun it fp tn J D' C H3 s3 s4 cl T I4 st4 n4 e4 r => lc2_loop hc hv (hg s3 H3 C cl fp) (hi1 s3 H3 C cl fp) (hg1 s3 H3 C cl fp) (he s3 H3 C cl fp) hs1 T I4 st4 n4 e4 r) fun L C s' m H' I' q e' hn f => ?_) (fun _ s' hq => wpAny_pure (wpAny_pure hq)) fun _ _ z => z)
  show wpAny _ _ (assign (.Name y py) X.env (.ref L)) _ _ _
  obtain ⟨f0, f1, f2, f3, f4, f5⟩ := f
  refine wpAny_assign_Name (wpAny_mono (wpAny_both (E := fun _ _ => False) (store_ok2 (v := V.ref L) (Q := fun _ s2 => Inv X pins (σ.set i (some (V.ref L))) H' s2 ∧ ∃ a, Heap.SameBut a s'.heap s2.heap ∧ (a = X.env.locals ∨ X.env.cells.lookup y = some a)) I' hN hy (.inl hyl) rfl (fun s2 I2 z => ⟨I2, z⟩) (.inr hyl)) (store_g I' hy (.inl hyl) (.inr hyl))) (fun _ s2 ⟨⟨I2, a, sb, ha⟩, e2⟩ => ?_) fun _ _ z => z.2)
  have ne : C ≠ a := by
    rcases ha with z | z
    · rw [z]; exact f1
    · exact fun e => f4 y a z e.symm
  exact ⟨m, hn.sameBut sb ne, fun h3 sb3 => ⟨⟨_, H', I2.turned (t' := s2.toks) (fun b o hb e => (sb3.2 b hb).trans e) f0 f1 f3 f4 f5, q⟩, e2.trans e'⟩⟩
end
end Mn

set_option Elab.async false
set_option linter.all false
set_option maxRecDepth 100000
set_option maxHeartbeats 4000000
set_option autoImplicit false
namespace Mn
open PySem PySem.Spec PyProof.Rows L2 GenW
variable [Tbs]
/-! the last rules that leave the table of generators: names, isinstance, len(set(..)), range, for over data -/
section
variable {X : Cx} {a b e : Expr} {ta tb te : DT} {pos p p2 q : Pos} {es : List Expr} {tr : DA}
theorem gd_int {i : Int} {j : Nat} : GE X (.Constant (.int i) j pos) (lf X.kf (dC (.int i))) := gd_of ge_int fun _ => .int i
theorem gd_bl {k : Bool} {j : Nat} : GE X (.Constant (.bool k) j pos) (lf X.kf (dC (.bl k))) := gd_of ge_bl fun _ => .bl k
theorem gd_globI {x : Str} {v : Int} (h : Ci X.mg x v) (hg : Gl X x) (hd : (x == ("__debug__" : Str)) = false := by decide) : GE X (.Name x pos) (lf X.kf (dC (.int v))) := by
  obtain ⟨t, e⟩ := h
  exact gd_of (ge_of (pe_glob (v := .int v) hg e ⟨_, rfl⟩ hd) fun pins s σ H Q I h => ld_glob I hg e (Q := fun _ s' => s'.gens = s.gens) rfl hd) fun _ => .int v
theorem ge_bltn {x : Str} {v : V} {u : Value} (hg : Gl X x) (hm : X.mg x = none) (hv : bootBuiltins x = some u) (r : RelV v u) (hn : x ≠ "__name__") (hd : (x == ("__debug__" : Str)) = false) : GE X (.Name x pos) (tC v) :=
  ge_of (pe_bltn hg hm hv r hn hd) fun pins s σ H Q I h => ld_blt I hg hm hv (Q := fun _ s' => s'.gens = s.gens) rfl hn hd
theorem gd_isi {x : Str} {T : String} (ha : GE X a (lf X.kf ta)) (hg : Gl X "isinstance") (hm : X.mg "isinstance" = none) (hg2 : Gl X x) (hm2 : X.mg x = none) (hv2 : bootBuiltins x = some (.type T)) (hT : T ∈ ["bool", "int", "str", "tuple", "list", "dict"])
    (hs : starEach [a, .Name x p2] X.env = (false, eval a X.env) :: starEach [.Name x p2] X.env := by rfl) (hn : x ≠ "__name__" := by decide) (hdb : (x == ("__debug__" : Str)) = false := by decide) :
    GE X (.Call (.Name "isinstance" p) [a, .Name x p2] [] pos) (lf X.kf (dIsi T ta)) := fun pins s σ H Q I ⟨G, ro, m, Qd, hs1, hr, q, w⟩ => by
  have h : tCons (lf X.kf ta) (tCons (tC (.ty T)) tNil) σ H fun vs H1 => rIsiD X.kf vs H1 Q := by
    refine ⟨G, ro, m, _, hs1, hr, q, fun v H1 G1 m1 d s1 r1 h1 ⟨t, e, q1⟩ => ?_⟩
    obtain ⟨c, h2, h3⟩ := ty_is r1 h1 e
    exact ⟨v, .ty T, c, .type T, isiB t T, rfl, .ty T, h2, h3 T hT, w _ _ _ _ _ s1 r1 (.bl _) q1⟩
  have hA : GA X [a, .Name x p2] (tCons (lf X.kf ta) (tCons (tC (.ty T)) tNil)) := ga_cons ha (ga_cons (ge_bltn (v := .ty T) hg2 hm2 hv2 rfl hn hdb) ga_nil) hs
  refine wpAny_Call_Name_kw (ld_blt I hg hm (show bootBuiltins "isinstance" = some (.builtin "isinstance") by decide +kernel) ?_ (by decide) (by decide))
  exact PyProof.Rows.callWith_builtin1 (wpAny_mono (hA pos pins s σ H _ I h) (fun us s1 ⟨⟨vs, H1, I1, r1, q1⟩, e1⟩ => wpAny_mono (cg_isi pins s1 σ H1 vs us Q I1 r1 q1) (fun _ _ z => ⟨z.1, z.2.trans e1⟩) fun _ _ z => z) fun _ _ z => z) hs rfl
theorem gd_lenSet (hp : PD X a ta) (ha : GE X a (lf X.kf ta)) (hg : Gl X "len") (hm : X.mg "len" = none) (hg2 : Gl X "set") (hm2 : X.mg "set" = none) (hc : X.calm = true := by rfl)
    (na : starEach [a] X.env = (false, eval a X.env) :: starEach [] X.env := by rfl) : GE X (.Call (.Name "len" p) [.Call (.Name "set" p2) [a] [] q] [] pos) (lf X.kf (dLenSet ta)) := by
  refine ge_of (pd_lenSet hg hm hg2 hm2 hp hc na) fun pins s σ H Q I ⟨G, ro, m, Qd, hs, hr, qq, w⟩ => ?_
  have h : lf X.kf ta σ H fun v H1 => ∃ (l : Addr) (ns : List Int), v = .ref l ∧ SqT X.kf H1 l (ns.map V.int) ∧ ns.length ≤ 1000 := by
    refine ⟨G, ro, m, _, hs, hr, qq, fun v H1 G1 m1 d s1 r1 h1 ⟨ns, e, hl, q1⟩ => ?_⟩
    subst e
    cases h1 with
    | tup h2 h3 h4 =>
      rw [h3.ints] at h2
      exact ⟨_, ns, rfl, h2.sq r1.sub _, hl⟩
  refine Call_ (ld_blt I hg hm boot_len ?_)
  refine PyProof.Rows.callWith_builtin1 (PyProof.Rows.args_cons ?_ rfl) rfl rfl
  refine Call_ (ld_blt I hg2 hm2 boot_set ?_)
  refine PyProof.Rows.callWith_type1 (PyProof.Rows.args_cons (wpAny_mono (ha pins s σ H _ I h) (fun v s1 ⟨⟨x, H1, I1, r1, l, ns, ex, hq, hl⟩, e1⟩ => PyProof.Rows.args_nil ?_) fun _ _ z => z) na) na rfl
  subst ex
  cases r1
  obtain ⟨its, r, pt, hz⟩ := I1.tuple hq
  refine call_set_tupI ns (I1.ok.hd hc) (show s1.heap.IsTuple l its.toArray from pt) (ints_of_vals r) (by unfold scanBound; omega) fun h' tk c R1 hcn k => ?_
  obtain ⟨o, es, ep, t, ho, hex, hdt, g, nd, hm3, hb, hf, hn, hr, hl2⟩ := R1
  exact PyProof.Rows.args_nil (call_len_set ho hex hdt hf (by omega) e1)
theorem range_it2 {tg : Expr} {pins : List (Addr × Obj)} {σ : L2.St} {H : Hp} {s : Shared} {R : It → Hp → Prop} {lo hi : Int} {t u v : Tok} {tk : Nat} (I : Inv X pins σ H s) (h1 : -(2 ^ 62) ≤ lo) (h2 : lo < 2 ^ 62) (h3 : -(2 ^ 62) ≤ hi) (h4 : hi < 2 ^ 62) (q : R (Itr lo (hi - lo).toNat) H) :
    wpAny (model X.prog X.w) X.A (pyIter (.ref s.heap.objs.size)) (fun itv s2 => PIE2 X pins σ tg R itv s2 ∧ s2.gens = s.gens) (fun _ _ => False) { s with heap := s.heap.push { cls := .type "range", data := .fields #[.int lo t, .int hi u, .int 1 v] }, toks := tk } := by
  refine wpAny_pyIter_range (IsRange.new ..) (small_one h1 h2 h3 h4) ?_
  have I1 : Inv X pins σ H { s with heap := s.heap.push { cls := .type "range", data := .fields #[.int lo t, .int hi u, .int 1 v] }, toks := tk } := I.kept fun b o e => Heap.get?_push_of_some _ e
  refine ⟨⟨_, [_], _, _, H, rfl, I1.kept (t' := tk) fun b o e => Heap.get?_push_of_some _ e, turn2_range _ lo (hi - lo).toNat, ?_, fun b hb => ?_, q⟩, rfl⟩
  · have e1 : lo + ((0 : Nat) : Int) * 1 = lo := by simp
    have e2 : (((hi - lo).toNat : Nat) : Int) - ((0 : Nat) : Int) = Builtin.Range.rangeSize lo hi 1 := by rw [rangeSize_one]; split <;> omega
    show IsRangeIter _ _ (lo + ((0 : Nat) : Int) * 1) ((((hi - lo).toNat : Nat) : Int) - ((0 : Nat) : Int)) 1
    rw [e1, e2]
    exact Heap.get?_push_size _ rfl
  · rw [List.mem_singleton.mp hb]
    exact I1.fpOk (Nat.le_refl _) (I1.hok.fresh (Nat.le_refl _))
theorem gdi_rg1 {tg : Expr} (ha : GE X a (lf X.kf ta)) (hg : Gl X "range") (hm : X.mg "range" = none) (hs : starEach [a] X.env = [(false, eval a X.env)] := by rfl) (na : starEach [a] X.env = (false, eval a X.env) :: starEach [] X.env := by rfl) : GI X tg (.Call (.Name "range" p) [a] [] pos) (lfI X.kf (sRg1 ta)) := fun pins s σ H R I ⟨G, r, m, Q, hs1, hr, q, w⟩ => by
  have h : tCons (lf X.kf ta) tNil σ H fun vs H1 => ∃ j : Int, vs = [.int j] ∧ -(2 ^ 62) ≤ j ∧ j < 2 ^ 62 ∧ R (Itr 0 (j - 0).toNat) H1 := by
    refine ⟨G, r, m, _, hs1, hr, q, fun v H1 G1 m1 d s1 r1 h1 ⟨n, e, l1, l2, q1⟩ => ?_⟩
    subst e
    cases h1
    exact ⟨n, rfl, l1, l2, w (Itr 0 (n - 0).toNat) H1 G1 m1 _ s1 r1 (wk_rg 0 n) q1⟩
  have hA : GA X [a] (tCons (lf X.kf ta) tNil) := ga_cons ha ga_nil na
  refine Call_ (ld_blt I hg hm boot_range (PyProof.Rows.callWith_type1 (wpAny_mono (hA pos pins s σ H _ I h) (fun us s1 ⟨⟨vs, H1, I1, r1, j, ev, l1, l2, q1⟩, e1⟩ => ?_) fun _ _ z => z) hs rfl))
  subst ev
  cases r1 with
  | cons r rr =>
    cases rr
    obtain ⟨t, rfl⟩ := r
    exact call_range_1 (wpAny_mono (range_it2 I1 (by omega) (by omega) l1 l2 q1) (fun _ _ z => ⟨z.1, z.2.trans e1⟩) fun _ _ z => z)
end
section
variable {X : Cx} {tg iter : Expr} {body : List Stmt} {src : DI} {g : TG} {dg : DG} {tb : DS} {pos : Pos} {vs : List Nat}
theorem lfFor (gc : GC X.kf g dg vs) {E : Ends} {s : L2.St} {H : Hp} (h : lfS X.kf X.wx (xFor src dg tb) E s H) : tFor (lfI X.kf src) g (lfS X.kf X.wx tb) E s H := by
  obtain ⟨G, r, m, De, hs, hr, q, w⟩ := h
  refine ⟨G, r, m, _, hs, hr, q, fun J H1 G1 m1 items s1 r1 wk q1 => ?_⟩
  refine ⟨fun i k s' H' => i + k = items.length ∧ ∃ G' r' m', Stp G1 H1 m1 G' H' m' ∧ RpS X.kf G' r' s' ∧ Rl X.kf G' H' m' ∧ forGo dg tb De (items.drop i) r' m',
    ⟨items.length, by omega, G1, r, m1, Stp.refl, hs.same s1.g, r1, by rw [List.drop_zero]; exact q1⟩, fun i k s' H' ⟨ek, G', r', m', st, rs, rl, qq⟩ => ?_⟩
  by_cases hi : i < items.length
  · have ed : items[i]? = some items[i] := List.getElem?_eq_getElem hi
    rw [List.drop_eq_getElem_cons hi] at qq
    obtain ⟨go, yl⟩ := wk.go G' H' m' i _ st.g rl ed
    refine .inr ⟨go, fun s2 H2 => (i + 1) + (k - 1) = items.length ∧ ∃ G' r' m', Stp G1 H1 m1 G' H2 m' ∧ RpS X.kf G' r' s2 ∧ Rl X.kf G' H2 m' ∧ forGo dg tb De (items.drop (i + 1)) r' m',
      fun s2 H2 h2 => ⟨k - 1, by omega, h2⟩, fun x H2 hy => ?_⟩
    obtain ⟨G2, rl2, st2, rx⟩ := yl x H2 hy
    refine gc G2 H2 m' s' r' x _ _ _ rl2 (rs.same st2.g) rx qq fun s3 r3 rs3 _ q3 => ?_
    have base := s1.trans (st.trans st2)
    refine ⟨G2, r3, m', _, rs3, rl2, q3, ⟨fun s4 H4 G4 r4 m4 st4 rs4 rl4 q4 => ⟨by omega, G4, r4, m4, (st.trans st2).trans st4, rs4, rl4, q4⟩, w.rt.after base,
      fun s4 H4 G4 r4 m4 st4 rs4 rl4 q4 => w.nx _ _ _ _ _ (base.trans st4) rs4 rl4 q4, fun s4 H4 G4 r4 m4 st4 rs4 rl4 q4 => ⟨by omega, G4, r4, m4, (st.trans st2).trans st4, rs4, rl4, q4⟩, (w.after base).ex⟩⟩
  · have ei : i = items.length := by omega
    subst ei
    rw [List.drop_length] at qq
    exact .inl ⟨wk.stop G' H' m' st.g rl, w.nx _ _ _ _ _ (s1.trans st) rs rl qq⟩
theorem gds_for (hc : X.calm = true) (hi : GI X tg iter (lfI X.kf src)) (hg : GG1 X tg g) (gc : GC X.kf g dg vs) (hb : GDSs X body tb) (hs : ∀ x, foldedSetIterable iter X.env x = pure x := by intro _; rfl) : GDS X (.For tg iter body [] pos) (xFor src dg tb) :=
  gsM (gs1_for hc hi hg hb hs) fun _ _ _ h => lfFor gc h
/-- ints alone -/
def aAddI : DR2 := fun x y m Q => match x, y with
  | .int i, .int j => Q (.int (i + j)) m
  | _, _ => False
theorem c2_addI {K : KF} : C2 K (rI0 fun i j => .int (i + j)) aAddI := c2I0 (gd := fun i j => .int (i + j)) (fun x y m Q h => by cases x <;> cases y <;> first | exact ⟨_, _, rfl, rfl, h⟩ | exact False.elim h) fun _ _ _ => .int _
theorem og_add : OpG X (binaryOp .Add) (rI0 fun i j => .int (i + j)) := og_i0 fun _ _ _ _ _ _ _ q => add_int q
end
end Mn

set_option Elab.async false
set_option linter.all false
set_option maxRecDepth 100000
set_option maxHeartbeats 4000000
set_option autoImplicit false
namespace Mn
open PySem PySem.Spec PyProof.Rows L2 GenW
variable [Tbs]
/-! turns, the list as it stands at each -/
def EvA (M : Model) (A : Around) (it L F : Addr) (N : Nat) : Nat → Shared → End → Shared → Prop
  | 0 => fun s e s' => Mv it F s s' ∧ e = .ret (.ok (.ret .none))
  | r + 1 => fun s e s' => Mv it F s s' ∧ ∃ items v k l c p fs, items.size = N ∧ s.heap.IsList L items ∧ items[N - (r + 1)]? = some v ∧ e = .susp v false l k c p fs ∧ fs.any Frame.guarded = false ∧ Lp it L F items (N - r) s' ∧
      ∀ (items2 : Array Value) (s2 : Shared), items2.size = N → Lp it L F items2 (N - r) s2 → One M A (EvA M A it L F N r s2) c (k (.send .none)) fs s2
theorem list_one {h : Heap} {L : Addr} {a b : Array Value} (x : h.IsList L a) (y : h.IsList L b) : a = b := by
  obtain ⟨o, e, _, n, d⟩ := x
  obtain ⟨o2, e2, _, n2, d2⟩ := y
  rw [e] at e2
  cases e2
  rw [d] at d2
  cases d2
  rfl
/-- from there on with a list that stays -/
theorem EvA.ev {M : Model} {A : Around} {it L F : Addr} {items : Array Value} : ∀ {r : Nat} {s s' : Shared} {e : End}, s.heap.IsList L items → EvA M A it L F items.size r s e s' → Ev M A it L F items r s e s'
  | 0, _, _, _, _, h => h
  | r + 1, s, s', e, hl, ⟨mv, it2, v, k, l, c, p, fs, e1, e2, e3, e4, e5, e6, e7⟩ => by
    cases list_one hl e2
    exact ⟨mv, v, k, l, c, p, fs, e3, e4, e5, e6, fun s2 lp => one_mono (e7 items s2 rfl lp) fun e1 s3 z => EvA.ev lp.ls z⟩
theorem one_turns2 {prog : Program} {w : World} {A : Around} {env : Env} {y : Str} {py p2 yp ep p : Pos} {K : Flow → Sem PySem.Fin} {H : Value → Sem PySem.Fin} {gd : Bool → Bool} {lv : List Value → List Value} {c : Code} {it L : Addr} {N : Nat} (hy : env.kindOf y = some .local) (hkd : env.scope.kind = .function) (hco : env.scope.isCoroutine = false) (hi : interactive env = false)
    (hdb : (y == ("__debug__" : Str)) = false) (hgd : gd false = false)
    (hh : (A.over (.forLoop (.Name y py) (.ref it) [.Expr (.Yield (some (.Name y p2)) yp) ep] [] env) [.ret (fun r => ((match r with | .ok f => (.pure f : Sem Flow) | .error e => .raise e).onRaise (cameBack env)).wrap K H gd lv) none (gd false) (lv []) c p []]).handled = none)
    (hK : ∀ (Ph : End → Shared → Prop) (s : Shared), Ph (.ret (.ok (.ret .none))) s → One (model prog w) A Ph c (K .next) [] s) :
    ∀ (r i : Nat) (items : Array Value) (s s0 : Shared), items.size = N → s0.heap.IsList L items → i + r = N → Lp it L env.locals items i s → Mv it env.locals s0 s → One (model prog w) A (EvA (model prog w) A it L env.locals N r s0) (.forLoop (.Name y py) (.ref it) [.Expr (.Yield (some (.Name y p2)) yp) ep] [] env)
      ((model prog w).den (.forLoop (.Name y py) (.ref it) [.Expr (.Yield (some (.Name y p2)) yp) ep] [] env)) [.ret (fun r => ((match r with | .ok f => (.pure f : Sem Flow) | .error e => .raise e).onRaise (cameBack env)).wrap K H gd lv) none (gd false) (lv []) c p []] s := by
  intro r
  induction r with
  | zero =>
    intro i items s s0 hN hl0 hr lp mv
    refine one_forLoop (fun _ _ => False) (fun _ _ z => z.elim) (wpAny_pyNext_list_end hh lp.it lp.ls (Array.getElem?_eq_none (by omega)) fun h' hk => ?_)
    exact one_again rfl (one_leaf (.ok .next) (hK _ _ ⟨mv.heap fun b o h1 _ e => hk b o h1 e, rfl⟩))
  | succ r ih =>
    intro i items s s0 hN hl0 hr lp mv
    obtain ⟨a1, a2, a3⟩ := lp.apart
    have hi' : i < items.size := by omega
    refine one_forLoop (fun _ _ => False) (fun _ _ z => z.elim) (wpAny_pyNext_list_item lp.it lp.ls (x := items[i]) (Array.getElem?_eq_getElem hi') fun h1 it1 sb1 => ?_)
    have ls1 := lp.ls.extBut sb1.extBut a1
    obtain ⟨m, ns⟩ := lp.ns
    have ns1 : h1.Ns env.locals m := ns.at' fun o e => sb1.extBut _ _ a2 e
    refine wpAny_of_eq (a := ()) rfl (wpAny_assign_Name (wpAny_storeName_local hy ns1 (fun h2 ns2 sb2 => ?_) (by rw [hkd]; rfl)))
    have ls2 := ls1.extBut sb2.extBut a3
    have it2 := it1.extBut sb2.extBut (Ne.symm a2)
    refine one_cons (one_yieldS rfl rfl (by show (gd false || _) = false; rw [hgd]; rfl) hco hi (wpAny_Name (wpAny_loadName_local hkd hy ns2 (v := items[i]) (by simp) ?_) hdb))
    intro k l p1 g hg hk
    subst hg
    refine ⟨mv.heap fun b o n1 n2 e => sb2.extBut b o n2 (sb1.extBut b o n1 e), items, items[i], k, l, _, p1, _, hN, hl0, ?_, rfl, ?_, ?_, fun items2 s2 hN2 lps2 => ?_⟩
    · rw [show N - (r + 1) = i by omega]
      exact Array.getElem?_eq_getElem hi'
    · show (gd false || _) = false
      rw [hgd]; rfl
    · rw [show N - r = i + 1 by omega]
      exact ⟨it2, ls2, _, ns2⟩
    · rw [show N - r = i + 1 by omega] at lps2
      exact hk _ s2 (one_again rfl (ih (i + 1) items2 s2 s2 hN2 lps2.ls (by omega) lps2 .refl))
/-! a generator def whose first run leaves the table of generators -/
/-- what the first wake leads to, and the table -/
def Fe2 (X : Cx) (Aw : Around) (G H : Hp) (m : Mu) (Qd : List D → Mu → Prop) (s0 : Shared) (e : End) (s' : Shared) : Prop :=
  ∃ (s1 : Shared) (σ1 : L2.St) (G' H' : Hp) (m' : Mu) (os : List D) (vs : List V) (L it : Addr) (items : Array Value),
    Inv X [] σ1 H' s1 ∧ s1.gens = s0.gens ∧ Stp G H m G' H' m' ∧ Rl X.kf G' H' m' ∧ H' L = some (.lst vs) ∧ G' L = some (.lst vs) ∧ RpL X.kf G' os vs ∧ Vals vs items.toList ∧ os.length ≤ sizeLine ∧ Qd os m' ∧ (∀ p ∈ X.pn, p.1 ≠ it) ∧ X.s_0.heap.objs.size ≤ it ∧ H' it = none ∧ Lp it L X.env.locals items 0 s1 ∧
      EvA (model X.prog X.w) Aw it L X.env.locals items.size items.size s1 e s'
theorem first_run2 {X : Cx} {Aw : Around} {st : Stmt} {e : Expr} {y : Str} {py p2 yp ep pos : Pos} {t0 : DS} {te : DT} {σ : L2.St} {H G : Hp} {r : Ro} {m : Mu} {s : Shared} {Qd : List D → Mu → Prop}
    (hA : Aw.deeper X.env = X.A) (hd : X.A.handled = none) (hy : X.env.kindOf y = some .local) (hkd : X.env.scope.kind = .function) (hco : X.env.scope.isCoroutine = false) (hi : interactive X.env = false) (hdb : (y == ("__debug__" : Str)) = false)
    (h0 : GDS X st t0) (h1 : GE X e (lf X.kf te)) (hs : ∀ v, foldedSetIterable e X.env v = pure v) (I : Inv X [] σ H s) (rs : RpS X.kf G r σ) (rl : Rl X.kf G H m)
    (q : t0 { nx := fun r1 m1 => te r1 m1 fun o m2 => ∃ os, o = .lst os ∧ os.length ≤ sizeLine ∧ Qd os m2, rt := fun _ _ => False } r m) :
    One (model X.prog X.w) Aw (Fe2 X Aw G H m Qd s) (.func [st, .For (.Name y py) e [.Expr (.Yield (some (.Name y p2)) yp) ep] [] pos] X.env)
      ((model X.prog X.w).den (.func [st, .For (.Name y py) e [.Expr (.Yield (some (.Name y p2)) yp) ep] [] pos] X.env)) [] s := by
  refine one_func (one_cons (one_wrap ?_))
  rw [over_func, hA]
  refine wpAny_mono (h0 [] s σ H { nx := fun σ1 H1 => ∃ G1 r1 m1, Stp G H m G1 H1 m1 ∧ RpS X.kf G1 r1 σ1 ∧ Rl X.kf G1 H1 m1 ∧ te r1 m1 fun o m2 => ∃ os, o = .lst os ∧ os.length ≤ sizeLine ∧ Qd os m2, rt := fun _ _ => False } I
    ⟨G, r, m, _, rs, rl, q, ⟨fun s1 H1 G1 r1 m1 s2 r2 r3 q1 => ⟨G1, r1, m1, s2, r2, r3, q1⟩, fun _ _ _ _ _ _ _ _ z => z.elim, fun _ _ _ _ _ _ _ _ z => z.elim, fun _ _ _ _ _ _ _ _ z => z.elim, fun _ _ _ _ _ _ _ _ _ _ _ _ z => z.elim⟩⟩) (fun f s1 ⟨hf, eg⟩ => ?_) fun x s1 z => z.elim
  cases f with
  | brk => obtain ⟨_, _, _, z⟩ := hf; exact z.elim
  | cont => obtain ⟨_, _, _, z⟩ := hf; exact z.elim
  | ret u => obtain ⟨_, _, _, _, _, z⟩ := hf; exact z.elim
  | next =>
    obtain ⟨σ1, H1, I1, G1, r1, m1, st1, rs1, rl1, q1⟩ := hf
    refine one_cons (one_for ?_ hs)
    rw [over_func, hA]
    refine wpAny_mono (h1 [] s1 σ1 H1 _ I1 ⟨G1, r1, m1, _, rs1, rl1, q1, fun v H2 G2 m2 d st2 rl2 rv qd => (⟨G2, m2, d, st2, rl2, rv, qd⟩ : ∃ G2 m2 d, Stp G1 H1 m1 G2 H2 m2 ∧ Rl X.kf G2 H2 m2 ∧ Rp X.kf G2 d v ∧ ∃ os, d = .lst os ∧ os.length ≤ sizeLine ∧ Qd os m2)⟩) (fun u s2 ⟨hu, eg2⟩ => ?_) fun x s2 z => z.elim
    obtain ⟨v, H2, I2, ru, G2, m2, d, st2, rl2, rv, os, ed, hz, hq⟩ := hu
    subst ed
    cases rv with
    | @lst L ds vs gL rp z =>
      obtain rfl : u = Value.ref L := ru
      have hL : H2 L = some (.lst vs) := rl2.sub _ _ gL
      obtain ⟨zl, its, c, rits, eL⟩ := I2.hok L _ hL
      have ls : s2.heap.IsList L its.toArray := ⟨_, eL, rfl, c, rfl⟩
      refine wpAny_pyIter_list ls fun p => ?_
      have kp : ∀ b o, s2.heap.get? b = some o → (s2.heap.push { cls := .type "list_iterator", data := .fields #[.ref L, .int 0 0] }).get? b = some o := fun b o e => Heap.get?_push_of_some _ e
      have I3 := I2.kept (t' := s2.toks) kp
      have lp : Lp s2.heap.objs.size L X.env.locals its.toArray 0 { s2 with heap := s2.heap.push { cls := .type "list_iterator", data := .fields #[.ref L, .int 0 0] } } :=
        ⟨⟨_, Heap.get?_push_size _ rfl, rfl, rfl⟩, ⟨_, kp _ _ eL, rfl, c, rfl⟩, let ⟨mm, hm, _⟩ := I3.loc; ⟨mm, hm⟩⟩
      refine one_mono (one_turns2 hy hkd hco hi hdb rfl ?_ (fun Ph s3 z => one_end (.ok (.ret .none)) z) its.toArray.size 0 its.toArray _ _ rfl lp.ls (Nat.zero_add _) lp .refl) fun e3 s3 he => ⟨_, σ1, G2, H2, m2, os, vs, L, s2.heap.objs.size, its.toArray, I3, eg2.trans eg, st1.trans st2, rl2, hL, gL, rp, rits, hz, hq, fun p hp => Nat.ne_of_lt (Heap.lt_size (I2.pin p (List.mem_append_left _ hp)).1), I2.sz, I2.hok.fresh (Nat.le_refl _), lp, he⟩
      rw [over_loop rfl rfl, over_func, hA]
      exact hd
end Mn

set_option Elab.async false
set_option linter.all false
set_option maxRecDepth 100000
set_option maxHeartbeats 4000000
set_option autoImplicit false
namespace Mn
open PySem PySem.Spec PyProof.Rows L2 GenW
variable [Tbs]
/-! a generator def's promise, with the table: two of them side by side -/
/-- made: and nothing else is laid -/
def Mk2 (P : Program) (w : World) (K : PySem.W.Frag) (mg : Str → Option Value) (base : Heap) (N : List Str) (qual : Str) (scope : Scope) (f : Addr) (cd : Value) (body : List Stmt) (outer : List Env) (s : Shared) (H : Hp) (vs : List V) (u : Value) (s' : Shared) : Prop :=
  Mk1 P w K mg base N qual scope f cd body outer s H vs u s' ∧ u = .ref (s.heap.objs.size + 1) ∧ s'.heap.objs.size = s.heap.objs.size + 2 ∧ ∀ b o, s'.heap.get? b = some o → s.heap.get? b = some o ∨ b = s.heap.objs.size ∨ b = s.heap.objs.size + 1
theorem push_only {h : Heap} {o x : Obj} {b : Addr} (e : (h.push o).get? b = some x) : h.get? b = some x ∨ b = h.objs.size := by
  by_cases hb : b = h.objs.size
  · exact .inr hb
  · obtain ⟨e1, e2⟩ := Heap.get?_some_iff.mp e
    refine .inl (Heap.get?_some_iff.mpr ⟨?_, e2⟩)
    have e3 : (h.objs.push o)[b]? = some x := e1
    rw [Array.getElem?_push, if_neg hb] at e3
    exact e3
theorem mk2_call {P : Program} {w : World} {K : PySem.W.Frag} {mg : Str → Option Value} {base : Heap} {k : Nat} {f : Addr} {name qual : Str} {params : Arguments} {body : List Stmt} {scope : Scope} {dV kV doc pm cdv ct oc : Value} {an od : Option Addr}
    {osl : Array (Option Value)} {N ps : List Str} (lk : K.lookup f = some ⟨oc, od, .func (PySem.W.fnOf name qual params body scope dV kV doc pm an cdv ct), osl⟩) (hcd : PySem.W.codeIn K cdv qual = true) (S : GScope N ps scope) (hcell : ∀ y ∈ scope.names, y.2 ≠ .cell)
    {A : Around} {outer : List Env} {s : Shared} {H : Hp} {args : Args} {us : List Value} {vs : List V} (hl : vs.length = ps.length) (hr : Room (k + 1) A) (e0 : Env0 P w K mg base A outer s H) (hb : BindsTo s (PySem.W.fnOf name qual params body scope dV kV doc pm an cdv ct) args (ps.zip us)) (r : Vals vs us) :
    codeAny (model P w) A (.call (.ref f) args) (fun r s' => match r with | .ok (.ret u) => Mk2 P w K mg base N qual scope f cdv body outer s H vs u s' | _ => False) s := by
  have KX : K.In s.heap := e0.mod.kin.keeps fun b o e => (e0.bs b o e).1
  have lim : s.heap.NoLimit := e0.mod.nolimit.keeps fun b o e => (e0.bs b o e).1
  have sized : codeAny (model P w) A (.call (.ref f) args) (fun r s' => r = .ok (.ret (.ref (s.heap.objs.size + 1))) ∧ s'.heap.objs.size = s.heap.objs.size + 2 ∧ ∀ b o, s'.heap.get? b = some o → s.heap.get? b = some o ∨ b = s.heap.objs.size ∨ b = s.heap.objs.size + 1) s := by
    refine codeAny_call_generator hr.depth (KX _ _ lk) rfl S.co S.gen rfl (PySem.W.codeRec_of KX hcd) (hb _ _ _ _ (wpAny_newFunctionEnv hcell (fun y hy => ?_) (fun h1 hns hsb => ?_) S.kind))
    · obtain ⟨n, v⟩ := y
      refine (S.par n (List.of_mem_zip hy).1).elim (fun q => q) fun q => ?_
      exact absurd rfl (hcell _ (PySem.mem_of_lookup q))
    · have z1 : h1.objs.size = s.heap.objs.size + 1 := by rw [hsb.1, Heap.size_push]
      refine ⟨lim.keeps fun b o e => hsb.extBut b o (Nat.ne_of_lt (Heap.lt_size e)) (Heap.get?_push_of_some _ e), ?_, ?_, fun b o e => ?_⟩
      · show Except.ok (Flow.ret (Value.ref h1.objs.size)) = _
        rw [z1]
      · show (h1.push _).objs.size = _
        rw [Heap.size_push, z1]
      · rcases push_only e with e1 | e1
        · by_cases hb : b = s.heap.objs.size
          · exact .inr (.inl hb)
          · rw [hsb.2 b hb] at e1
            exact (push_only e1).imp id .inl
        · exact .inr (.inr (e1.trans z1))
  refine codeAny_mono (codeAny_both (mk1_call lk hcd S hl hr e0 hb r) sized) fun r s' ⟨h1, er, z⟩ => ?_
  subst er
  exact ⟨h1, rfl, z⟩
/-- behind the first run: what is known -/
structure Fo2 (P : Program) (w : World) (K : PySem.W.Frag) (outer : List Env) (ex : List Addr) (pn : List (Addr × Obj)) (s : Shared) (H G2 H2 : Hp) (m2 : Mu) (Qd : DK) (s' : Shared) (G' H' : Hp) (m' : Mu) (os : List D) (vs : List V) (L it : Addr) : Prop where
  os_ : s'.os = s.os
  un : Un (frs outer) ex H H' s.heap s'.heap
  hok : HOk P w H' s'.heap
  pin : ∀ p ∈ pn, s'.heap.get? p.1 = some p.2 ∧ H' p.1 = none ∧ p.1 ≠ it
  hF : H' s.heap.objs.size = none
  st : Stp G2 H2 m2 G' H' m'
  rl : Rl ⟨K, w, Tbs.T⟩ G' H' m'
  hL : H' L = some (.lst vs)
  gL : G' L = some (.lst vs)
  rp : RpL ⟨K, w, Tbs.T⟩ G' os vs
  len : os.length ≤ sizeLine
  q : Qd (.lst os) m'
  new : s.heap.objs.size ≤ it
  hit : H' it = none
/-- one item out, the rest to come -/
def Out1 (M : Model) (Aw : Around) (it L F : Addr) (n : Nat) (vs : List V) (e : End) (s' : Shared) : Prop :=
  ∃ items v k l c p fs, items.size = n ∧ items[0]? = some v ∧ Vals vs items.toList ∧ e = .susp v false l k c p fs ∧ fs.any Frame.guarded = false ∧ Lp it L F items 1 s' ∧
    ∀ (items2 : Array Value) (s3 : Shared), items2.size = n → Lp it L F items2 1 s3 → One M Aw (EvA M Aw it L F n (n - 1) s3) c (k (.send .none)) fs s3
def Wk2 (P : Program) (w : World) (K : PySem.W.Frag) (base : Heap) (k : Nat) (outer : List Env) (s : Shared) (H : Hp) (vs : List V) (d : DSp) (s' : Shared) (c : Code) : Prop :=
  ∀ (Aw : Around) (ex : List Addr) (pn : List (Addr × Obj)) (G2 H2 : Hp) (m2 : Mu) (ds : List D) (Qd : DK) (s2 : Shared), Room k Aw → Aw.frames = some outer → (∀ b ∈ ex, s.heap.objs.size ≠ b ∧ b < s.heap.objs.size ∧ base.get? b = none ∧ b ∉ frs outer) → s2.os = s'.os → Un (frs outer) ex H H2 s'.heap s2.heap →
    HOk P w H2 s2.heap → AllBare s2.gens → (∀ p ∈ pn, s2.heap.get? p.1 = some p.2 ∧ H2 p.1 = none ∧ p.1 ≠ s.heap.objs.size ∧ p.1 ∉ frs outer ∧ ∀ v, p.2.data ≠ .cell v) → RpL ⟨K, w, Tbs.T⟩ G2 ds vs → Rl ⟨K, w, Tbs.T⟩ G2 H2 m2 → d ds m2 Qd →
    One (model P w) Aw (fun e s3 => ∃ G' H' m' os vs' L it, s3.gens = s2.gens ∧ Fo2 P w K outer ex pn s H G2 H2 m2 (fun o m4 => ∃ m3 : Mu, (∀ a u, m3 a = some u → m4 a = some u) ∧ Qd o m3) s3 G' H' m' os vs' L it ∧
      ((os = [] ∧ e = .ret (.ok (.ret .none))) ∨ Out1 (model P w) Aw it L s.heap.objs.size os.length vs' e s3)) c ((model P w).den c) [] s2
/-- a generator that has not begun -/
structure Md2 (P : Program) (w : World) (K : PySem.W.Frag) (base : Heap) (k : Nat) (outer : List Env) (s : Shared) (H : Hp) (vs : List V) (d : DSp) (g : Nat) (c : Code) (go oF : Obj) (s' : Shared) : Prop where
  only : ∀ b o, s'.heap.get? b = some o → s.heap.get? b = some o ∨ b = s.heap.objs.size ∨ b = s.heap.objs.size + 1
  sz : s'.heap.objs.size = s.heap.objs.size + 2
  ega : s'.heap.get? (s.heap.objs.size + 1) = some go
  gnc : ∀ v, go.data ≠ .cell v
  gis : ∀ h : Heap, h.get? (s.heap.objs.size + 1) = some go → h.IsGen (s.heap.objs.size + 1) g
  eg : g = s.gens.size
  eg2 : s'.gens[g]? = some (.fresh c)
  keepg : ∀ (i : Nat) (x : GenState), s.gens[i]? = some x → s'.gens[i]? = some x
  os_ : s'.os = s.os
  bare : AllBare s'.gens
  lim : s'.heap.NoLimit
  kp : ∀ b o, s.heap.get? b = some o → s'.heap.get? b = some o
  eF : s'.heap.get? s.heap.objs.size = some oF
  oFn : ∀ v, oF.data ≠ .cell v
  wake : Wk2 P w K base k outer s H vs d s' c
structure GF2 (P : Program) (w : World) (K : PySem.W.Frag) (mg : Str → Option Value) (base : Heap) (k : Nat) (f : Addr) (fd : FuncData) (ps : List Str) (d : DSp) : Prop where
  len : ∀ ds m Q, d ds m Q → ds.length = ps.length
  run : ∀ (A : Around) (outer : List Env) (s : Shared) (H : Hp) (args : Args) (us : List Value) (vs : List V), vs.length = ps.length → Room k A → Env0 P w K mg base A outer s H → BindsTo s fd args (ps.zip us) → Vals vs us →
    codeAny (model P w) A (.call (.ref f) args) (fun r s' => r = .ok (.ret (.ref (s.heap.objs.size + 1))) ∧ ∃ g c go oF, Md2 P w K base k outer s H vs d g c go oF s') s
def CG2 (P : Program) (w : World) (K : PySem.W.Frag) (mg : Str → Option Value) (base : Heap) (x : Str) (k : Nat) (ps : List Str) (d : DSp) : Prop :=
  ∃ f fd, mg x = some (.ref f) ∧ PySem.W.keepIn K (.ref f) = true ∧ Binds K fd ps [] ∧ GF2 P w K mg base k f fd ps d
theorem gnC2 {P : Program} {w : World} {K : PySem.W.Frag} {mg : Str → Option Value} {base : Heap} {x : Str} {st s0 : Stmt} {y : Str} {e : Expr} {py p2 yp ep pos : Pos} {N ps : List Str} {k : Nat} {t0 : DS} {te : DT} {d : DSp} (h : ∃ f fd, Df K mg x st ps f fd)
    (S : GScope N ps (defScope st)) (hcell : ∀ y ∈ (defScope st).names, y.2 ≠ .cell) (hy : (defScope st).names.lookup y = some .local) (hdb : (y == ("__debug__" : Str)) = false) (hbd : defBody st = [s0, .For (.Name y py) e [.Expr (.Yield (some (.Name y p2)) yp) ep] [] pos]) (hl : ∀ ds m Q, d ds m Q → ds.length = ps.length) (hb : GBodyL N.length t0 te d)
    (der : ∀ (f : Addr) (cdv : Value) (A : Around) (outer : List Env) (s : Shared) (H : Hp) (ex : List Addr) (pn : List (Addr × Obj)), Room k (A.deeper (envOfC x (defScope st) s.heap.objs.size f cdv)) →
      GDS (gcx1 P w K mg base N x (defScope st) f cdv A outer s H ex pn) s0 t0 ∧ GE (gcx1 P w K mg base N x (defScope st) f cdv A outer s H ex pn) e (lf ⟨K, w, Tbs.T⟩ te) ∧
      (∀ v, foldedSetIterable e (gcx1 P w K mg base N x (defScope st) f cdv A outer s H ex pn).env v = pure v) ∧ interactive (gcx1 P w K mg base N x (defScope st) f cdv A outer s H ex pn).env = false) :
    CG2 P w K mg base x (k + 1) ps d := by
  obtain ⟨f, fd, Dd⟩ := h
  refine ⟨f, fd, Dd.g, Dd.F.kp, Dd.b, hl, fun A outer s H args us vs hlv hr e0 bd rv => ?_⟩
  obtain ⟨oc, od, kV, doc, pm, an, cdv, ct, osl, rfl, lk, hcd⟩ := Dd.F.ex
  refine codeAny_mono (mk2_call lk hcd S hcell hlv hr e0 bd rv) fun r s' hq => ?_
  cases r with
  | error e => exact hq.elim
  | ok fl =>
    cases fl with
    | next => exact hq.elim
    | brk => exact hq.elim
    | cont => exact hq.elim
    | ret u =>
      obtain ⟨⟨a, g, go, eu, h1, h2, h3, h4, h5, h6, h7, h8, h9, h10, h11, h12, hI⟩, eu2, hsz, hon⟩ := hq
      have ea : a = s.heap.objs.size + 1 := by rw [eu] at eu2; exact Value.ref.inj eu2
      subst ea
      obtain ⟨m0, ⟨oF, es, ep0, hoF, hdF, hrF⟩, _⟩ := (hI A hr.hd e0.frames).loc
      have hoF : s'.heap.get? s.heap.objs.size = some oF := hoF
      refine ⟨by rw [eu], g, _, go, oF, hon, hsz, h3, h4, (fun hh => h5 hh), h6, h7, h8, h9, h10, h11, h12, hoF, (fun v z => by rw [hdF] at z; cases z), fun Aw ex pn G2 H2 m2 ds Qd s2 hrw hfr hex os2 un2 hok2 hb2 hpn rp rl q => ?_⟩
      have hFn : s.heap.objs.size ∉ frs outer := fun z => by
        obtain ⟨_, o1, e1, _⟩ := e0.funs.mem z
        exact absurd (Heap.lt_size e1) (Nat.lt_irrefl _)
      have I2 : Inv (gcx1 P w K mg base N x (defScope st) f cdv Aw outer s H ex pn) [] (L2.start N vs) H2 s2 :=
        inv_wake (hI Aw hrw.hd hfr) (fun b hb => ⟨Ne.symm (hex b hb).1, (hex b hb).2.2.1, (hex b hb).2.2.2, fun y c hy z => absurd ((hI A hr.hd e0.frames).ok.cab y c rfl hy) (by rw [z]; exact Nat.not_le.mpr (hex b hb).2.1)⟩) os2 un2 hFn hok2 hb2 hpn
      obtain ⟨a1, a2, a3, a4⟩ := der f cdv Aw outer s H ex pn (hrw.deeper _)
      have R1 := first_run2 (X := gcx1 P w K mg base N x (defScope st) f cdv Aw outer s H ex pn) (Aw := Aw) (y := y) (py := py) (p2 := p2) (yp := yp) (ep := ep) (pos := pos) rfl (hrw.deeper (envOfC x (defScope st) s.heap.objs.size f cdv)).hd hy S.kind S.co a4 hdb a1 a2 a3 I2 (rps_start rp) rl (hb ds m2 Qd q)
      rw [hbd]
      refine one_mono R1 fun e1 s3 ⟨s1, σ1, G', H', m', os, vs', L, it, items, I1, eg1, st1, rl1, hL, gL, rp1, va, len, qd, hpi, new, hit, lp, ev⟩ => ?_
      have zi : items.size = os.length := by
        have l0 : vs'.length = items.size := by simpa using va.length
        exact l0.symm.trans rp1.len.symm
      have key : Mv it s.heap.objs.size s1 s3 → s3.gens = s2.gens ∧ Fo2 P w K outer ex pn s H G2 H2 m2 (fun o m4 => ∃ m3 : Mu, (∀ a u, m3 a = some u → m4 a = some u) ∧ Qd o m3) s3 G' H' m' os vs' L it := fun mv => by
        have ne1 : ∀ b, b < s.heap.objs.size → b ≠ it ∧ b ≠ s.heap.objs.size := fun b hb => ⟨fun z => by rw [z] at hb; exact absurd (Nat.lt_of_lt_of_le hb new) (Nat.lt_irrefl _), Nat.ne_of_lt hb⟩
        refine ⟨mv.gens.trans eg1, mv.os.trans I1.os, un_later I1.base fun b o hb e => mv.keep b o (ne1 b hb).1 (ne1 b hb).2 e, hok_later I1.hok fun b o hb e => mv.keep b o (fun z => hb (by rw [z]; exact hit)) (fun z => hb (by rw [z]; exact I1.free)) e,
          fun p hp => ?_, I1.free, st1, rl1, hL, gL, rp1, len, qd, new, hit⟩
        obtain ⟨p1, p2, p3, _⟩ := I1.pin p (List.mem_append_left _ hp)
        exact ⟨mv.keep p.1 p.2 (hpi p hp) p3 p1, p2, hpi p hp⟩
      rw [zi] at ev
      cases eo : os.length with
      | zero =>
        rw [eo] at ev
        exact ⟨G', H', m', os, vs', L, it, (key ev.1).1, (key ev.1).2, .inl ⟨List.length_eq_zero_iff.mp eo, ev.2⟩⟩
      | succ r =>
        rw [eo] at ev
        obtain ⟨mv, it2, v, k1, l1, c1, p1, fs1, e1, e2, e3, e4, e5, e6, e7⟩ := ev
        cases list_one e2 lp.ls
        rw [show r + 1 - (r + 1) = 0 by omega] at e3
        rw [show r + 1 - r = 1 by omega] at e6 e7
        refine ⟨G', H', m', os, vs', L, it, (key mv).1, (key mv).2, .inr ⟨items, v, k1, l1, c1, p1, fs1, zi, e3, va, e4, e5, e6, ?_⟩⟩
        rw [eo]
        exact e7
end Mn

set_option Elab.async false
set_option linter.all false
set_option maxRecDepth 100000
set_option maxHeartbeats 4000000
set_option autoImplicit false
namespace Mn
open PySem PySem.Spec PyProof.Rows L2 GenW
variable [Tbs]
/-! two generators side by side: what is known between their turns -/
/-- asleep, i items out, its list as it stands -/
def SlpA (M : Model) (A : Around) (g : Nat) (it L F : Addr) (N i : Nat) (s : Shared) : Prop :=
  (∃ items : Array Value, items.size = N ∧ Lp it L F items i s) ∧ ∃ k l c p fs, s.gens[g]? = some (.suspended k l c p fs false) ∧ ∀ (items2 : Array Value) (s2 : Shared), items2.size = N → Lp it L F items2 i s2 → One M A (EvA M A it L F N (N - i) s2) c (k (.send .none)) fs s2
theorem SlpA.slp {M : Model} {A : Around} {g : Nat} {it L F : Addr} {items : Array Value} {i : Nat} {s s' : Shared} (h : SlpA M A g it L F items.size i s) (lp : Lp it L F items i s') (hg : s'.gens[g]? = s.gens[g]?) : Slp M A g it L F items i s' := by
  obtain ⟨_, k, l, c, p, fs, e, q⟩ := h
  exact ⟨lp, k, l, c, p, fs, hg.trans e, fun s2 lp2 => one_mono (q items s2 rfl lp2) fun _ _ z => EvA.ev lp2.ls z⟩
theorem SlpA.over {M : Model} {A : Around} {g : Nat} {it L F : Addr} {N i : Nat} {s s' : Shared} (h : SlpA M A g it L F N i s) (hk : ∀ b o, b = it ∨ b = L ∨ b = F → s.heap.get? b = some o → s'.heap.get? b = some o) (hg : s'.gens[g]? = s.gens[g]?) : SlpA M A g it L F N i s' := by
  obtain ⟨⟨items, hn, lp⟩, k, l, c, p, fs, e, q⟩ := h
  obtain ⟨m, hm⟩ := lp.ns
  exact ⟨⟨items, hn, lp.it.at fun o e => hk _ o (.inl rfl) e, lp.ls.at fun o e => hk _ o (.inr (.inl rfl)) e, m, hm.at' fun o e => hk _ o (.inr (.inr rfl)) e⟩, k, l, c, p, fs, hg.trans e, q⟩
theorem vals_back {vs : List V} {items : Array Value} {i : Nat} {v : Value} (va : Vals vs items.toList) (e : items[i]? = some v) : ∃ x, vs[i]? = some x ∧ RelV x v := by
  have hl : vs.length = items.size := by simpa using va.length
  have hi : i < vs.length := by rw [hl]; exact (Array.getElem?_eq_some_iff.mp e).1
  obtain ⟨u, eu, ru⟩ := va.get (List.getElem?_eq_getElem hi)
  rw [Array.getElem?_toList, e] at eu
  cases eu
  exact ⟨_, List.getElem?_eq_getElem hi, ru⟩
/-- the first wake, within zip -/
theorem wake_nextOf {P : Program} {w : World} {A : Around} {E : Value → Shared → Prop} {s : Shared} {a : Addr} {g : Nat} {c : Code} {Q : Value → Shared → Prop} {K : PySem.W.Frag} {outer : List Env} {ex : List Addr} {pn : List (Addr × Obj)} {sc : Shared} {H G2 H2 : Hp} {m2 : Mu} {Qd : DK} (hh : A.handled = none) (hl : s.heap.NoLimit) (hroom : A.depth < recursionLimit) (hg : s.heap.IsGen a g) (eg : s.gens[g]? = some (.fresh c)) (hb : AllBare s.gens)
    (hw : One (model P w) A.in1 (fun e s3 => ∃ G' H' m' os vs' L it, s3.gens = (s.setGen g .running).gens ∧ Fo2 P w K outer ex pn sc H G2 H2 m2 Qd s3 G' H' m' os vs' L it ∧
      ((os = [] ∧ e = .ret (.ok (.ret .none))) ∨ Out1 (model P w) A.in1 it L sc.heap.objs.size os.length vs' e s3)) c ((model P w).den c) [] (s.setGen g .running))
    (hne : ∀ os m4, Qd (.lst os) m4 → os ≠ [])
    (hQ : ∀ v s' G' H' m' os vs L it, Fo2 P w K outer ex pn sc H G2 H2 m2 Qd s' G' H' m' os vs L it → SlpA (model P w) A.in1 g it L sc.heap.objs.size os.length 1 s' → (∃ x, vs[0]? = some x ∧ RelV x v) → (∀ j, j ≠ g → s'.gens[j]? = s.gens[j]?) → AllBare s'.gens → (∃ items : Array Value, items.size = os.length ∧ Vals vs items.toList ∧ Lp it L sc.heap.objs.size items 1 s') → Q v s') :
    wpAny (model P w) A (Builtin.SmallTypes.nextOf (.ref a)) Q E s := by
  have hgl : g < s.gens.size := (Array.getElem?_eq_some_iff.mp eg).1
  refine nextOf_of_special (special_gen1 hh hl hroom hg eg hw fun e s1 ⟨G', H', m', os, vs, L, it, eg1, fo, z⟩ => ?_)
  rcases z with ⟨hz, _⟩ | ⟨items, v, k1, l1, c1, p1, fs1, zi, e1, va, rfl, e3, e4, e5⟩
  · exact absurd hz (hne _ _ fo.q)
  have eb : (End.susp v false l1 k1 c1 p1 fs1).genState = .suspended k1 l1 c1 p1 fs1 false := by
    show GenState.suspended k1 l1 c1 p1 fs1 (false || fs1.any Frame.guarded) = _
    rw [e3]; rfl
  refine ⟨by show (!(false || fs1.any Frame.guarded)) = true; rw [e3]; rfl, .inl ⟨v, rfl, v, rfl, ?_⟩⟩
  rw [eb]
  have lp2 : Lp it L sc.heap.objs.size items 1 (s1.setGen g (.suspended k1 l1 c1 p1 fs1 false)) := ⟨e4.it, e4.ls, e4.ns⟩
  have gs1 : g < s1.gens.size := by rw [eg1, setGen_size]; exact hgl
  refine hQ v _ G' H' m' os vs L it ⟨fo.os_, fo.un, fo.hok, fo.pin, fo.hF, fo.st, fo.rl, fo.hL, fo.gL, fo.rp, fo.len, fo.q, fo.new, fo.hit⟩ ⟨⟨items, zi, lp2⟩, k1, l1, c1, p1, fs1, setGen_at gs1, e5⟩ ?_ (fun j hj => ?_) ?_ ⟨items, zi, va, lp2⟩
  · exact vals_back va e1
  · rw [setG_get hj, eg1]
    exact setG_get hj
  · refine allBare_setGen ?_ rfl
    rw [eg1]
    exact allBare_setGen hb rfl
/-- what is known between the turns: Y are they that no list or tuple of the reading is -/
structure FZ (X : Cx) (s1 : Shared) (H1 G1 : Hp) (m1 : Mu) (Y : List Addr) (os : List D) (G' H' : Hp) (m' : Mu) (vs : List V) (L : Addr) (s : Shared) : Prop where
  os_ : s.os = s1.os
  bare : AllBare s.gens
  un : Un (frs X.stack) [] H1 H' s1.heap s.heap
  hok : HOk X.prog X.w H' s.heap
  lim : s.heap.NoLimit
  hY : ∀ b ∈ Y, H' b = none ∧ s1.heap.objs.size ≤ b
  st : Stp G1 H1 m1 G' H' m'
  rl : Rl X.kf G' H' m'
  hL : H' L = some (.lst vs)
  gL : G' L = some (.lst vs)
  rp : RpL X.kf G' os vs
  len : os.length ≤ sizeLine
  le : ∀ a u, m1 a = some u → m' a = some u
theorem FZ.move {X : Cx} {s1 : Shared} {H1 G1 : Hp} {m1 : Mu} {Y : List Addr} {os : List D} {G' H' : Hp} {m' : Mu} {vs : List V} {L : Addr} {s s' : Shared} (h : FZ X s1 H1 G1 m1 Y os G' H' m' vs L s) (hc : cStatics < s1.heap.objs.size) (ho : s'.os = s.os) (hb : AllBare s'.gens) (k : ∀ b o, b ∉ Y → s.heap.get? b = some o → s'.heap.get? b = some o) : FZ X s1 H1 G1 m1 Y os G' H' m' vs L s' := by
  have lo : ∀ b, b < s1.heap.objs.size → b ∉ Y := fun b hb z => absurd hb (Nat.not_lt.mpr (h.hY b z).2)
  exact ⟨ho.trans h.os_, hb, un_later h.un fun b o hb e => k b o (lo b hb) e, hok_later h.hok fun b o hn e => k b o (fun z => hn (h.hY b z).1) e, h.lim.at fun o e => k _ o (lo _ hc) e, h.hY, h.st, h.rl, h.hL, h.gL, h.rp, h.len, h.le⟩
end Mn

set_option Elab.async false
set_option linter.all false
set_option maxRecDepth 100000
set_option maxHeartbeats 4000000
set_option autoImplicit false
namespace Mn
open PySem PySem.Spec PyProof.Rows L2 GenW
variable [Tbs]
/-! two generators side by side: their first turns -/
section
variable {X : Cx} {k : Nat} {d : DSp} {s1 s2 s3 : Shared} {H1 G1 : Hp} {m1 : Mu} {vs : List V} {ds os0 : List D} {g1 g2 : Nat} {c1 c2 : Code} {go1 go2 oF1 oF2 : Obj} {pins : List (Addr × Obj)} {σ : L2.St}
theorem md2_ne (A : Md2 X.prog X.w X.K X.base k X.stack s1 H1 vs d g1 c1 go1 oF1 s2) (B : Md2 X.prog X.w X.K X.base k X.stack s2 H1 vs d g2 c2 go2 oF2 s3) : g1 ≠ g2 := by
  rw [B.eg]
  exact Nat.ne_of_lt (Array.getElem?_eq_some_iff.mp A.eg2).1
/-- nothing of the reading is as young as that -/
theorem young_h (I1 : Inv X pins σ H1 s1) {b : Addr} (hb : s1.heap.objs.size ≤ b) : H1 b = none ∧ b ∉ frs X.stack := ⟨I1.hok.fresh hb, fun z => by
  obtain ⟨_, o1, e1, _⟩ := I1.env0.funs.mem z
  exact absurd (Heap.lt_size e1) (Nat.not_lt.mpr hb)⟩
theorem lim_of (I1 : Inv X pins σ H1 s1) {H' : Hp} {h : Heap} (u : Un (frs X.stack) [] H1 H' s1.heap h) : h.NoLimit := I1.ok.mod.nolimit.keeps fun b o e => u.keep b o (I1.bs b o e).1 (I1.bs b o e).2 (fun hm => by
  rcases List.mem_cons.mp (I1.stkSub b hm) with z | z
  · have h1 := Heap.lt_size e
    have h2 := Nat.le_trans I1.ok.bsz I1.ok.above
    rw [z] at h1
    exact absurd (Nat.lt_of_lt_of_le h1 h2) (Nat.lt_irrefl _)
  · exact I1.ok.nofr e z) (fun z => nomatch z)
theorem zip_first1 {s : Shared} {obs : List (Addr × Obj)} {Q : Value → Shared → Prop} {E : Value → Shared → Prop} (room : Room (k + 2) X.A) (I1 : Inv X pins σ H1 s1) (A : Md2 X.prog X.w X.K X.base k X.stack s1 H1 vs d g1 c1 go1 oF1 s2) (B : Md2 X.prog X.w X.K X.base k X.stack s2 H1 vs d g2 c2 go2 oF2 s3)
    (rp1 : RpL X.kf G1 ds vs) (rl1 : Rl X.kf G1 H1 m1) (pure : ∀ m', d ds m' fun o m2 => o = .lst os0 ∧ m2 = m') (hne : os0 ≠ [])
    (os_ : s.os = s3.os) (gs : s.gens = s3.gens) (kp : ∀ b o, s3.heap.get? b = some o → s.heap.get? b = some o) (hobs : ∀ p ∈ obs, s.heap.get? p.1 = some p.2 ∧ s1.heap.objs.size + 4 ≤ p.1 ∧ ∀ v, p.2.data ≠ .cell v)
    (hQ : ∀ v s' G' H' m' vs1 L1 it1, FZ X s1 H1 G1 m1 (it1 :: s1.heap.objs.size :: (s1.heap.objs.size + 1) :: (s1.heap.objs.size + 2) :: (s1.heap.objs.size + 3) :: obs.map (·.1)) os0 G' H' m' vs1 L1 s' → SlpA (model X.prog X.w) X.A.in1.in1 g1 it1 L1 s1.heap.objs.size os0.length 1 s' → (∃ x, vs1[0]? = some x ∧ RelV x v) → s'.gens[g2]? = some (.fresh c2) →
      (∀ p ∈ obs, s'.heap.get? p.1 = some p.2 ∧ p.1 ≠ it1) → s'.heap.get? (s1.heap.objs.size + 1) = some go1 → s'.heap.get? (s1.heap.objs.size + 2) = some oF2 → s'.heap.get? (s1.heap.objs.size + 3) = some go2 → it1 ≠ s1.heap.objs.size + 1 → it1 ≠ s1.heap.objs.size + 2 → it1 ≠ s1.heap.objs.size + 3 → Q v s') :
    wpAny (model X.prog X.w) X.A.in1 (Builtin.SmallTypes.nextOf (.ref (s1.heap.objs.size + 1))) Q E s := by
  have z2 : s2.heap.objs.size = s1.heap.objs.size + 2 := A.sz
  have eF2 : s3.heap.get? (s1.heap.objs.size + 2) = some oF2 := by rw [← z2]; exact B.eF
  have ea2 : s3.heap.get? (s1.heap.objs.size + 3) = some go2 := by have z := B.ega; rw [z2] at z; exact z
  have ea1 : s3.heap.get? (s1.heap.objs.size + 1) = some go1 := B.kp _ _ A.ega
  have k2 : ∀ b o, s2.heap.get? b = some o → s.heap.get? b = some o := fun b o e => kp b o (B.kp b o e)
  have eg1 : s.gens[g1]? = some (.fresh c1) := by rw [gs]; exact B.keepg _ _ A.eg2
  have hb : AllBare s.gens := by rw [gs]; exact B.bare
  have hok2 : HOk X.prog X.w H1 s.heap := I1.hok.kept fun b o e => k2 b o (A.kp b o e)
  have hpn : ∀ p ∈ (s1.heap.objs.size + 1, go1) :: (s1.heap.objs.size + 2, oF2) :: (s1.heap.objs.size + 3, go2) :: obs, s.heap.get? p.1 = some p.2 ∧ H1 p.1 = none ∧ p.1 ≠ s1.heap.objs.size ∧ p.1 ∉ frs X.stack ∧ ∀ v, p.2.data ≠ .cell v := fun p hp => by
    rcases List.mem_cons.mp hp with rfl | hp
    · exact ⟨kp _ _ ea1, (young_h I1 (Nat.le_add_right _ 1)).1, Nat.succ_ne_self _, (young_h I1 (Nat.le_add_right _ 1)).2, A.gnc⟩
    rcases List.mem_cons.mp hp with rfl | hp
    · exact ⟨kp _ _ eF2, (young_h I1 (Nat.le_add_right _ 2)).1, by omega, (young_h I1 (Nat.le_add_right _ 2)).2, B.oFn⟩
    rcases List.mem_cons.mp hp with rfl | hp
    · exact ⟨kp _ _ ea2, (young_h I1 (Nat.le_add_right _ 3)).1, by omega, (young_h I1 (Nat.le_add_right _ 3)).2, B.gnc⟩
    · obtain ⟨h1, h2, h3⟩ := hobs p hp
      exact ⟨h1, (young_h I1 (by omega)).1, by omega, (young_h I1 (by omega)).2, h3⟩
  have W := A.wake X.A.in1.in1 [] _ G1 H1 m1 ds _ (s.setGen g1 .running) room.in1.in1 I1.ok.frames (fun b hb => nomatch hb) (os_.trans B.os_) (Un.kept k2) hok2 (allBare_setGen hb rfl) hpn rp1 rl1 (pure m1)
  have dep : X.A.in1.depth < recursionLimit := room.in1.depth
  refine wake_nextOf room.hd (B.lim.keeps kp) dep (A.gis _ (kp _ _ ea1)) eg1 hb W (fun os m4 ⟨m3, _, e, _⟩ => by cases e; exact hne) fun v s' G' H' m' os vs1 L1 it1 fo sl hx hg hb' _ => ?_
  obtain ⟨m3, le, eo, em⟩ := fo.q
  cases eo
  subst em
  have pa1 := fo.pin _ (List.mem_cons_self ..)
  have pF2 := fo.pin _ (List.mem_cons_of_mem _ (List.mem_cons_self ..))
  have pa2 := fo.pin _ (List.mem_cons_of_mem _ (List.mem_cons_of_mem _ (List.mem_cons_self ..)))
  have po : ∀ p ∈ obs, s'.heap.get? p.1 = some p.2 ∧ H' p.1 = none ∧ p.1 ≠ it1 := fun p hp => fo.pin _ (List.mem_cons_of_mem _ (List.mem_cons_of_mem _ (List.mem_cons_of_mem _ hp)))
  refine hQ v s' G' H' m' vs1 L1 it1 ⟨fo.os_, hb', fo.un, fo.hok, lim_of I1 fo.un, fun b hb => ?_, fo.st, fo.rl, fo.hL, fo.gL, fo.rp, fo.len, le⟩ sl hx ?_ (fun p hp => ⟨(po p hp).1, (po p hp).2.2⟩) pa1.1 pF2.1 pa2.1 (Ne.symm pa1.2.2) (Ne.symm pF2.2.2) (Ne.symm pa2.2.2)
  · rcases List.mem_cons.mp hb with rfl | hb
    · exact ⟨fo.hit, fo.new⟩
    rcases List.mem_cons.mp hb with rfl | hb
    · exact ⟨fo.hF, Nat.le_refl _⟩
    rcases List.mem_cons.mp hb with rfl | hb
    · exact ⟨pa1.2.1, Nat.le_add_right _ _⟩
    rcases List.mem_cons.mp hb with rfl | hb
    · exact ⟨pF2.2.1, Nat.le_add_right _ _⟩
    rcases List.mem_cons.mp hb with rfl | hb
    · exact ⟨pa2.2.1, Nat.le_add_right _ _⟩
    obtain ⟨p, hp, rfl⟩ := List.mem_map.mp hb
    exact ⟨(po p hp).2.1, by have := (hobs p hp).2.1; omega⟩
  · rw [hg g2 (Ne.symm (md2_ne A B)), gs]
    exact B.eg2
end
end Mn

set_option Elab.async false
set_option linter.all false
set_option maxRecDepth 100000
set_option maxHeartbeats 4000000
set_option autoImplicit false
namespace Mn
open PySem PySem.Spec PyProof.Rows L2 GenW
variable [Tbs]
section
variable {X : Cx} {k : Nat} {d : DSp} {s1 s2 s3 : Shared} {H1 G1 : Hp} {m1 : Mu} {vs : List V} {ds os0 : List D} {g1 g2 : Nat} {c1 c2 : Code} {go1 go2 oF1 oF2 : Obj} {pins : List (Addr × Obj)} {σ : L2.St}
/-- what the heap holds behind both calls -/
theorem two_calls (A : Md2 X.prog X.w X.K X.base k X.stack s1 H1 vs d g1 c1 go1 oF1 s2) (B : Md2 X.prog X.w X.K X.base k X.stack s2 H1 vs d g2 c2 go2 oF2 s3) {b : Addr} {o : Obj} (e : s3.heap.get? b = some o) :
    s1.heap.get? b = some o ∨ b = s1.heap.objs.size ∨ (b = s1.heap.objs.size + 1 ∧ o = go1) ∨ (b = s1.heap.objs.size + 2 ∧ o = oF2) ∨ (b = s1.heap.objs.size + 3 ∧ o = go2) := by
  have z2 : s2.heap.objs.size = s1.heap.objs.size + 2 := A.sz
  have hA : ∀ {b o}, s2.heap.get? b = some o → s1.heap.get? b = some o ∨ b = s1.heap.objs.size ∨ (b = s1.heap.objs.size + 1 ∧ o = go1) := fun {b o} e => by
    rcases A.only b o e with h | h | h
    · exact .inl h
    · exact .inr (.inl h)
    · have z := A.ega
      rw [← h, e] at z
      exact .inr (.inr ⟨h, Option.some.inj z⟩)
  rcases B.only b o e with h | h | h
  · exact (hA h).imp id fun z => z.imp id .inl
  · have z := B.eF
    rw [← h, e] at z
    exact .inr (.inr (.inr (.inl ⟨h.trans z2, Option.some.inj z⟩)))
  · have z := B.ega
    rw [← h, e] at z
    exact .inr (.inr (.inr (.inr ⟨h.trans (by rw [z2]), Option.some.inj z⟩)))
theorem zip_first2 {s : Shared} {obs : List (Addr × Obj)} {Q : Value → Shared → Prop} {E : Value → Shared → Prop} {G' H' : Hp} {m' : Mu} {vs1 : List V} {L1 it1 : Addr} (room : Room (k + 2) X.A) (I1 : Inv X pins σ H1 s1) (A : Md2 X.prog X.w X.K X.base k X.stack s1 H1 vs d g1 c1 go1 oF1 s2) (B : Md2 X.prog X.w X.K X.base k X.stack s2 H1 vs d g2 c2 go2 oF2 s3)
    (rp1 : RpL X.kf G1 ds vs) (pure : ∀ m', d ds m' fun o m2 => o = .lst os0 ∧ m2 = m') (hne : os0 ≠ [])
    (f : FZ X s1 H1 G1 m1 (it1 :: s1.heap.objs.size :: (s1.heap.objs.size + 1) :: (s1.heap.objs.size + 2) :: (s1.heap.objs.size + 3) :: obs.map (·.1)) os0 G' H' m' vs1 L1 s) (sl : SlpA (model X.prog X.w) X.A.in1.in1 g1 it1 L1 s1.heap.objs.size os0.length 1 s) (eg2 : s.gens[g2]? = some (.fresh c2))
    (hobs : ∀ p ∈ obs, s.heap.get? p.1 = some p.2 ∧ s1.heap.objs.size + 4 ≤ p.1 ∧ (∀ v, p.2.data ≠ .cell v) ∧ p.1 ≠ it1) (ea1 : s.heap.get? (s1.heap.objs.size + 1) = some go1) (eF2 : s.heap.get? (s1.heap.objs.size + 2) = some oF2) (ea2 : s.heap.get? (s1.heap.objs.size + 3) = some go2)
    (n1 : it1 ≠ s1.heap.objs.size + 1) (n2 : it1 ≠ s1.heap.objs.size + 2) (n3 : it1 ≠ s1.heap.objs.size + 3)
    (hQ : ∀ y s' G' H' m' it2 L2 (items1 items2 : Array Value), FZ X s1 H1 G1 m1 (it2 :: it1 :: s1.heap.objs.size :: (s1.heap.objs.size + 1) :: (s1.heap.objs.size + 2) :: (s1.heap.objs.size + 3) :: obs.map (·.1)) os0 G' H' m' vs1 L1 s' → items1.size = os0.length → items2.size = os0.length → Vals vs1 items1.toList →
      Slp (model X.prog X.w) X.A.in1.in1 g1 it1 L1 s1.heap.objs.size items1 1 s' → Slp (model X.prog X.w) X.A.in1.in1 g2 it2 L2 (s1.heap.objs.size + 2) items2 1 s' → H' L2 ≠ none →
      (∀ p ∈ obs, s'.heap.get? p.1 = some p.2 ∧ p.1 ≠ it2) → s'.heap.get? (s1.heap.objs.size + 1) = some go1 → s'.heap.get? (s1.heap.objs.size + 3) = some go2 → it2 ≠ s1.heap.objs.size + 1 → it2 ≠ s1.heap.objs.size + 3 → it2 ≠ it1 → it2 ≠ s1.heap.objs.size → Q y s') :
    wpAny (model X.prog X.w) X.A.in1 (Builtin.SmallTypes.nextOf (.ref (s1.heap.objs.size + 3))) Q E s := by
  have z2 : s2.heap.objs.size = s1.heap.objs.size + 2 := A.sz
  obtain ⟨⟨it0, zi0, lp0⟩, _⟩ := id sl
  obtain ⟨oit, eit, cit, dit⟩ := id lp0.it
  obtain ⟨mF, hmF⟩ := id lp0.ns
  obtain ⟨oFr, eFr, nFr⟩ := ns_obj hmF
  have nF1 : it1 ≠ s1.heap.objs.size := fun z => (lp0.apart).2.1 z.symm
  have hb := f.bare
  have yn : ∀ b, b ∈ it1 :: s1.heap.objs.size :: (s1.heap.objs.size + 1) :: (s1.heap.objs.size + 2) :: (s1.heap.objs.size + 3) :: obs.map (·.1) → H' b = none ∧ s1.heap.objs.size ≤ b := f.hY
  have hpn : ∀ p ∈ (s1.heap.objs.size + 1, go1) :: (s1.heap.objs.size + 3, go2) :: (it1, oit) :: (s1.heap.objs.size, oFr) :: obs, s.heap.get? p.1 = some p.2 ∧ H' p.1 = none ∧ p.1 ≠ s2.heap.objs.size ∧ p.1 ∉ frs X.stack ∧ ∀ v, p.2.data ≠ .cell v := fun p hp => by
    rw [z2]
    rcases List.mem_cons.mp hp with rfl | hp
    · exact ⟨ea1, (yn _ (by simp)).1, by omega, (young_h I1 (Nat.le_add_right _ 1)).2, A.gnc⟩
    rcases List.mem_cons.mp hp with rfl | hp
    · exact ⟨ea2, (yn _ (by simp)).1, by omega, (young_h I1 (Nat.le_add_right _ 3)).2, B.gnc⟩
    rcases List.mem_cons.mp hp with rfl | hp
    · exact ⟨eit, (yn _ (by simp)).1, n2, (young_h I1 (yn _ (by simp)).2).2, fun v z => by rw [dit] at z; cases z⟩
    rcases List.mem_cons.mp hp with rfl | hp
    · exact ⟨eFr, (yn _ (by simp)).1, by omega, (young_h I1 (Nat.le_refl _)).2, nFr⟩
    · obtain ⟨h1, h2, h3, h4⟩ := hobs p hp
      exact ⟨h1, (yn _ (List.mem_cons_of_mem _ (List.mem_cons_of_mem _ (List.mem_cons_of_mem _ (List.mem_cons_of_mem _ (List.mem_cons_of_mem _ (List.mem_map_of_mem hp))))))).1, by omega, (young_h I1 (by omega)).2, h3⟩
  have un2 : Un (frs X.stack) [s1.heap.objs.size] H1 H' s3.heap s.heap := by
    have sh : ∀ {b o}, s3.heap.get? b = some o → b ∉ [s1.heap.objs.size] → s1.heap.get? b = some o ∨ ((s.heap.get? b = some o ∧ H' b = none) ∧ s1.heap.objs.size ≤ b) := fun {b o} e hx => by
      rcases two_calls A B e with h | h | ⟨rfl, rfl⟩ | ⟨rfl, rfl⟩ | ⟨rfl, rfl⟩
      · exact .inl h
      · exact absurd h (fun z => hx (by simp [z]))
      · exact .inr ⟨⟨ea1, (yn _ (by simp)).1⟩, by omega⟩
      · exact .inr ⟨⟨eF2, (yn _ (by simp)).1⟩, by omega⟩
      · exact .inr ⟨⟨ea2, (yn _ (by simp)).1⟩, by omega⟩
    refine ⟨fun b o e n hf hx => ?_, fun b o e n hf hx => ?_, fun b o e n hx => ?_, fun b o e hx => ?_, f.un.tups, f.un.frzs, f.un.tbls⟩
    · exact (sh e hx).elim (fun h => f.un.keep b o h n hf (fun z => nomatch z)) fun h => h.1.1
    · exact (sh e hx).elim (fun h => f.un.slot b o h n hf (fun z => nomatch z)) fun h => absurd hf (young_h I1 h.2).2
    · exact (sh e hx).elim (fun h => f.un.free b o h n (fun z => nomatch z)) fun h => h.1.2
    · exact (sh e hx).elim (fun h => f.un.there b o h (fun z => nomatch z)) fun h => ⟨_, h.1.1⟩
  have bz : X.base.get? s1.heap.objs.size = none := get_new (Nat.le_trans I1.ok.bsz I1.sz)
  have W := B.wake X.A.in1.in1 [s1.heap.objs.size] _ G' H' m' ds _ (s.setGen g2 .running) room.in1.in1 I1.ok.frames (fun b hb => by
    rw [List.mem_singleton.mp hb, z2]
    exact ⟨Nat.ne_of_gt (Nat.lt_add_of_pos_right (by decide)), Nat.lt_add_of_pos_right (by decide), bz, (young_h I1 (Nat.le_refl _)).2⟩) (f.os_.trans (A.os_.symm.trans B.os_.symm)) un2 f.hok (allBare_setGen hb rfl) hpn (rp1.same f.st.g) f.rl (pure m')
  have dep : X.A.in1.depth < recursionLimit := room.in1.depth
  have gis : ∀ h : Heap, h.get? (s1.heap.objs.size + 3) = some go2 → h.IsGen (s1.heap.objs.size + 3) g2 := by
    have z := B.gis
    rw [z2] at z
    exact z
  refine wake_nextOf room.hd f.lim dep (gis _ ea2) eg2 hb W (fun os m4 ⟨m3, _, e, _⟩ => by cases e; exact hne) fun v s' G2 H2 m2 os vs2 L2 it2 fo sl2 hx hg hb' ⟨items2, zi2, va2, lp2⟩ => ?_
  obtain ⟨m3, le, eo, em⟩ := fo.q
  cases eo
  subst em
  have pa1 := fo.pin _ (List.mem_cons_self ..)
  have pa2 := fo.pin _ (List.mem_cons_of_mem _ (List.mem_cons_self ..))
  have pit := fo.pin _ (List.mem_cons_of_mem _ (List.mem_cons_of_mem _ (List.mem_cons_self ..)))
  have pF := fo.pin _ (List.mem_cons_of_mem _ (List.mem_cons_of_mem _ (List.mem_cons_of_mem _ (List.mem_cons_self ..))))
  have po : ∀ p ∈ obs, s'.heap.get? p.1 = some p.2 ∧ H2 p.1 = none ∧ p.1 ≠ it2 := fun p hp => fo.pin _ (List.mem_cons_of_mem _ (List.mem_cons_of_mem _ (List.mem_cons_of_mem _ (List.mem_cons_of_mem _ hp))))
  have old : ∀ {b o}, s1.heap.get? b = some o → b ∉ [s1.heap.objs.size] := fun {b o} e z => absurd (Heap.lt_size e) (by rw [List.mem_singleton.mp z]; exact Nat.lt_irrefl _)
  have un1 : Un (frs X.stack) [] H1 H2 s1.heap s'.heap := ⟨fun b o e n hf _ => fo.un.keep b o (A.kp b o e) n hf (old e), fun b o e n hf _ => fo.un.slot b o (A.kp b o e) n hf (old e), fun b o e n _ => fo.un.free b o (A.kp b o e) n (old e), fun b o e _ => fo.un.there b o (A.kp b o e) (old e), fo.un.tups, fo.un.frzs, fo.un.tbls⟩
  have gL' := fo.st.g _ _ f.gL
  have hL' : H2 L1 = some (.lst vs1) := fo.rl.sub _ _ gL'
  obtain ⟨zl, its, c, rits, eL⟩ := fo.hok L1 _ hL'
  have zi1 : its.toArray.size = os0.length := by rw [List.size_toArray, ← rits.length]; exact f.rp.len.symm
  have lp1 : Lp it1 L1 s1.heap.objs.size its.toArray 1 s' := ⟨lp0.it.at fun o e => by
    rw [eit] at e
    cases e
    exact pit.1, ⟨_, eL, rfl, c, rfl⟩, mF, hmF.at' fun o e => by
    rw [eFr] at e
    cases e
    exact pF.1⟩
  rw [z2] at sl2 lp2
  have hF2 : H2 (s1.heap.objs.size + 2) = none := by
    have z := fo.hF
    rw [z2] at z
    exact z
  refine hQ v s' G2 H2 m2 it2 L2 its.toArray items2 ⟨fo.os_.trans A.os_, hb', un1, fo.hok, lim_of I1 un1, fun b hb => ?_, f.st.trans fo.st, fo.rl, hL', gL', f.rp.same fo.st.g, f.len, fun a u e => le _ _ (f.le a u e)⟩ zi1 zi2 rits (SlpA.slp (by rw [zi1]; exact sl) lp1 (hg g1 (md2_ne A B))) (SlpA.slp (by rw [zi2]; exact sl2) lp2 rfl) (by rw [fo.hL]; exact fun z => nomatch z) (fun p hp => ⟨(po p hp).1, (po p hp).2.2⟩) pa1.1 pa2.1 (Ne.symm pa1.2.2) (Ne.symm pa2.2.2) (Ne.symm pit.2.2) (Ne.symm pF.2.2)
  rcases List.mem_cons.mp hb with rfl | hb
  · exact ⟨fo.hit, Nat.le_trans (by rw [z2]; exact Nat.le_add_right _ _) fo.new⟩
  rcases List.mem_cons.mp hb with rfl | hb
  · exact ⟨pit.2.1, (yn _ (List.mem_cons_self ..)).2⟩
  rcases List.mem_cons.mp hb with rfl | hb
  · exact ⟨pF.2.1, Nat.le_refl _⟩
  rcases List.mem_cons.mp hb with rfl | hb
  · exact ⟨pa1.2.1, Nat.le_add_right _ _⟩
  rcases List.mem_cons.mp hb with rfl | hb
  · exact ⟨hF2, Nat.le_add_right _ _⟩
  rcases List.mem_cons.mp hb with rfl | hb
  · exact ⟨pa2.2.1, Nat.le_add_right _ _⟩
  obtain ⟨p, hp, rfl⟩ := List.mem_map.mp hb
  exact ⟨(po p hp).2.1, by have := (hobs p hp).2.1; omega⟩
end
end Mn

set_option Elab.async false
set_option linter.all false
set_option maxRecDepth 100000
set_option maxHeartbeats 4000000
set_option autoImplicit false
namespace Mn
open PySem PySem.Spec PyProof.Rows L2 GenW
variable [Tbs]
/-! zip of two generators, drawn from -/
/-- zip's own, the list, the frame: n behind what stood ahead of both calls -/
abbrev zl (n : Nat) : List Addr := [n + 6, n + 4, n + 5, n + 7, n + 8]
def MidF (X : Cx) (s1 : Shared) (H1 G1 : Hp) (m1 : Mu) (os0 : List D) (g1 g2 : Nat) (go1 go2 : Obj) (i1 i2 : Nat) (out : List Value) (s : Shared) : Prop :=
  ∃ (G' H' : Hp) (m' : Mu) (vs1 : List V) (L1 it1 L2 it2 : Addr) (items1 items2 : Array Value), FZ X s1 H1 G1 m1 (it2 :: it1 :: s1.heap.objs.size :: (s1.heap.objs.size + 1) :: (s1.heap.objs.size + 2) :: (s1.heap.objs.size + 3) :: zl s1.heap.objs.size) os0 G' H' m' vs1 L1 s ∧
    items1.size = os0.length ∧ items2.size = os0.length ∧ Vals vs1 items1.toList ∧ Slp (model X.prog X.w) X.A.in1.in1 g1 it1 L1 s1.heap.objs.size items1 i1 s ∧ Slp (model X.prog X.w) X.A.in1.in1 g2 it2 L2 (s1.heap.objs.size + 2) items2 i2 s ∧ H' L2 ≠ none ∧
    s.heap.get? (s1.heap.objs.size + 1) = some go1 ∧ s.heap.get? (s1.heap.objs.size + 3) = some go2 ∧ (it1 ≠ s1.heap.objs.size + 1 ∧ it1 ≠ s1.heap.objs.size + 2 ∧ it1 ≠ s1.heap.objs.size + 3 ∧ it1 ∉ zl s1.heap.objs.size) ∧ (it2 ≠ s1.heap.objs.size + 1 ∧ it2 ≠ s1.heap.objs.size + 3 ∧ it2 ≠ it1 ∧ it2 ≠ s1.heap.objs.size ∧ it2 ∉ zl s1.heap.objs.size) ∧ Vals (vs1.take i1) out
def EndF (X : Cx) (s1 : Shared) (H1 G1 : Hp) (m1 : Mu) (os0 : List D) (out : List Value) (s : Shared) : Prop :=
  ∃ (G' H' : Hp) (m' : Mu) (vs1 : List V) (L1 it1 it2 : Addr), FZ X s1 H1 G1 m1 (it2 :: it1 :: s1.heap.objs.size :: (s1.heap.objs.size + 1) :: (s1.heap.objs.size + 2) :: (s1.heap.objs.size + 3) :: zl s1.heap.objs.size) os0 G' H' m' vs1 L1 s ∧ Vals vs1 out
theorem ZI.over {z TI TO a1 a2 : Addr} {h h' : Heap} (x : ZI z TI TO a1 a2 h) (k : ∀ b o, b = z ∨ b = TI ∨ b = TO → h.get? b = some o → h'.get? b = some o) : ZI z TI TO a1 a2 h' := by
  obtain ⟨f0, f, arr, h1, h2, h3, h4, h5⟩ := x
  exact ⟨f0, f, arr, k _ _ (.inl rfl) h1, h2, k _ _ (.inr (.inl rfl)) h3, k _ _ (.inr (.inr rfl)) h4, h5⟩
section
variable {X : Cx} {s1 : Shared} {H1 G1 : Hp} {m1 : Mu} {os0 : List D} {g1 g2 : Nat} {go1 go2 : Obj} {i1 i2 : Nat} {out : List Value} {s s' : Shared}
theorem FZ.ne {Y : List Addr} {os : List D} {G' H' : Hp} {m' : Mu} {vs : List V} {L b : Addr} (f : FZ X s1 H1 G1 m1 Y os G' H' m' vs L s) (hb : b ∈ Y) {c : Addr} (hc : H' c ≠ none) : c ≠ b := fun z => hc (by rw [z]; exact (f.hY b hb).1)
/-- what zip and the comprehension change of their own is nothing to the generators -/
theorem MidF.over (h : MidF X s1 H1 G1 m1 os0 g1 g2 go1 go2 i1 i2 out s) (hc : cStatics < s1.heap.objs.size) (ho : s'.os = s.os) (hg : s'.gens = s.gens) (k : ∀ b o, b ∉ zl s1.heap.objs.size → s.heap.get? b = some o → s'.heap.get? b = some o) : MidF X s1 H1 G1 m1 os0 g1 g2 go1 go2 i1 i2 out s' := by
  obtain ⟨G', H', m', vs1, L1, it1, L2, it2, items1, items2, f, z1, z2, va, sl1, sl2, nL2, e1, e2, ⟨a1, a2, a3, a4⟩, ⟨b1, b2, b3, b4, b5⟩, vo⟩ := h
  have nz : ∀ {c : Addr}, H' c ≠ none → c ∉ zl s1.heap.objs.size := fun {c} hc hm => f.ne (List.mem_cons_of_mem _ (List.mem_cons_of_mem _ (List.mem_cons_of_mem _ (List.mem_cons_of_mem _ (List.mem_cons_of_mem _ (List.mem_cons_of_mem _ hm)))))) hc rfl
  have lo : ∀ {j : Nat}, j < 4 → s1.heap.objs.size + j ∉ zl s1.heap.objs.size := fun {j} hj hm => by simp at hm; omega
  refine ⟨G', H', m', vs1, L1, it1, L2, it2, items1, items2, f.move hc ho (by rw [hg]; exact f.bare) fun b o hb e => k b o (fun z => hb ?_) e, z1, z2, va, sl1.over (fun b o hb e => k b o ?_ e) (by rw [hg]), sl2.over (fun b o hb e => k b o ?_ e) (by rw [hg]), nL2, k _ _ (lo (by decide)) e1, k _ _ (lo (by decide)) e2, ⟨a1, a2, a3, a4⟩, ⟨b1, b2, b3, b4, b5⟩, vo⟩
  · exact List.mem_cons_of_mem _ (List.mem_cons_of_mem _ (List.mem_cons_of_mem _ (List.mem_cons_of_mem _ (List.mem_cons_of_mem _ (List.mem_cons_of_mem _ z)))))
  · rcases hb with rfl | rfl | rfl
    · exact a4
    · exact nz (by rw [f.hL]; exact fun z => nomatch z)
    · exact lo (j := 0) (by decide)
  · rcases hb with rfl | rfl | rfl
    · exact b5
    · exact nz nL2
    · exact lo (by decide)
/-- the first one's turn -/
theorem MidF.turn1 {v : Value} (h : MidF X s1 H1 G1 m1 os0 g1 g2 go1 go2 i1 i2 out s) (hc : cStatics < s1.heap.objs.size) (hne : g1 ≠ g2) :
    ∃ (it1 L1 : Addr) (items1 : Array Value), items1.size = os0.length ∧ i1 ≤ items1.size + i1 ∧ it1 ∉ zl s1.heap.objs.size ∧ Slp (model X.prog X.w) X.A.in1.in1 g1 it1 L1 s1.heap.objs.size items1 i1 s ∧
      (∀ v s', items1[i1]? = some v → Slp (model X.prog X.w) X.A.in1.in1 g1 it1 L1 s1.heap.objs.size items1 (i1 + 1) s' → Mg it1 s1.heap.objs.size g1 s s' → MidF X s1 H1 G1 m1 os0 g1 g2 go1 go2 (i1 + 1) i2 (out ++ [v]) s') ∧
      (∀ s', i1 = items1.size → Mg it1 s1.heap.objs.size g1 s s' → EndF X s1 H1 G1 m1 os0 out s') := by
  obtain ⟨G', H', m', vs1, L1, it1, L2, it2, items1, items2, f, z1, z2, va, sl1, sl2, nL2, e1, e2, ⟨a1, a2, a3, a4⟩, ⟨b1, b2, b3, b4, b5⟩, vo⟩ := h
  have mv : ∀ {s'}, Mg it1 s1.heap.objs.size g1 s s' → FZ X s1 H1 G1 m1 (it2 :: it1 :: s1.heap.objs.size :: (s1.heap.objs.size + 1) :: (s1.heap.objs.size + 2) :: (s1.heap.objs.size + 3) :: zl s1.heap.objs.size) os0 G' H' m' vs1 L1 s' := fun {s'} mg =>
    f.move hc mg.os_ (mg.bare f.bare) fun b o hb e => mg.keep b o (fun z => hb (by rw [z]; simp)) (fun z => hb (by rw [z]; simp)) e
  refine ⟨it1, L1, items1, z1, Nat.le_add_left _ _, a4, sl1, fun v s' ev sl' mg => ?_, fun s' ei mg => ?_⟩
  · refine ⟨G', H', m', vs1, L1, it1, L2, it2, items1, items2, mv mg, z1, z2, va, sl', sl2.over (fun b o hb e => mg.keep b o ?_ ?_ e) (mg.gens _ (Ne.symm hne)), nL2, mg.keep _ _ (Ne.symm a1) (Nat.succ_ne_self _) e1, mg.keep _ _ (Ne.symm a3) (show s1.heap.objs.size + 3 ≠ s1.heap.objs.size by omega) e2, ⟨a1, a2, a3, a4⟩, ⟨b1, b2, b3, b4, b5⟩, ?_⟩
    · rcases hb with rfl | rfl | rfl
      · exact b3
      · exact f.ne (by simp) nL2
      · exact Ne.symm a2
    · rcases hb with rfl | rfl | rfl
      · exact b4
      · exact f.ne (by simp) nL2
      · exact show s1.heap.objs.size + 2 ≠ s1.heap.objs.size by omega
    · obtain ⟨x, ex, rx⟩ := vals_back va ev
      rw [List.take_add_one, ex]
      exact vo.append (.cons rx .nil)
  · refine ⟨G', H', m', vs1, L1, it1, it2, mv mg, ?_⟩
    have hl : vs1.length = items1.size := by simpa using va.length
    rw [List.take_of_length_le (by rw [hl, ei]; exact Nat.le_refl _)] at vo
    exact vo
/-- the other one's turn -/
theorem MidF.turn2 (h : MidF X s1 H1 G1 m1 os0 g1 g2 go1 go2 i1 i2 out s) (hc : cStatics < s1.heap.objs.size) (hne : g1 ≠ g2) :
    ∃ (it2 L2 : Addr) (items2 : Array Value), items2.size = os0.length ∧ it2 ∉ zl s1.heap.objs.size ∧ Slp (model X.prog X.w) X.A.in1.in1 g2 it2 L2 (s1.heap.objs.size + 2) items2 i2 s ∧
      (∀ v s', items2[i2]? = some v → Slp (model X.prog X.w) X.A.in1.in1 g2 it2 L2 (s1.heap.objs.size + 2) items2 (i2 + 1) s' → Mg it2 (s1.heap.objs.size + 2) g2 s s' → MidF X s1 H1 G1 m1 os0 g1 g2 go1 go2 i1 (i2 + 1) out s') := by
  obtain ⟨G', H', m', vs1, L1, it1, L2, it2, items1, items2, f, z1, z2, va, sl1, sl2, nL2, e1, e2, ⟨a1, a2, a3, a4⟩, ⟨b1, b2, b3, b4, b5⟩, vo⟩ := h
  refine ⟨it2, L2, items2, z2, b5, sl2, fun v s' ev sl' mg => ?_⟩
  have nL1 : H' L1 ≠ none := by rw [f.hL]; exact fun z => nomatch z
  refine ⟨G', H', m', vs1, L1, it1, L2, it2, items1, items2, f.move hc mg.os_ (mg.bare f.bare) fun b o hb e => mg.keep b o (fun z => hb (by rw [z]; simp)) (fun z => hb (by rw [z]; simp)) e, z1, z2, va, sl1.over (fun b o hb e => mg.keep b o ?_ ?_ e) (mg.gens _ hne), sl', nL2, mg.keep _ _ (Ne.symm b1) (show s1.heap.objs.size + 1 ≠ s1.heap.objs.size + 2 by omega) e1, mg.keep _ _ (Ne.symm b2) (show s1.heap.objs.size + 3 ≠ s1.heap.objs.size + 2 by omega) e2, ⟨a1, a2, a3, a4⟩, ⟨b1, b2, b3, b4, b5⟩, vo⟩
  · rcases hb with rfl | rfl | rfl
    · exact Ne.symm b3
    · exact f.ne (by simp) nL1
    · exact Ne.symm b4
  · rcases hb with rfl | rfl | rfl
    · exact a2
    · exact f.ne (by simp) nL1
    · exact show s1.heap.objs.size ≠ s1.heap.objs.size + 2 by omega
end
end Mn

set_option Elab.async false
set_option linter.all false
set_option maxRecDepth 100000
set_option maxHeartbeats 4000000
set_option autoImplicit false
namespace Mn
open PySem PySem.Spec PyProof.Rows L2 GenW
variable [Tbs]
section
variable {X : Cx} {k : Nat} {d : DSp} {s1 s2 s3 : Shared} {H1 G1 : Hp} {m1 : Mu} {vs : List V} {ds os0 : List D} {g1 g2 : Nat} {c1 c2 : Code} {go1 go2 oF1 oF2 : Obj} {pins : List (Addr × Obj)} {σ : L2.St}
theorem zk_of {s s' : Shared} {z TI TO : Addr} {o1 o2 o3 : Obj} (e1 : s.heap.get? z = some o1) (e2 : s.heap.get? TI = some o2) (e3 : s.heap.get? TO = some o3) (k1 : s'.heap.get? z = some o1) (k2 : s'.heap.get? TI = some o2) (k3 : s'.heap.get? TO = some o3) : Zk z TI TO s.heap s'.heap := fun b o hb e => by
  rcases hb with rfl | rfl | rfl
  · rw [e1] at e; cases e; exact k1
  · rw [e2] at e; cases e; exact k2
  · rw [e3] at e; cases e; exact k3
theorem take_one {vs : List V} {x : V} {v : Value} (e : vs[0]? = some x) (r : RelV x v) : Vals (vs.take 1) [v] := by
  rw [List.take_add_one, e]
  exact .cons r .nil
/-- the first turn of both -/
theorem zip_turn0 (room : Room (k + 2) X.A) (I1 : Inv X pins σ H1 s1) (A : Md2 X.prog X.w X.K X.base k X.stack s1 H1 vs d g1 c1 go1 oF1 s2) (B : Md2 X.prog X.w X.K X.base k X.stack s2 H1 vs d g2 c2 go2 oF2 s3)
    (rp1 : RpL X.kf G1 ds vs) (rl1 : Rl X.kf G1 H1 m1) (pure : ∀ m', d ds m' fun o m2 => o = .lst os0 ∧ m2 = m') (hne : os0 ≠ []) {s : Shared} {oD oC : Obj} (hz : ZI (s1.heap.objs.size + 6) (s1.heap.objs.size + 4) (s1.heap.objs.size + 5) (s1.heap.objs.size + 1) (s1.heap.objs.size + 3) s.heap)
    (os_ : s.os = s3.os) (gs : s.gens = s3.gens) (kp : ∀ b o, s3.heap.get? b = some o → s.heap.get? b = some o) (eD : s.heap.get? (s1.heap.objs.size + 7) = some oD) (eC : s.heap.get? (s1.heap.objs.size + 8) = some oC) (nD : ∀ v, oD.data ≠ .cell v) (nC : ∀ v, oC.data ≠ .cell v) :
    wpAny (model X.prog X.w) X.A.in1 (Builtin.«zip.__next__» ⟨[.ref (s1.heap.objs.size + 6)], []⟩) (fun fin s' => ∃ T x y, fin = .done (.ret (.ref T)) ∧ IsT s'.heap T #[x, y] ∧ ZI (s1.heap.objs.size + 6) (s1.heap.objs.size + 4) (s1.heap.objs.size + 5) (s1.heap.objs.size + 1) (s1.heap.objs.size + 3) s'.heap ∧
      MidF X s1 H1 G1 m1 os0 g1 g2 go1 go2 1 1 [x] s' ∧ s'.heap.get? (s1.heap.objs.size + 7) = some oD ∧ s'.heap.get? (s1.heap.objs.size + 8) = some oC) (fun e s' => False) s := by
  have hcs : cStatics < s1.heap.objs.size := let ⟨_, hn, _⟩ := I1.nolimit; hn.lt
  have sz3 : s3.heap.objs.size = s1.heap.objs.size + 4 := by rw [B.sz, A.sz]
  have bt : ∀ {h h' : Heap}, But2 (s1.heap.objs.size + 6) (s1.heap.objs.size + 5) h h' → ∀ {b o}, b ∉ zl s1.heap.objs.size → h.get? b = some o → h'.get? b = some o := fun {h h'} x {b o} hb e => x b o (fun z => hb (by rw [z]; simp)) (fun z => hb (by rw [z]; simp)) e
  have bD : ∀ {h h' : Heap} {o}, But2 (s1.heap.objs.size + 6) (s1.heap.objs.size + 5) h h' → h.get? (s1.heap.objs.size + 7) = some o → h'.get? (s1.heap.objs.size + 7) = some o := fun {h h' o} x e => x _ o (show s1.heap.objs.size + 7 ≠ s1.heap.objs.size + 6 by omega) (show s1.heap.objs.size + 7 ≠ s1.heap.objs.size + 5 by omega) e
  have bC : ∀ {h h' : Heap} {o}, But2 (s1.heap.objs.size + 6) (s1.heap.objs.size + 5) h h' → h.get? (s1.heap.objs.size + 8) = some o → h'.get? (s1.heap.objs.size + 8) = some o := fun {h h' o} x e => x _ o (show s1.heap.objs.size + 8 ≠ s1.heap.objs.size + 6 by omega) (show s1.heap.objs.size + 8 ≠ s1.heap.objs.size + 5 by omega) e
  have lo : ∀ {j : Nat}, j < 4 → s1.heap.objs.size + j ∉ zl s1.heap.objs.size := fun {j} hj hm => by simp at hm; omega
  refine wpAny_mono (zipg_next (P := X.prog) (w := X.w) (A := X.A.in1)
    (fun s => s.os = s3.os ∧ s.gens = s3.gens ∧ (∀ b o, s3.heap.get? b = some o → s.heap.get? b = some o) ∧ s.heap.get? (s1.heap.objs.size + 7) = some oD ∧ s.heap.get? (s1.heap.objs.size + 8) = some oC)
    (fun v s => (∃ G' H' m' vs1 L1 it1, FZ X s1 H1 G1 m1 (it1 :: s1.heap.objs.size :: (s1.heap.objs.size + 1) :: (s1.heap.objs.size + 2) :: (s1.heap.objs.size + 3) :: zl s1.heap.objs.size) os0 G' H' m' vs1 L1 s ∧ SlpA (model X.prog X.w) X.A.in1.in1 g1 it1 L1 s1.heap.objs.size os0.length 1 s ∧ (∃ x, vs1[0]? = some x ∧ RelV x v) ∧ s.gens[g2]? = some (.fresh c2) ∧
      s.heap.get? (s1.heap.objs.size + 1) = some go1 ∧ s.heap.get? (s1.heap.objs.size + 2) = some oF2 ∧ s.heap.get? (s1.heap.objs.size + 3) = some go2 ∧ it1 ≠ s1.heap.objs.size + 1 ∧ it1 ≠ s1.heap.objs.size + 2 ∧ it1 ≠ s1.heap.objs.size + 3 ∧ it1 ∉ zl s1.heap.objs.size) ∧ s.heap.get? (s1.heap.objs.size + 7) = some oD ∧ s.heap.get? (s1.heap.objs.size + 8) = some oC)
    (fun v y s => MidF X s1 H1 G1 m1 os0 g1 g2 go1 go2 1 1 [v] s ∧ s.heap.get? (s1.heap.objs.size + 7) = some oD ∧ s.heap.get? (s1.heap.objs.size + 8) = some oC) (fun _ => False)
    ⟨show s1.heap.objs.size + 6 ≠ s1.heap.objs.size + 4 by omega, show s1.heap.objs.size + 6 ≠ s1.heap.objs.size + 5 by omega, show s1.heap.objs.size + 4 ≠ s1.heap.objs.size + 5 by omega⟩
    (fun s h' t ⟨a1, a2, a3, a4, a5⟩ x => ⟨a1, a2, fun b o e => bt x (fun hm => by have z := Heap.lt_size e; rw [sz3] at z; simp only [List.mem_cons, List.not_mem_nil, or_false] at hm; rcases hm with h | h | h | h | h <;> (rw [h] at z; exact absurd z (by show ¬ (s1.heap.objs.size + _ < s1.heap.objs.size + 4); omega))) (a3 b o e), bD x a4, bC x a5⟩)
    (fun v s h' t ⟨⟨G', H', m', vs1, L1, it1, f, sl, hx, eg, e1, e2, e3, n1, n2, n3, n4⟩, a4, a5⟩ x => ⟨⟨G', H', m', vs1, L1, it1, f.move hcs rfl f.bare fun b o hb e => bt x (fun hm => hb (List.mem_cons_of_mem _ (List.mem_cons_of_mem _ (List.mem_cons_of_mem _ (List.mem_cons_of_mem _ (List.mem_cons_of_mem _ hm)))))) e, sl.over (fun b o hb e => bt x (by
      rcases hb with rfl | rfl | rfl
      · exact n4
      · exact fun hm => f.ne (List.mem_cons_of_mem _ (List.mem_cons_of_mem _ (List.mem_cons_of_mem _ (List.mem_cons_of_mem _ (List.mem_cons_of_mem _ hm))))) (by rw [f.hL]; exact fun z => nomatch z) rfl
      · exact lo (j := 0) (by decide)) e) rfl, hx, eg, bt x (lo (by decide)) e1, bt x (lo (by decide)) e2, bt x (lo (by decide)) e3, n1, n2, n3, n4⟩, bD x a4, bC x a5⟩)
    (fun v y s h' t ⟨a1, a4, a5⟩ x => ⟨a1.over hcs rfl rfl fun b o hb e => bt x hb e, bD x a4, bC x a5⟩) (fun s h' t z _ => z)
    (fun s o1 o2 o3 ⟨a1, a2, a3, a4, a5⟩ e1 e2 e3 n1 n2 n3 => ?_) (fun v s o1 o2 o3 ⟨⟨G', H', m', vs1, L1, it1, f, sl, ⟨x0, ex0, rx0⟩, eg, f1, f2, f3, b1, b2, b3, b4⟩, a4, a5⟩ e1 e2 e3 n1 n2 n3 => ?_) hz ⟨os_, gs, kp, eD, eC⟩) (fun fin s' z => z) fun _ _ z => z.2.2
  · refine zip_first1 (obs := [(s1.heap.objs.size + 6, o1), (s1.heap.objs.size + 4, o2), (s1.heap.objs.size + 5, o3), (s1.heap.objs.size + 7, oD), (s1.heap.objs.size + 8, oC)]) room I1 A B rp1 rl1 pure hne a1 a2 a3 (fun p hp => ?_) fun v s' G' H' m' vs1 L1 it1 f sl hx eg ho f1 f2 f3 b1 b2 b3 => ?_
    · simp only [List.mem_cons, List.not_mem_nil, or_false] at hp
      rcases hp with rfl | rfl | rfl | rfl | rfl
      · exact ⟨e1, by show _ ≤ s1.heap.objs.size + 6; omega, n1⟩
      · exact ⟨e2, by show _ ≤ s1.heap.objs.size + 4; omega, n2⟩
      · exact ⟨e3, by show _ ≤ s1.heap.objs.size + 5; omega, n3⟩
      · exact ⟨a4, by show _ ≤ s1.heap.objs.size + 7; omega, nD⟩
      · exact ⟨a5, by show _ ≤ s1.heap.objs.size + 8; omega, nC⟩
    · have hz := ho _ (List.mem_cons_self ..)
      have hTI := ho _ (List.mem_cons_of_mem _ (List.mem_cons_self ..))
      have hTO := ho _ (List.mem_cons_of_mem _ (List.mem_cons_of_mem _ (List.mem_cons_self ..)))
      have hD := ho _ (List.mem_cons_of_mem _ (List.mem_cons_of_mem _ (List.mem_cons_of_mem _ (List.mem_cons_self ..))))
      have hC := ho _ (List.mem_cons_of_mem _ (List.mem_cons_of_mem _ (List.mem_cons_of_mem _ (List.mem_cons_of_mem _ (List.mem_cons_self ..)))))
      refine ⟨zk_of e1 e2 e3 hz.1 hTI.1 hTO.1, ⟨G', H', m', vs1, L1, it1, f, sl, hx, eg, f1, f2, f3, b1, b2, b3, fun hm => ?_⟩, hD.1, hC.1⟩
      simp only [zl, List.mem_cons, List.not_mem_nil, or_false] at hm
      rcases hm with h | h | h | h | h
      · exact hz.2 h.symm
      · exact hTI.2 h.symm
      · exact hTO.2 h.symm
      · exact hD.2 h.symm
      · exact hC.2 h.symm
  · refine zip_first2 (obs := [(s1.heap.objs.size + 6, o1), (s1.heap.objs.size + 4, o2), (s1.heap.objs.size + 5, o3), (s1.heap.objs.size + 7, oD), (s1.heap.objs.size + 8, oC)]) room I1 A B rp1 pure hne f sl eg (fun p hp => ?_) f1 f2 f3 b1 b2 b3 fun y s' G2 H2 m2 it2 L2 items1 items2 f' zi1 zi2 va sl1 sl2 nL2 ho h1 h3 q1 q2 q3 q4 => ?_
    · have mem : p.1 ∈ zl s1.heap.objs.size := by
        simp only [List.mem_cons, List.not_mem_nil, or_false] at hp
        rcases hp with rfl | rfl | rfl | rfl | rfl <;> simp
      have nit : p.1 ≠ it1 := fun z => b4 (by rw [← z]; exact mem)
      simp only [List.mem_cons, List.not_mem_nil, or_false] at hp
      rcases hp with rfl | rfl | rfl | rfl | rfl
      · exact ⟨e1, by show _ ≤ s1.heap.objs.size + 6; omega, n1, nit⟩
      · exact ⟨e2, by show _ ≤ s1.heap.objs.size + 4; omega, n2, nit⟩
      · exact ⟨e3, by show _ ≤ s1.heap.objs.size + 5; omega, n3, nit⟩
      · exact ⟨a4, by show _ ≤ s1.heap.objs.size + 7; omega, nD, nit⟩
      · exact ⟨a5, by show _ ≤ s1.heap.objs.size + 8; omega, nC, nit⟩
    · have hz := ho _ (List.mem_cons_self ..)
      have hTI := ho _ (List.mem_cons_of_mem _ (List.mem_cons_self ..))
      have hTO := ho _ (List.mem_cons_of_mem _ (List.mem_cons_of_mem _ (List.mem_cons_self ..)))
      have hD := ho _ (List.mem_cons_of_mem _ (List.mem_cons_of_mem _ (List.mem_cons_of_mem _ (List.mem_cons_self ..))))
      have hC := ho _ (List.mem_cons_of_mem _ (List.mem_cons_of_mem _ (List.mem_cons_of_mem _ (List.mem_cons_of_mem _ (List.mem_cons_self ..)))))
      refine ⟨zk_of e1 e2 e3 hz.1 hTI.1 hTO.1, ⟨G2, H2, m2, vs1, L1, it1, L2, it2, items1, items2, f', zi1, zi2, va, sl1, sl2, nL2, h1, h3, ⟨b1, b2, b3, b4⟩, ⟨q1, q2, q3, q4, fun hm => ?_⟩, take_one ex0 rx0⟩, hD.1, hC.1⟩
      simp only [zl, List.mem_cons, List.not_mem_nil, or_false] at hm
      rcases hm with h | h | h | h | h
      · exact hz.2 h.symm
      · exact hTI.2 h.symm
      · exact hTO.2 h.symm
      · exact hD.2 h.symm
      · exact hC.2 h.symm
end
end Mn

set_option Elab.async false
set_option linter.all false
set_option maxRecDepth 100000
set_option maxHeartbeats 4000000
set_option autoImplicit false
namespace Mn
open PySem PySem.Spec PyProof.Rows L2 GenW
variable [Tbs]
section
variable {X : Cx} {k : Nat} {d : DSp} {s1 s2 s3 : Shared} {H1 G1 : Hp} {m1 : Mu} {vs : List V} {os0 : List D} {g1 g2 : Nat} {c1 c2 : Code} {go1 go2 oF1 oF2 : Obj} {pins : List (Addr × Obj)} {σ : L2.St}
theorem MidF.facts {i1 i2 : Nat} {out : List Value} {s : Shared} (h : MidF X s1 H1 G1 m1 os0 g1 g2 go1 go2 i1 i2 out s) : s.heap.get? (s1.heap.objs.size + 1) = some go1 ∧ s.heap.get? (s1.heap.objs.size + 3) = some go2 ∧ s.heap.NoLimit ∧ os0.length ≤ sizeLine := by
  obtain ⟨G', H', m', vs1, L1, it1, L2, it2, items1, items2, f, z1, z2, va, sl1, sl2, nL2, e1, e2, _⟩ := h
  exact ⟨e1, e2, f.lim, f.len⟩
theorem EndF.over {out : List Value} {s s' : Shared} (h : EndF X s1 H1 G1 m1 os0 out s) (hc : cStatics < s1.heap.objs.size) (ho : s'.os = s.os) (hg : s'.gens = s.gens) (k : ∀ b o, b ∉ zl s1.heap.objs.size → s.heap.get? b = some o → s'.heap.get? b = some o) : EndF X s1 H1 G1 m1 os0 out s' := by
  obtain ⟨G', H', m', vs1, L1, it1, it2, f, va⟩ := h
  exact ⟨G', H', m', vs1, L1, it1, it2, f.move hc ho (by rw [hg]; exact f.bare) fun b o hb e => k b o (fun z => hb (List.mem_cons_of_mem _ (List.mem_cons_of_mem _ (List.mem_cons_of_mem _ (List.mem_cons_of_mem _ (List.mem_cons_of_mem _ (List.mem_cons_of_mem _ z))))))) e, va⟩
/-- a later turn of both, or the end -/
theorem zip_turn (room : Room (k + 2) X.A) (I1 : Inv X pins σ H1 s1) (A : Md2 X.prog X.w X.K X.base k X.stack s1 H1 vs d g1 c1 go1 oF1 s2) (B : Md2 X.prog X.w X.K X.base k X.stack s2 H1 vs d g2 c2 go2 oF2 s3) {s : Shared} {oD oC : Obj} {i : Nat} {out : List Value}
    (hz : ZI (s1.heap.objs.size + 6) (s1.heap.objs.size + 4) (s1.heap.objs.size + 5) (s1.heap.objs.size + 1) (s1.heap.objs.size + 3) s.heap) (mid : MidF X s1 H1 G1 m1 os0 g1 g2 go1 go2 i i out s) (hi : i ≤ os0.length) (eD : s.heap.get? (s1.heap.objs.size + 7) = some oD) (eC : s.heap.get? (s1.heap.objs.size + 8) = some oC) :
    wpAny (model X.prog X.w) X.A.in1 (Builtin.«zip.__next__» ⟨[.ref (s1.heap.objs.size + 6)], []⟩) (fun fin s' => ∃ T x y, fin = .done (.ret (.ref T)) ∧ IsT s'.heap T #[x, y] ∧ ZI (s1.heap.objs.size + 6) (s1.heap.objs.size + 4) (s1.heap.objs.size + 5) (s1.heap.objs.size + 1) (s1.heap.objs.size + 3) s'.heap ∧
      (i < os0.length ∧ MidF X s1 H1 G1 m1 os0 g1 g2 go1 go2 (i + 1) (i + 1) (out ++ [x]) s') ∧ s'.heap.get? (s1.heap.objs.size + 7) = some oD ∧ s'.heap.get? (s1.heap.objs.size + 8) = some oC)
      (fun e s' => Stop e s'.heap ∧ ZI (s1.heap.objs.size + 6) (s1.heap.objs.size + 4) (s1.heap.objs.size + 5) (s1.heap.objs.size + 1) (s1.heap.objs.size + 3) s'.heap ∧ EndF X s1 H1 G1 m1 os0 out s' ∧ s'.heap.get? (s1.heap.objs.size + 7) = some oD ∧ s'.heap.get? (s1.heap.objs.size + 8) = some oC) s := by
  have hcs : cStatics < s1.heap.objs.size := let ⟨_, hn, _⟩ := I1.nolimit; hn.lt
  have gne := md2_ne A B
  have z2 : s2.heap.objs.size = s1.heap.objs.size + 2 := A.sz
  have bt : ∀ {h h' : Heap}, But2 (s1.heap.objs.size + 6) (s1.heap.objs.size + 5) h h' → ∀ {b o}, b ∉ zl s1.heap.objs.size → h.get? b = some o → h'.get? b = some o := fun {h h'} x {b o} hb e => x b o (fun z => hb (by rw [z]; simp)) (fun z => hb (by rw [z]; simp)) e
  have bD : ∀ {h h' : Heap} {o}, But2 (s1.heap.objs.size + 6) (s1.heap.objs.size + 5) h h' → h.get? (s1.heap.objs.size + 7) = some o → h'.get? (s1.heap.objs.size + 7) = some o := fun {h h' o} x e => x _ o (show s1.heap.objs.size + 7 ≠ s1.heap.objs.size + 6 by omega) (show s1.heap.objs.size + 7 ≠ s1.heap.objs.size + 5 by omega) e
  have bC : ∀ {h h' : Heap} {o}, But2 (s1.heap.objs.size + 6) (s1.heap.objs.size + 5) h h' → h.get? (s1.heap.objs.size + 8) = some o → h'.get? (s1.heap.objs.size + 8) = some o := fun {h h' o} x e => x _ o (show s1.heap.objs.size + 8 ≠ s1.heap.objs.size + 6 by omega) (show s1.heap.objs.size + 8 ≠ s1.heap.objs.size + 5 by omega) e
  have dep : X.A.in1.depth < recursionLimit := room.in1.depth
  have gis2 : ∀ h : Heap, h.get? (s1.heap.objs.size + 3) = some go2 → h.IsGen (s1.heap.objs.size + 3) g2 := by
    have z := B.gis
    rw [z2] at z
    exact z
  -- what a generator's step leaves of zip's own
  have km : ∀ {it F g : Nat} {s s' : Shared}, it ∉ zl s1.heap.objs.size → F < s1.heap.objs.size + 4 → Mg it F g s s' → ∀ (b : Addr) (o : Obj), b ∈ zl s1.heap.objs.size → s.heap.get? b = some o → s'.heap.get? b = some o := fun {it F g s s'} hn hF mg b o hb e => mg.keep b o (fun z => hn (by rw [← z]; exact hb)) (fun z => by
    rw [z] at hb
    simp only [zl, List.mem_cons, List.not_mem_nil, or_false] at hb
    rcases hb with h | h | h | h | h <;> (rw [h] at hF; exact absurd hF (by show ¬ (s1.heap.objs.size + _ < s1.heap.objs.size + 4); omega))) e
  refine wpAny_mono (zipg_next (P := X.prog) (w := X.w) (A := X.A.in1)
    (fun s => MidF X s1 H1 G1 m1 os0 g1 g2 go1 go2 i i out s ∧ s.heap.get? (s1.heap.objs.size + 7) = some oD ∧ s.heap.get? (s1.heap.objs.size + 8) = some oC)
    (fun v s => (i < os0.length ∧ MidF X s1 H1 G1 m1 os0 g1 g2 go1 go2 (i + 1) i (out ++ [v]) s) ∧ s.heap.get? (s1.heap.objs.size + 7) = some oD ∧ s.heap.get? (s1.heap.objs.size + 8) = some oC)
    (fun v y s => (i < os0.length ∧ MidF X s1 H1 G1 m1 os0 g1 g2 go1 go2 (i + 1) (i + 1) (out ++ [v]) s) ∧ s.heap.get? (s1.heap.objs.size + 7) = some oD ∧ s.heap.get? (s1.heap.objs.size + 8) = some oC)
    (fun s => EndF X s1 H1 G1 m1 os0 out s ∧ s.heap.get? (s1.heap.objs.size + 7) = some oD ∧ s.heap.get? (s1.heap.objs.size + 8) = some oC)
    ⟨show s1.heap.objs.size + 6 ≠ s1.heap.objs.size + 4 by omega, show s1.heap.objs.size + 6 ≠ s1.heap.objs.size + 5 by omega, show s1.heap.objs.size + 4 ≠ s1.heap.objs.size + 5 by omega⟩
    (fun s h' t ⟨a1, a4, a5⟩ x => ⟨a1.over hcs rfl rfl fun b o hb e => bt x hb e, bD x a4, bC x a5⟩) (fun v s h' t ⟨⟨a0, a1⟩, a4, a5⟩ x => ⟨⟨a0, a1.over hcs rfl rfl fun b o hb e => bt x hb e⟩, bD x a4, bC x a5⟩)
    (fun v y s h' t ⟨⟨a0, a1⟩, a4, a5⟩ x => ⟨⟨a0, a1.over hcs rfl rfl fun b o hb e => bt x hb e⟩, bD x a4, bC x a5⟩) (fun s h' t ⟨a1, a4, a5⟩ x => ⟨a1.over hcs rfl rfl fun b o hb e => bt x hb e, bD x a4, bC x a5⟩)
    (fun s o1 o2 o3 ⟨a1, a4, a5⟩ e1 e2 e3 n1 n2 n3 => ?_) (fun v s o1 o2 o3 ⟨⟨a0, a1⟩, a4, a5⟩ e1 e2 e3 n1 n2 n3 => ?_) hz ⟨mid, eD, eC⟩) (fun fin s' z => z) fun e s' z => ⟨z.1, z.2.1, z.2.2⟩
  · obtain ⟨it1, L1, items1, zi, _, nit, sl, go, stop⟩ := a1.turn1 (v := .none) hcs gne
    have km1 := fun {s'} (mg : Mg it1 s1.heap.objs.size g1 s s') => km (s' := s') nit (show s1.heap.objs.size < s1.heap.objs.size + 4 by omega) mg
    have zk := fun {s'} (mg : Mg it1 s1.heap.objs.size g1 s s') => zk_of (s' := s') e1 e2 e3 (km1 mg _ _ (by simp) e1) (km1 mg _ _ (by simp) e2) (km1 mg _ _ (by simp) e3)
    refine nextOf_of_special (slp_special room.hd a1.facts.2.2.1 dep (A.gis _ a1.facts.1) (by rw [zi]; exact hi) sl (fun v s' ev sl' mg => ?_) fun x s' ei ho mg => ?_)
    · have lt : i < os0.length := by rw [← zi]; exact (Array.getElem?_eq_some_iff.mp ev).1
      exact ⟨v, rfl, zk mg, ⟨lt, go v s' ev sl' mg⟩, km1 mg _ _ (by simp) a4, km1 mg _ _ (by simp) a5⟩
    · exact ⟨⟨x, rfl, ho⟩, zk mg, stop s' ei mg, km1 mg _ _ (by simp) a4, km1 mg _ _ (by simp) a5⟩
  · obtain ⟨it2, L2, items2, zi, nit, sl, go⟩ := a1.turn2 hcs gne
    have km1 := fun {s'} (mg : Mg it2 (s1.heap.objs.size + 2) g2 s s') => km (s' := s') nit (show s1.heap.objs.size + 2 < s1.heap.objs.size + 4 by omega) mg
    have zk := fun {s'} (mg : Mg it2 (s1.heap.objs.size + 2) g2 s s') => zk_of (s' := s') e1 e2 e3 (km1 mg _ _ (by simp) e1) (km1 mg _ _ (by simp) e2) (km1 mg _ _ (by simp) e3)
    refine nextOf_of_special (slp_special room.hd a1.facts.2.2.1 dep (gis2 _ a1.facts.2.1) (by rw [zi]; exact hi) sl (fun y s' ev sl' mg => ?_) fun x s' ei ho mg => ?_)
    · exact ⟨y, rfl, zk mg, ⟨a0, go y s' ev sl' mg⟩, km1 mg _ _ (by simp) a4, km1 mg _ _ (by simp) a5⟩
    · exact absurd a0 (by rw [ei, zi]; exact Nat.lt_irrefl _)
end
end Mn

set_option Elab.async false
set_option linter.all false
set_option maxRecDepth 100000
set_option maxHeartbeats 4000000
set_option autoImplicit false
namespace Mn
open PySem PySem.Spec PyProof.Rows L2 GenW
variable [Tbs]
/-! [y[0] for y in zip(g(x), g(x))] -/
theorem zi_iter {P : Program} {w : World} {A : Around} {E : Value → Shared → Prop} {s : Shared} {z TI TO a1 a2 : Addr} {Q : Value → Shared → Prop} (hz : ZI z TI TO a1 a2 s.heap) (h : Q (.ref z) s) : wpAny (model P w) A (pyIter (.ref z)) Q E s := by
  obtain ⟨f0, f, arr, hz, _⟩ := hz
  have hT : s.TypeIs (.ref z) "zip" := ⟨_, hz, rfl⟩
  refine wpAny_pyIter_slot hT F.slot_zip_iter (wpAny_call_entry F.slot_zip_iter hT F.entry_zip_iter (wpAny_pure ?_) (F.args_zip_iter_1 _))
  exact ⟨_, rfl, "zip", _, hT, F.slot_zip_next.lookup, h⟩
theorem elt_first {P : Program} {w : World} {A : Around} {E : Value → Shared → Prop} {s : Shared} {cenv : Env} {y : Str} {p1 p2 p3 : Pos} {j : Nat} {m : Str → Option Value} {T : Addr} {x y' : Value} {Q : Value → Shared → Prop} (hk : cenv.scope.kind = .function) (hl : cenv.kindOf y = some .local) (hm : s.heap.Ns cenv.locals m) (hv : m y = some (.ref T)) (hdy : (y == ("__debug__" : Str)) = false)
    (ht : IsT s.heap T #[x, y']) (h : Q x { s with toks := s.toks + 1 }) : wpAny (model P w) A (eval (.Subscript (.Name y p1) (.Constant (.int 0) j p2) p3) cenv) Q E s := by
  refine Subscript_ (wpAny_Name (wpAny_loadName_local hk hl hm hv (wpAny_Constant_int ?_)) hdy)
  have tup : IsTup ({ s with toks := s.toks + 1 } : Shared).heap T #[x, y'] := ⟨_, ht, rfl, _, rfl⟩
  exact subscriptTail_builtinR (x := x) (T := "tuple") tup.typeIs slot_tuple_getitem.lookup (getItem_tuple (k := 0) (j := 0) tup (by decide) (by decide) rfl rfl ⟨rfl, h⟩) rfl
section
variable {X : Cx} {k : Nat} {d : DSp} {s1 s2 s3 s4 : Shared} {H1 G1 : Hp} {m1 : Mu} {vs : List V} {ds os0 : List D} {g1 g2 : Nat} {c1 c2 : Code} {go1 go2 oF1 oF2 : Obj} {pins : List (Addr × Obj)} {σ : L2.St} {Q : VK} {QD : DK} {EE : Value → Addr → Value → Shared → Prop}
theorem zipG_loop {y : Str} {p1 p2 p3 py pos : Pos} {j : Nat} {iter : Expr} {scope : Scope} (room : Room (k + 2) X.A) (hkd : scope.kind = .function) (hy : scope.names.lookup y = some .local) (hdy : (y == ("__debug__" : Str)) = false)
    (I1 : Inv X pins σ H1 s1) (A : Md2 X.prog X.w X.K X.base k X.stack s1 H1 vs d g1 c1 go1 oF1 s2) (B : Md2 X.prog X.w X.K X.base k X.stack s2 H1 vs d g2 c2 go2 oF2 s3)
    (rp1 : RpL X.kf G1 ds vs) (rl1 : Rl X.kf G1 H1 m1) (pure : ∀ m', d ds m' fun o m2 => o = .lst os0 ∧ m2 = m') (hne : os0 ≠ []) (w : WV X.kf G1 H1 m1 QD Q) (qd : QD (.lst os0) m1)
    (hz4 : ZI (s1.heap.objs.size + 6) (s1.heap.objs.size + 4) (s1.heap.objs.size + 5) (s1.heap.objs.size + 1) (s1.heap.objs.size + 3) s4.heap) (kp4 : ∀ b o, s3.heap.get? b = some o → s4.heap.get? b = some o) (os4 : s4.os = s3.os) (g4 : s4.gens = s3.gens)
    (cenv : Env) (s5 : Shared) (mm : Str → Option Value) (ec : cenv.locals = s1.heap.objs.size + 8) (es : cenv.scope = scope) (os5 : s5.os = s4.os) (g5 : s5.gens = s4.gens) (k5 : ∀ b o, s4.heap.get? b = some o → s5.heap.get? b = some o) (hD : s5.heap.get? (s1.heap.objs.size + 7) = some (lstObj #[] 0)) (hC : s5.heap.Ns (s1.heap.objs.size + 8) mm) :
    codeAny (model X.prog X.w) X.A (.compLoop (.ListComp (.Subscript (.Name y p1) (.Constant (.int 0) j p2) p3) [⟨.Name y py, iter, [], 0⟩] scope pos) 0 (.ref (s1.heap.objs.size + 6)) (.ref (s1.heap.objs.size + 7)) cenv)
      (fun r s' => ∃ m, s'.heap.Ns (s1.heap.objs.size + 8) m ∧ ∀ h', Heap.SameBut (s1.heap.objs.size + 8) s'.heap h' → match r with | .ok _ => EP X pins σ Q (.ref (s1.heap.objs.size + 7)) { s' with heap := h' } | .error x => EE (.ref (s1.heap.objs.size + 7)) (s1.heap.objs.size + 8) x { s' with heap := h' }) s5 := by
  have hcs : cStatics < s1.heap.objs.size := let ⟨_, hn, _⟩ := I1.nolimit; hn.lt
  have CD : s1.heap.objs.size + 7 ≠ s1.heap.objs.size + 8 := by omega
  have zov : ∀ {h h' : Heap}, ZI (s1.heap.objs.size + 6) (s1.heap.objs.size + 4) (s1.heap.objs.size + 5) (s1.heap.objs.size + 1) (s1.heap.objs.size + 3) h → But2 (s1.heap.objs.size + 8) (s1.heap.objs.size + 7) h h' → ZI (s1.heap.objs.size + 6) (s1.heap.objs.size + 4) (s1.heap.objs.size + 5) (s1.heap.objs.size + 1) (s1.heap.objs.size + 3) h' := fun {h h'} x bt => x.over fun b o hb e => by
    rcases hb with rfl | rfl | rfl
    · exact bt _ o (show s1.heap.objs.size + 6 ≠ s1.heap.objs.size + 8 by omega) (show s1.heap.objs.size + 6 ≠ s1.heap.objs.size + 7 by omega) e
    · exact bt _ o (show s1.heap.objs.size + 4 ≠ s1.heap.objs.size + 8 by omega) (show s1.heap.objs.size + 4 ≠ s1.heap.objs.size + 7 by omega) e
    · exact bt _ o (show s1.heap.objs.size + 5 ≠ s1.heap.objs.size + 8 by omega) (show s1.heap.objs.size + 5 ≠ s1.heap.objs.size + 7 by omega) e
  have bt2 : ∀ {h h' : Heap}, But2 (s1.heap.objs.size + 8) (s1.heap.objs.size + 7) h h' → ∀ b o, b ∉ zl s1.heap.objs.size → h.get? b = some o → h'.get? b = some o := fun {h h'} x b o hb e => x b o (fun z => hb (by rw [z]; simp)) (fun z => hb (by rw [z]; simp)) e
  have sz3 : s3.heap.objs.size = s1.heap.objs.size + 4 := by rw [B.sz, A.sz]
  refine comp_turns
    (fun n out s => ZI (s1.heap.objs.size + 6) (s1.heap.objs.size + 4) (s1.heap.objs.size + 5) (s1.heap.objs.size + 1) (s1.heap.objs.size + 3) s.heap ∧ ((n = sizeLine + 2 ∧ out = [] ∧ s.os = s3.os ∧ s.gens = s3.gens ∧ ∀ b o, s3.heap.get? b = some o → s.heap.get? b = some o) ∨
      ∃ i, n + i = os0.length + 1 ∧ i ≤ os0.length ∧ out.length = i ∧ os0.length ≤ sizeLine ∧ MidF X s1 H1 G1 m1 os0 g1 g2 go1 go2 i i out s))
    (fun n out v s => ZI (s1.heap.objs.size + 6) (s1.heap.objs.size + 4) (s1.heap.objs.size + 5) (s1.heap.objs.size + 1) (s1.heap.objs.size + 3) s.heap ∧ ∃ T x y i, v = .ref T ∧ T ≠ s1.heap.objs.size + 7 ∧ T ≠ s1.heap.objs.size + 8 ∧ IsT s.heap T #[x, y] ∧ i < os0.length ∧ out.length = i ∧ os0.length - i < n ∧ MidF X s1 H1 G1 m1 os0 g1 g2 go1 go2 (i + 1) (i + 1) (out ++ [x]) s)
    (fun out s => EndF X s1 H1 G1 m1 os0 out s)
    (by show cenv.scope.names.lookup y = _; rw [es]; exact hy) (by rw [es]; exact hkd) (by rw [ec]; exact CD) (fun n out s h' t hS bt => ?_) (fun n out v s h' t hB bt => ?_) (fun n out v s hB => ?_) (fun n out s c m hS hD hm => ?_) (fun n out v s m c hB hm hv hD => ?_) (fun out s c m hF hD hm => ?_) (sizeLine + 2) [] s5 0 mm
    ⟨hz4.over fun b o _ e => k5 b o e, .inl ⟨rfl, rfl, os5.trans os4, g5.trans g4, fun b o e => k5 b o (kp4 b o e)⟩⟩ hD (by rw [ec]; exact hC)
  · rw [ec] at bt
    obtain ⟨hz, hS⟩ := hS
    refine ⟨zov hz bt, ?_⟩
    rcases hS with ⟨e1, e2, e3, e4, e5⟩ | ⟨i, e1, e2, e3, e4, mid⟩
    · refine .inl ⟨e1, e2, e3, e4, fun b o e => bt b o (fun z => ?_) (fun z => ?_) (e5 b o e)⟩
      · have lt := Heap.lt_size e
        rw [z, sz3] at lt
        exact absurd lt (by show ¬ (s1.heap.objs.size + 8 < s1.heap.objs.size + 4); omega)
      · have lt := Heap.lt_size e
        rw [z, sz3] at lt
        exact absurd lt (by show ¬ (s1.heap.objs.size + 7 < s1.heap.objs.size + 4); omega)
    · exact .inr ⟨i, e1, e2, e3, e4, mid.over hcs rfl rfl fun b o hb e => bt2 bt b o hb e⟩
  · rw [ec] at bt
    obtain ⟨hz, T, x, y', i, e1, e2, e3, e4, e5, e6, e7, mid⟩ := hB
    exact ⟨zov hz bt, T, x, y', i, e1, e2, e3, bt _ _ e3 e2 e4, e5, e6, e7, mid.over hcs rfl rfl fun b o hb e => bt2 bt b o hb e⟩
  · obtain ⟨hz, T, x, y', i, e1, e2, e3, e4, e5, e6, e7, mid⟩ := hB
    have := mid.facts.2.2.2
    omega
  · rw [ec] at hm ⊢
    obtain ⟨hz, hS⟩ := hS
    obtain ⟨oC, eC, oCn⟩ := ns_obj hm
    have nsC : ∀ {arr : Array Value} {n : Nat}, oC.data ≠ .seq arr n := fun {arr n} z => by
      obtain ⟨o, es, ep, e, hd, _⟩ := hm
      rw [eC] at e
      cases e
      rw [hd] at z
      cases z
    have tD : ∀ {s' : Shared} {T : Addr} {arr : Array Value}, IsT s'.heap T arr → s'.heap.get? (s1.heap.objs.size + 7) = some (lstObj out.toArray c) → T ≠ s1.heap.objs.size + 7 := fun {s' T arr} h1 h2 z => by
      unfold IsT at h1
      rw [z, h2] at h1
      simp at h1
    have tC : ∀ {s' : Shared} {T : Addr} {arr : Array Value}, IsT s'.heap T arr → s'.heap.get? (s1.heap.objs.size + 8) = some oC → T ≠ s1.heap.objs.size + 8 := fun {s' T arr} h1 h2 z => by
      unfold IsT at h1
      rw [z, h2] at h1
      cases h1
      exact nsC rfl
    have nsK : ∀ {s' : Shared}, s'.heap.get? (s1.heap.objs.size + 8) = some oC → s'.heap.Ns (s1.heap.objs.size + 8) m := fun {s'} h1 => hm.at' fun o e => by
      rw [eC] at e
      cases e
      exact h1
    rcases hS with ⟨e1, e2, e3, e4, e5⟩ | ⟨i, e1, e2, e3, e4, mid⟩
    · subst e2
      refine zipg_pyNext hz (wpAny_mono (zip_turn0 room I1 A B rp1 rl1 pure hne hz e3 e4 e5 hD eC (fun v z => nomatch z) oCn) (fun fin s' ⟨T, x, y', ef, hT, hz', mid, kD, kC⟩ => ?_) fun _ _ z => z.elim)
      have pos : 0 < os0.length := List.length_pos_iff.mpr hne
      have fl := mid.facts.2.2.2
      exact ⟨T, x, y', ef, hT, ⟨c, kD⟩, ⟨m, nsK kC⟩, hz', T, x, y', 0, rfl, tD hT kD, tC hT kC, hT, pos, rfl, by omega, mid⟩
    · refine zipg_pyNext hz (wpAny_mono (zip_turn room I1 A B hz mid e2 hD eC) (fun fin s' ⟨T, x, y', ef, hT, hz', ⟨lt, mid⟩, kD, kC⟩ => ?_) fun e s' ⟨st, hz', en, kD, kC⟩ => ⟨st, ⟨c, kD⟩, ⟨m, nsK kC⟩, en⟩)
      exact ⟨T, x, y', ef, hT, ⟨c, kD⟩, ⟨m, nsK kC⟩, hz', T, x, y', i, rfl, tD hT kD, tC hT kC, hT, lt, e3, by omega, mid⟩
  · obtain ⟨hz, T, x, y', i, e1, e2, e3, e4, e5, e6, e7, mid⟩ := hB
    subst e1
    refine elt_first (by rw [es]; exact hkd) (by show cenv.scope.names.lookup y = _; rw [es]; exact hy) hm hv hdy e4 ⟨⟨c, hD⟩, ⟨m, hm⟩, os0.length - i, e7, hz, .inr ⟨i + 1, by omega, e5, by rw [List.length_append, List.length_singleton, e6], mid.facts.2.2.2, mid.over hcs rfl rfl fun b o _ e => e⟩⟩
  · rw [ec] at hm
    obtain ⟨G', H', m', vs1, L1, it1, it2, f, va⟩ := hF
    refine ⟨m, hm, fun h' hs => ?_⟩
    have inY : ∀ {b : Addr}, b ∈ zl s1.heap.objs.size → b ∈ it2 :: it1 :: s1.heap.objs.size :: (s1.heap.objs.size + 1) :: (s1.heap.objs.size + 2) :: (s1.heap.objs.size + 3) :: zl s1.heap.objs.size := fun {b} hb => List.mem_cons_of_mem _ (List.mem_cons_of_mem _ (List.mem_cons_of_mem _ (List.mem_cons_of_mem _ (List.mem_cons_of_mem _ (List.mem_cons_of_mem _ hb)))))
    have f2 := f.move (s' := { s with heap := h' }) hcs rfl f.bare fun b o hb e => hs.extBut b o (fun z => hb (inY (by rw [z]; simp))) e
    have hD2 : h'.get? (s1.heap.objs.size + 7) = some (lstObj out.toArray c) := hs.extBut _ _ CD hD
    have hDn : H' (s1.heap.objs.size + 7) = none := (f.hY _ (inY (by simp))).1
    have lv : vs1.length ≤ sizeLine := by rw [← f.rp.len]; exact f.len
    exact ⟨.ref (s1.heap.objs.size + 7), upd H' (s1.heap.objs.size + 7) (.lst vs1), I1.drained (Nat.le_add_right _ _) lv hD2 va ExOk.nil f2.os_ f2.bare f2.un f2.hok hDn, rfl, Rl.newLst (w.after (f.st.less f.le)) (f.rl.less f.le) f.rp f.len qd _ hDn⟩
end
end Mn

set_option Elab.async false
set_option linter.all false
set_option maxRecDepth 100000
set_option maxHeartbeats 4000000
set_option autoImplicit false
namespace Mn
open PySem PySem.Spec PyProof.Rows L2 GenW
variable [Tbs]
/-- [y[0] for y in zip(g(x), g(x))]: g tells the same whatever the memory is, and something -/
def dZipG (d : DSp) (i : Nat) : DT := fun r m Q => ∃ dd os, r[i]? = some (some dd) ∧ os ≠ [] ∧ (∀ m', d [dd] m' fun o m2 => o = .lst os ∧ m2 = m') ∧ Q (.lst os) m
section
variable {X : Cx} {k i : Nat} {ps : List Str} {d : DSp} {x xn y : Str}
/-- a call with a name -/
theorem eval_g2 {f : Addr} {fd : FuncData} {pins : List (Addr × Obj)} {σ : L2.St} {H : Hp} {s : Shared} {v : V} {p q pv : Pos} {E : Value → Shared → Prop} (F : GF2 X.prog X.w X.K X.mg X.base k f fd ps d) (hm : X.mg x = some (.ref f)) (hk : PySem.W.keepIn X.K (.ref f) = true) (bd : Binds X.K fd ps []) (room : Room k X.A) (hg : Gl X x) (I : Inv X pins σ H s)
    (hN : X.N[i]? = some xn) (hv : Vis X.env.scope xn) (ev : σ[i]? = some (some v)) (hl : [v].length = ps.length) (hdb : (x == ("__debug__" : Str)) = false) (hdx : (xn == ("__debug__" : Str)) = false) (hcd : (xn == ("__classdict__" : Str)) = false)
    (he : starEach [.Name xn pv] X.env = (false, eval (.Name xn pv) X.env) :: starEach [] X.env) (hpl : (backTo q (starEach [] X.env)).any (·.1) = false) :
    wpAny (model X.prog X.w) X.A (eval (.Call (.Name x p) [.Name xn pv] [] q) X.env) (fun u s' => u = .ref (s.heap.objs.size + 1) ∧ ∃ g c go oF, Md2 X.prog X.w X.K X.base k X.stack s H [v] d g c go oF s') E s := by
  refine wpAny_Call_Name_kw (ld_glob I hg hm ?_ hdb)
  have nm : ∃ u, RelV v u ∧ ∀ (Q : Value → Shared → Prop) (E : Value → Shared → Prop), Q u s → wpAny (model X.prog X.w) X.A (eval (.Name xn pv) X.env) Q E s := by
    obtain ⟨m, hn, hl⟩ := I.loc
    obtain ⟨u, r, l⟩ := hl i xn v hN ev hv
    refine ⟨u, r, fun Q E h => ?_⟩
    rcases l with ⟨hk, hm⟩ | ⟨hk, c, hc, hcell⟩
    · exact wpAny_Name (wpAny_loadName_local I.ok.kind hk hn hm h) hdx
    · rcases hk with hk | hk
      · exact wpAny_Name (wpAny_loadName_cell I.ok.kind hk hc hcell h) hdx
      · exact wpAny_Name (wpAny_loadName_free I.ok.kind hk hc hcell h hcd) hdx
  obtain ⟨u, ru, nm⟩ := nm
  refine PySem.W.callWith_K (h₀ := X.base) I.ok.mod.kin hk ?_ he hpl
  rw [he]
  refine Calls.spliced_cons (x := eval (.Name xn pv) X.env) (rest := backTo q (starEach [] X.env)) (nm _ _ (Calls.spliced_nil ⟨I.kIn, ?_⟩))
  have bz := bd s [u] I.kIn (by rw [List.append_nil]; exact hl)
  rw [List.append_nil] at bz
  refine wpAny_call (codeAny_mono (F.run X.A X.stack s H ⟨[u], []⟩ [u] [v] hl room I.env0 bz (.cons ru .nil)) fun r s' ⟨er, z⟩ => ?_)
  subst er
  exact ⟨rfl, z⟩
theorem pd_zipG (C : CG2 X.prog X.w X.K X.mg X.base x k ps d) (room : Room (k + 2) X.A) (hg : Gl X x) (hgz : Gl X "zip") (hmz : X.mg "zip" = none) {scope : Scope} {pz p q pv p' q' pv' p1 p2 p3 py pos pos' : Pos} {j : Nat} (hps : ps.length = 1)
    (hN : X.N[i]? = some xn) (hv : Vis X.env.scope xn) (hfree : ∀ z ∈ scope.names, z.2 ≠ .free) (hcell : ∀ z ∈ scope.names, z.2 ≠ .cell) (hkd : scope.kind = .function) (hnm : ∀ z ∈ scope.names, z.2 = .local → scope.names.lookup z.1 = some .local) (hy : scope.names.lookup y = some .local)
    (hdb : (x == ("__debug__" : Str)) = false := by decide) (hdx : (xn == ("__debug__" : Str)) = false := by decide) (hcd : (xn == ("__classdict__" : Str)) = false := by decide) (hdy : (y == ("__debug__" : Str)) = false := by decide)
    (he : ∀ pv, starEach [.Name xn pv] X.env = (false, eval (.Name xn pv) X.env) :: starEach [] X.env := by intro _; rfl) (hpl : ∀ q, (backTo q (starEach [] X.env)).any (·.1) = false := by intro _; rfl)
    (he1 : starEach [.Call (.Name x p) [.Name xn pv] [] q, .Call (.Name x p') [.Name xn pv'] [] q'] X.env = (false, eval (.Call (.Name x p) [.Name xn pv] [] q) X.env) :: starEach [.Call (.Name x p') [.Name xn pv'] [] q'] X.env := by rfl)
    (he2 : starEach [.Call (.Name x p') [.Name xn pv'] [] q'] X.env = (false, eval (.Call (.Name x p') [.Name xn pv'] [] q') X.env) :: starEach [] X.env := by rfl)
    (hpl1 : (backTo pos' (starEach [.Call (.Name x p') [.Name xn pv'] [] q'] X.env)).any (·.1) = false := by rfl) :
    PD X (.ListComp (.Subscript (.Name y p1) (.Constant (.int 0) j p2) p3) [⟨.Name y py, .Call (.Name "zip" pz) [.Call (.Name x p) [.Name xn pv] [] q, .Call (.Name x p') [.Name xn pv'] [] q'] [] pos', [], 0⟩] scope pos) (dZipG d i) := by
  obtain ⟨f, fd, hm, hk, bd, F⟩ := C
  refine ⟨fun pins s σ H Q I ⟨G, ro, m, Qd, hs, hr, ⟨dd, os, er, hne, pure, qd⟩, w⟩ => ?_⟩
  obtain ⟨v, ev, rv⟩ := hs.get i dd er
  refine wpAny_ListComp hfree hkd hnm ?_
  refine wpAny_Call_Name_kw (ld_blt I hgz hmz (show bootBuiltins "zip" = some (.type "zip") by decide +kernel) ?_ (by decide) (by decide))
  refine PyProof.Rows.callWith_type1 ?_ he1 hpl1
  rw [he1]
  refine Calls.spliced_cons (x := eval (.Call (.Name x p) [.Name xn pv] [] q) X.env) (rest := backTo pos' (starEach [.Call (.Name x p') [.Name xn pv'] [] q'] X.env)) (wpAny_mono (eval_g2 (E := X.xe) F hm hk bd (room.mono (by omega)) hg I hN hv ev (by rw [hps]; rfl) hdb hdx hcd (he pv) (hpl q)) (fun u1 s2 ⟨eu1, g1, c1, go1, oF1, A⟩ => ?_) fun _ _ z => z)
  subst eu1
  have I2 : Inv X pins σ H s2 := I.call' (ch := []) A.os_ (Un.kept A.kp) (I.hok.kept A.kp) A.bare fun b z => nomatch z
  rw [he2]
  refine Calls.spliced_cons (x := eval (.Call (.Name x p') [.Name xn pv'] [] q') X.env) (rest := backTo pos' (starEach [] X.env)) (wpAny_mono (eval_g2 (E := X.xe) F hm hk bd (room.mono (by omega)) hg I2 hN hv ev (by rw [hps]; rfl) hdb hdx hcd (he pv') (hpl q')) (fun u2 s3 ⟨eu2, g2, c2, go2, oF2, B⟩ => Calls.spliced_nil ?_) fun _ _ z => z)
  subst eu2
  have z2 : s2.heap.objs.size = s.heap.objs.size + 2 := A.sz
  have z3 : s3.heap.objs.size = s.heap.objs.size + 4 := by rw [B.sz, z2]
  have gi1 := A.gis _ (B.kp _ _ A.ega)
  have gi2 := B.gis _ B.ega
  rw [z2] at gi2 ⊢
  refine call_zipG z3 gi1 gi2 fun h4 hz4 sz4 kp4 => ?_
  have hz : ZI (s.heap.objs.size + 6) (s.heap.objs.size + 4) (s.heap.objs.size + 5) (s.heap.objs.size + 1) (s.heap.objs.size + 3) h4 := hz4
  refine zi_iter (s := { s3 with heap := h4 }) hz ?_
  have szn : ({ s3 with heap := h4 } : Shared).heap.objs.size = s.heap.objs.size + 7 := sz4
  refine wpAny_mono (lc_block (s2 := { s3 with heap := h4 }) (E := X.xe) (x := y) (px := py) (elt := .Subscript (.Name y p1) (.Constant (.int 0) j p2) p3) (iter := .Call (.Name "zip" pz) [.Call (.Name x p) [.Name xn pv] [] q, .Call (.Name x p') [.Name xn pv'] [] q'] [] pos') (pos := pos) (env := X.env) (RR := fun acc C r s' => ∃ m, s'.heap.Ns C m ∧ ∀ h', Heap.SameBut C s'.heap h' → match r with | .ok _ => EP X pins σ Q acc { s' with heap := h' } | .error x => False) hcell hkd
    (fun s0 Q E kp h => zi_iter (hz.over fun b o _ e => kp b o e) h) fun cenv s5 mm ec es os5 g5 k5 hD hC => ?_) (fun acc s3 h3 => wpAny_mono h3 (fun cenv s4 h4 => codeAny_mono h4 fun r s' ⟨m, hm, z⟩ => ⟨m, hm, fun h' hs => ?_⟩) fun _ _ z => z) fun _ _ z => z
  · rw [szn] at ec hD hC ⊢
    exact zipG_loop (s4 := { s3 with heap := h4 }) (EE := fun _ _ _ _ => False) room hkd hy hdy I A B (.cons rv .nil) hr pure hne w qd hz kp4 rfl rfl cenv s5 mm ec es os5 g5 k5 hD hC
  · have z1 := z h' hs
    cases r with
    | ok f => exact z1
    | error e => exact z1.elim
end
end Mn

set_option linter.all false
set_option maxHeartbeats 4000000
set_option autoImplicit false
set_option maxRecDepth 100000
namespace Mn
open PySem L2
variable [Tbs]
local macro_rules | `(tactic| walk_at "d") => `(tactic| (try simp only [xNext, xSeq, xAsg, xRet, xRetF, xDrop, xIf, xPar, xPar3, xMatch, mGo, xFrz, xPut, xAug, xFor, dVar, dC, dOp, dTest, dChain, dAndV, dOrV, dNotV, dAnd, dOr, dNot, dIf, dNil, dCons, dTup, dLst, dLstM, dCB, dIsi, dLc, dLcM, dYes, wipeD, dSlice, oSome, oNone, aSl_tup, aSl_lst, dNeg, dStar, dNewD, dTupVals, dSortSet, dDc, dStep, dIndexTD, dCountL, dExtend, dAppend, dFrz, dLc2, dCountT, dIndexT, sqf_tup, sqf_lst, sqf_pair, sSeq, sSeq_tup, sSeq_lst, sRg1, sRg2, sZip2, sZip3, sZip4, sEnum, gV, gN, gC, gT, tupOf_tup, tupOf_pair, aAdd_int, aAdd_tup, aAdd_lst, aSub_int, aMul_int, aDiv_int, aMod_int, aPow_int, aCmp_int, aIx_tup, aIx_lst, aIx_scr, aIx_pair, aMax_int, aMin_int, aInt_bl, aInt_int, aLen_tup, aLen_lst, aLen_scr, aLen_pair, aTuple_lst, aTuple_tup, aIsB_bl, aNotB_bl, aEq_int, aNe_int, startD, List.map_cons, List.map_nil, List.length_cons, List.length_nil, List.cons_append, List.nil_append, List.replicate_zero, List.replicate_succ, List.append_nil, List.getElem?_cons_zero, List.getElem?_cons_succ, List.set_cons_zero, List.set_cons_succ, Option.some.injEq, exists_eq_left', exists_eq_left, exists_eq', D.int.injEq, D.bl.injEq, D.tup.injEq, D.lst.injEq, D.pair.injEq, D.ref.injEq, List.cons.injEq, Nat.sub_self, Nat.zero_add, Nat.add_sub_cancel, seqI_tup, seqI_lst, seqOf_tup, seqOf_lst, tyN_tup, tyN_lst, tyN_int, tyN_bl, tyN_str, tyN_non, isi_tt, at_0, at_1, at_2, at_3, Option.map_some, true_and, and_true, if_true, Bool.false_eq_true, if_false, Bool.not_true, Bool.not_false, ↓reduceIte, Nat.reduceAdd, Nat.reduceSub, exists_and_left, and_assoc]))
def t_law : DS := (xSeq (xFor (sRg1 (dCB aMax (dCons (dC (.int 1)) (dCons (dCB aMin (dCons (dCB aLen (dCons (dVar 0) dNil)) (dCons (dC (.int 3)) dNil))) dNil)))) (gV 1) (xSeq (xAsg (dCB s_law_pen (dCons (dCB s_law_cell_at (dCons (dVar 0) (dCons (dVar 1) dNil))) dNil)) (gV 2))
  (xFor (sRg1 (dC (.int 4))) (gV 3) (xSeq (xAsg (dCB s_law_scheme (dCons (dVar 2) dNil)) (gV 4))
  (xSeq (xPar 7 8 (dCons (dCB s_law_all_rollups (dCons (dVar 4) dNil)) (dCons (dCB aRepr (dCons (dVar 4) dNil)) dNil)))
  (xSeq (xAsg (dLst (dCons (dCB s_rollups (dCons (dVar 4) dNil)) (dCons (dZipG s_rollups 4) dNil))) (gV 5))
  (xSeq (xIf (dNot (dTest (dCB s_law_same (dCons (dVar 5) (dCons (dLst (dCons (dVar 7) (dCons (dVar 7) dNil))) dNil))))) (xRet (dC (.bl false))) xNext)
  (xSeq (xFor (sSeq (dVar 7)) (gV 6) (xSeq (xAsg (dCB aTuple (dCons (dCB s_law_all_cells (dCons (dVar 4) (dCons (dVar 6) dNil))) dNil)) (gV 9))
  (xIf (dNot (dTest (dCB s_law_same (dCons (dLst (dCons (dCB s_cells (dCons (dVar 4) (dCons (dVar 6) dNil))) (dCons (dCB s_size (dCons (dVar 4) (dCons (dVar 6) dNil))) dNil))) (dCons (dLst (dCons (dVar 9) (dCons (dCB aLen (dCons (dVar 9) dNil)) dNil))) dNil))))) (xRet (dC (.bl false))) xNext)))
  (xIf (dTest (dOp aNe (dCB aRepr (dCons (dVar 4) dNil)) (dVar 8))) (xRet (dC (.bl false))) xNext)))))))))
  (xRet (dC (.bl true))))
/-- the generator's body, for any consumer -/
theorem b_rollups : GBodyL 2 t_rollups e_rollups s_rollups := by
  rintro ds m Q ⟨s, rfl, hs, q⟩
  unfold t_rollups
  walk_at "d"
  refine ⟨s, rfl, hs, ?_⟩
  unfold e_rollups
  walk_at "d"
  refine ⟨s, rfl, hs, _, rfl, ?_, m, fun _ _ e => e, q⟩
  rw [List.length_map]
  exact Nat.le_of_lt (small' (k := 1000) (by have := rolls_len hs; omega))
theorem rolls_ne (s : Sch) : (rolls s).map tD ≠ [] := fun e => by
  have h := rolls_head s
  rw [List.map_eq_nil_iff.mp e] at h
  cases h
theorem v_law : Body 12 t_law s_law := by
  rintro ds m Q ⟨ns, rfl, hl, q⟩
  refine scaf_ks (n := 9) hl rfl (fun m1 => end_rtL (m2 := m1) (fun _ _ e => e) (q m1)) fun De x1 xs m1 p hn hp hP => ?_
  obtain ⟨x3, xs, rfl, hn5⟩ := len_cons hn
  refine scaf_laps (L := 4) (c := 1000) (n := 8) (by decide) hn5 hp hP fun De j x1 xs m2 hj hn hp hP => ?_
  obtain ⟨x4, x5, x6, x7, x8, x9, x10, x11, rfl⟩ := len8 hn
  walk_at "d"
  refine ⟨p, _, rfl, hp, by omega, fun s m3 hs hu => ?_⟩
  have hp3 := hu.pen
  have hsh := (sm_encS hs).shows (by decide) (by decide)
  walk_at "d"
  refine ⟨s, rfl, hs, _, rfl, (hsh m3).1, (hsh m3).2, ?_⟩
  refine ⟨s, rfl, hs, encS s, _, rfl, rolls_ne s, fun m' => ⟨s, rfl, hs, rfl, rfl⟩, by decide, by decide, ?_⟩
  have hrl : Sm (.lst ((rolls s).map tD)) 2 6000 := (sm_lst (k := 1) (n := 69) fun d hd => by
    obtain ⟨r, hr, rfl⟩ := List.mem_map.mp hd
    exact sm_roll hs (rolls_roll hr)).mono (by decide) (by rw [List.length_map]; have := rolls_len hs; omega)
  have hdue := (two_sm hrl).shows (by decide) (by decide) m3
  refine ⟨_, _, rfl, hdue.1, hdue.1, rfl, hdue.2, true, rfl, ?_⟩
  simp only [Bool.not_true, Bool.false_eq_true, ↓reduceIte]
  refine ⟨_, Or.inl rfl, ?_⟩
  refine forGo_take (enc := tD) (fun _ rr m => (∃ x1 x3 x5 x6 x9 x10 x11, rr = [some (D.scr (ns.map D.int)), x1, some (.ref p), x3, some (encS s), x5, x6, some (.lst ((rolls s).map tD)), some (.str (pyM (encS s) m3).shown), x9, x10, x11]) ∧ m = m3) (rolls s) [] _ _ _ rfl ⟨⟨_, _, _, _, _, _, _, rfl⟩, rfl⟩ ?_ ?_
  · rintro pre r post rr m5 P e ⟨⟨x1, x3, x5, x6, x9, x10, x11, rfl⟩, rfl⟩ hP2
    have hr : Roll s r := rolls_roll (by rw [e]; simp)
    walk_at "d"
    refine ⟨s, r, rfl, hs, hr, ?_⟩
    walk_at "d"
    refine ⟨s, r, rfl, hs, hr, s, r, rfl, hs, hr, by decide, ?_⟩
    walk_at "d"
    have el : (cellsOf s r).length = prodN (szs s r) := cellsN_len _
    have h60 := cells_small hs hr
    have hcs : Sm (.tup ((cellsOf s r).map tD)) 2 6000 := (sm_tup (k := 1) (n := 69) fun d hd => by
      obtain ⟨c, hc, rfl⟩ := List.mem_map.mp hd
      exact sm_cell hs hr (cell_iff.mp hc)).mono (by decide) (by rw [List.length_map]; omega)
    have sh := (sm_lst (k := 2) (n := 6000) (ds := [.tup ((cellsOf s r).map tD), .int ((cellsOf s r).length : Nat)]) fun d hd => by
      simp only [List.mem_cons, List.not_mem_nil, or_false] at hd
      rcases hd with rfl | rfl
      · exact hcs
      · exact (sm_int (by omega)).mono (by decide) (by decide)).shows (by decide) (by show 2 * (6000 + 2) + 3 ≤ 16777216; decide) m5
    rw [List.length_map, show nD (prodN (szs s r)) = D.int ((cellsOf s r).length : Nat) from by rw [el]; rfl]
    refine ⟨by decide, _, _, rfl, sh.1, sh.1, rfl, sh.2, true, rfl, ?_⟩
    simp only [Bool.not_true, Bool.false_eq_true, ↓reduceIte]
    exact hP2 _ _ ⟨⟨_, _, _, _, _, _, _, rfl⟩, rfl⟩
  · rintro rr m5 ⟨⟨x1, x3, x5, x6, x9, x10, x11, rfl⟩, rfl⟩
    walk_at "d"
    refine ⟨_, rfl, (hsh m5).1, (hsh m5).2, ?_⟩
    refine aNe_str_self ?_
    walk_at "d"
    exact hP _ _ _ _ rfl (hp3.u.mono (by omega)).pen
/-! two readings with whole numbers alone, for the rules that leave the table of generators -/
def t2_product_of : DS := (xSeq (xAsg (dC (.int 1)) (gV 1))
  (xSeq (xFor (sSeq (dVar 0)) (gV 2) (xAsg (dOp aMul (dVar 1) (dVar 2)) (gV 1)))
  (xRet (dVar 1))))
theorem v2_product_of : Body 3 t2_product_of s_product_of := by
  rintro ds m Q ⟨ns, rfl, hn, hl, q⟩
  have hq := end_rt (m0 := m) q
  unfold t2_product_of
  walk_at "d"
  refine ⟨_, .inl rfl, ?_⟩
  unfold prodI at hq
  generalize (none : Option D) = o2
  generalize (1 : Int) = a at hq ⊢
  generalize D.lst (ns.map D.int) = al
  clear q hl
  induction ns generalizing a o2 with
  | nil =>
    simp only [List.map_nil, forGo]
    walk_at "d"
    exact hq
  | cons n ns ih =>
    simp only [List.map_cons, forGo]
    walk_at "d"
    have h := hn n (by simp)
    refine ⟨.inr ⟨by omega, by omega⟩, ih (fun x hx => hn x (by simp [hx])) (some (D.int n)) (a * n) hq⟩
def t2_rollups_of : DS := (xRet (dCB s_tuples_below (dCons (dLc (sSeq (dVar 0)) [1] (gV 1) dYes (dOp aAddI (dCB aLen (dCons (dOp aIx (dVar 1) (dC (.int 1))) dNil)) (dC (.int 1)))) dNil)))
theorem v2_rollups_of : Body 2 t2_rollups_of s_rollups_of := by
  rintro ds m Q ⟨s, rfl, hs, q⟩
  have h3 := hs.2.1
  have e0 : encS s = .tup (s.map At.enc) := rfl
  unfold t2_rollups_of
  walk_at "d"
  refine ⟨_, Or.inr e0, small (k := 1000) (by rw [List.length_map]; omega), ?_⟩
  refine lcGo_maps (enc := At.enc) (fun a : At => nD (a.ss.length + 1)) s [] _ (fun a ha K hK => ?_) ?_
  · unfold At.enc
    walk_at "d"
    rw [List.length_map]
    exact hK
  · rw [List.nil_append]
    refine ⟨s.map fun a : At => a.ss.length + 1, by rw [List.map_map]; rfl, by rw [List.length_map]; exact h3, fun k hk => ?_, end_rt q⟩
    obtain ⟨a, ha, rfl⟩ := List.mem_map.mp hk
    have := (hs.2.2.1 a ha).2.2.1
    omega
/-- both promises of a generator def -/
def CG12 (P : Program) (w : World) (K : PySem.W.Frag) (mg : Str → Option Value) (base : Heap) (x : Str) (k : Nat) (ps : List Str) (d : DSp) : Prop := CG1 P w K mg base x k ps d ∧ CG2 P w K mg base x k ps d
section
variable {X : Cx}
theorem gv (i : Nat) {x : Str} {pos : Pos} (hN : X.N[i]? = some x := by rfl) (hv : Vis X.env.scope x := by first | exact Or.inl rfl | exact Or.inr (Or.inl rfl) | exact Or.inr (Or.inr rfl)) (hd : (x == ("__debug__" : Str)) = false := by decide) (hcd : (x == ("__classdict__" : Str)) = false := by decide) : GE X (.Name x pos) (tVar i) := ge_var hN hv hd hcd
end
end Mn

set_option Elab.async false
set_option linter.all false
set_option maxRecDepth 100000
set_option maxHeartbeats 4000000
set_option autoImplicit false
namespace Mn
open PySem PySem.Spec PyProof.Rows L2
variable [Tbs]
section
variable {X : Cx}
/-! len(set(t)), t a tuple of tuples of ints -/
end
end Mn

set_option Elab.async false
set_option linter.all false
set_option maxRecDepth 100000
set_option maxHeartbeats 4000000
set_option autoImplicit false
namespace Mn
open PySem PySem.Spec PyProof.Rows L2
variable [Tbs]
section
variable {X : Cx}
/-! sorted(set(t)), t a tuple of ints -/
end
end Mn

set_option Elab.async false
set_option linter.all false
set_option maxRecDepth 100000
set_option maxHeartbeats 4000000
set_option autoImplicit false
namespace Mn
open PySem PySem.Spec PyProof.Rows L2
variable [Tbs]
/-! xs.count(t) of a list of texts -/
section
variable {X : Cx}
end
end Mn

set_option Elab.async false
set_option linter.all false
set_option maxHeartbeats 4000000
set_option autoImplicit false
set_option maxRecDepth 100000
namespace Mn
open PySem PySem.Spec PyProof.Rows L2
variable [Tbs]
def topS (i : Nat) : Stmt := PySem.Challenge.pw_rolluplevels_k02_rollups_and_cells.main.body.getD i (.Pass ⟨0, 0, 0, 0⟩)
abbrev st_is_integer : Stmt := topS 9
theorem sc_is_integer : FnScope ["thing"] ["thing"] (defScope st_is_integer) := ⟨rfl, rfl, rfl, by decide +kernel, rfl, by decide +kernel, by decide +kernel⟩
theorem ok_is_integer {P : Program} {w : World} {K : PySem.W.Frag} {mg : Str → Option Value} {base : Heap} (B : Bts mg) (h : ∃ f fd, Df K mg "is_integer" st_is_integer ["thing"] f fd) : ClF P w K mg base "is_integer" 1 ["thing"] s_is_integer :=
  fnCF h sc_is_integer l_is_integer v_is_integer fun f cdv A outer s H E room =>
    (pdss_one (pds_ret (pd_and (pd_isi (T := "int") (pd_var (pv 0)) (by rfl) B.isi (by rfl) B.int (by decide +kernel) (by decide)) (pd_one (pd_not (pd_isi (T := "bool") (pd_var (pv 0)) (by rfl) B.isi (by rfl) B.bool (by decide +kernel) (by decide)))))))

theorem okg_is_integer {P : Program} {w : World} {K : PySem.W.Frag} {mg : Str → Option Value} {base : Heap} (B : Bts mg) (h : ∃ f fd, Df K mg "is_integer" st_is_integer ["thing"] f fd) : ClG1 P w K mg base "is_integer" 1 ["thing"] s_is_integer :=
  gnG h sc_is_integer l_is_integer v_is_integer fun f cdv A outer s H room =>
    (gdss_one (gds_ret (gd_and (gd_isi (T := "int") (gd_var (gv 0)) (by rfl) B.isi (by rfl) B.int (by decide +kernel) (by decide)) (ge_one (gd_not (gd_isi (T := "bool") (gd_var (gv 0)) (by rfl) B.isi (by rfl) B.bool (by decide +kernel) (by decide)))))))

abbrev st_is_between : Stmt := topS 10
theorem sc_is_between : FnScope ["thing", "low", "high"] ["thing", "low", "high"] (defScope st_is_between) := ⟨rfl, rfl, rfl, by decide +kernel, rfl, by decide +kernel, by decide +kernel⟩
theorem ok_is_between {P : Program} {w : World} {K : PySem.W.Frag} {mg : Str → Option Value} {base : Heap} (B : Bts mg) (h : ∃ f fd, Df K mg "is_between" st_is_between ["thing", "low", "high"] f fd) (C_is_integer : ClF P w K mg base "is_integer" 1 ["thing"] s_is_integer) : ClF P w K mg base "is_between" 2 ["thing", "low", "high"] s_is_between :=
  fnCF h sc_is_between l_is_between v_is_between fun f cdv A outer s H E room =>
    (pdss_one (pds_ret (pd_and (pd_callF C_is_integer (room.mono (by decide)) (by rfl) (pda_cons (pd_var (pv 0)) pda_nil)) (pd_one (pd_chain op_le op_le (c2_cmp _) (c2_cmp _) (pd_var (pv 1)) (pd_var (pv 0)) (pd_var (pv 2)) (by with_unfolding_all rfl))))))

theorem okg_is_between {P : Program} {w : World} {K : PySem.W.Frag} {mg : Str → Option Value} {base : Heap} (B : Bts mg) (h : ∃ f fd, Df K mg "is_between" st_is_between ["thing", "low", "high"] f fd) (C_is_integer : ClG1 P w K mg base "is_integer" 1 ["thing"] s_is_integer) : ClG1 P w K mg base "is_between" 2 ["thing", "low", "high"] s_is_between :=
  gnG h sc_is_between l_is_between v_is_between fun f cdv A outer s H room =>
    (gdss_one (gds_ret (gd_and (gd_callF C_is_integer (room.mono (by decide)) (by rfl) (gda_cons (gd_var (gv 0)) gda_nil)) (ge_one (gd_chain og_le og_le (c2_cmp _) (c2_cmp _) (gd_var (gv 1)) (gd_var (gv 0)) (gd_var (gv 2)) (by with_unfolding_all rfl))))))

abbrev st_groups_behind : Stmt := topS 11
theorem sc_groups_behind : FnScope ["step", "groups", "found", "one"] ["step", "groups"] (defScope st_groups_behind) := ⟨rfl, rfl, rfl, by decide +kernel, rfl, by decide +kernel, by decide +kernel⟩
theorem ok_groups_behind {P : Program} {w : World} {K : PySem.W.Frag} {mg : Str → Option Value} {base : Heap} (B : Bts mg) (h : ∃ f fd, Df K mg "groups_behind" st_groups_behind ["step", "groups"] f fd) (C_is_between : ClF P w K mg base "is_between" 2 ["thing", "low", "high"] s_is_between) : ClF P w K mg base "groups_behind" 3 ["step", "groups"] s_groups_behind :=
  fnCF h sc_groups_behind l_groups_behind v_groups_behind fun f cdv A outer s H E room =>
    (pdss_cons (pds_if (pdt_w (pdw_or (pdt_not (pdt_val (pd_isi (T := "tuple") (pd_var (pv 0)) (by rfl) B.isi (by rfl) B.tuple (by decide +kernel) (by decide)))) (pdw_or1 (pdt_cmp (op_neA room.units) c2_ne (pd_callB callR_len cl_len (by rfl) B.len (by decide +kernel) (pda_cons (pd_var (pv 0)) pda_nil)) (pd_var (pv 1)) (nomark _))))) (pdss_one (pds_ret pd_int)) pdss_nil)
    (pdss_cons (pds_if (pdt_not (pdt_val (pd_callB (cr_all rfl) cl_all (by rfl) B.all (by decide +kernel) (pda_cons (pd_lc (own := [("one", 3)]) (dg := (gV 3)) (tt := dYes) (te := (dCB s_is_between (dCons (dVar 3) (dCons (dC (.int 0)) (dCons (dOp aSub (dVar 1) (dC (.int 2))) dNil))))) rfl sc_groups_behind.nd  (pdi_seq (pd_var (pv 0))) (blkOk_by (own := [("one", 3)]) (by rfl)) (gc_name (vs := [3]) (i := 3) (by decide)) (fun _ _ _ _ _ => (pg_name (i := 3) sc_groups_behind.nd rfl (by first | exact Or.inl rfl | exact Or.inr rfl))) (fun _ _ _ _ _ => pdts_nil) (fun _ _ _ _ _ => (pd_callF C_is_between (room.mono (by decide)) (by rfl) (pda_cons (pd_var (pv 3)) (pda_cons pd_int (pda_cons (pd_op op_sub c2_sub (pd_var (pv 1)) pd_int) pda_nil)))))) pda_nil)))) (pdss_one (pds_ret pd_int)) pdss_nil)
    (pdss_cons (pds_set (i := 2) sc_groups_behind.nd rfl (by first | exact Or.inl rfl | exact Or.inr rfl) (pd_lenSet (by rfl) B.len (by rfl) B.set (pd_var (pv 0))))
    (pdss_one (pds_ret (pd_if (pdt_cmp (op_eqA room.units) c2_eq (pd_callB (callR_max rfl room.units) cl_max (by rfl) B.max (by decide +kernel) (pda_cons (pd_var (pv 0)) pda_nil)) (pd_op op_sub c2_sub (pd_var (pv 2)) pd_int) (nomark _)) (pd_var (pv 2)) pd_int))))))

theorem okg_groups_behind {P : Program} {w : World} {K : PySem.W.Frag} {mg : Str → Option Value} {base : Heap} (B : Bts mg) (h : ∃ f fd, Df K mg "groups_behind" st_groups_behind ["step", "groups"] f fd) (C_is_between : ClG1 P w K mg base "is_between" 2 ["thing", "low", "high"] s_is_between) : ClG1 P w K mg base "groups_behind" 3 ["step", "groups"] s_groups_behind :=
  gnG h sc_groups_behind l_groups_behind v_groups_behind fun f cdv A outer s H room =>
    (gdss_cons (gds_if (gt_w (gdw_or (gdt_not (gdt_val (gd_isi (T := "tuple") (gd_var (gv 0)) (by rfl) B.isi (by rfl) B.tuple (by decide +kernel) (by decide)))) (gw_or1 (gdt_cmp (og_neA room.units) c2_ne (gd_callB cg_len cl_len (by rfl) B.len (by decide +kernel) (gda_cons (gd_var (gv 0)) gda_nil)) (gd_var (gv 1)) (nomark _))))) (gdss_one (gds_ret gd_int)) gdss_nil)
    (gdss_cons (gds_if (gdt_not (gdt_val (gd_callB (cg_all rfl) cl_all (by rfl) B.all (by decide +kernel) (gda_cons (gd_lc (own := [("one", 3)]) (dg := (gV 3)) (te := (dCB s_is_between (dCons (dVar 3) (dCons (dC (.int 0)) (dCons (dOp aSub (dVar 1) (dC (.int 2))) dNil))))) rfl sc_groups_behind.nd  (gdi_seq (gd_var (gv 0))) (blkOk_by (own := [("one", 3)]) (by rfl)) (gc_name (vs := [3]) (i := 3) (by decide)) (fun _ _ _ _ _ => (gg_name (i := 3) sc_groups_behind.nd rfl (by first | exact Or.inl rfl | exact Or.inr rfl))) (fun _ _ _ _ _ => (gd_callF C_is_between (room.mono (by decide)) (by rfl) (gda_cons (gd_var (gv 3)) (gda_cons gd_int (gda_cons (gd_op og_sub c2_sub (gd_var (gv 1)) gd_int) gda_nil)))))) gda_nil)))) (gdss_one (gds_ret gd_int)) gdss_nil)
    (gdss_cons (gds_set (i := 2) sc_groups_behind.nd rfl (by first | exact Or.inl rfl | exact Or.inr rfl) (gd_lenSet (pd_var (pv 0)) (gd_var (gv 0)) (by rfl) B.len (by rfl) B.set))
    (gdss_one (gds_ret (gd_if (gdt_cmp (og_eqA room.units) c2_eq (gd_callB (cg_max rfl room.units) cl_max (by rfl) B.max (by decide +kernel) (gda_cons (gd_var (gv 0)) gda_nil)) (gd_op og_sub c2_sub (gd_var (gv 2)) gd_int) (nomark _)) (gd_var (gv 2)) gd_int))))))

abbrev st_is_attribute : Stmt := topS 12
theorem sc_is_attribute : FnScope ["thing", "step", "groups", "steps"] ["thing"] (defScope st_is_attribute) := ⟨rfl, rfl, rfl, by decide +kernel, rfl, by decide +kernel, by decide +kernel⟩
theorem ok_is_attribute {P : Program} {w : World} {K : PySem.W.Frag} {mg : Str → Option Value} {base : Heap} (B : Bts mg) (h : ∃ f fd, Df K mg "is_attribute" st_is_attribute ["thing"] f fd) (c_MOST_VALUES : Ci mg "MOST_VALUES" 6) (c_MOST_STEPS : Ci mg "MOST_STEPS" 3) (C_groups_behind : ClF P w K mg base "groups_behind" 3 ["step", "groups"] s_groups_behind) (C_is_between : ClF P w K mg base "is_between" 2 ["thing", "low", "high"] s_is_between) : ClF P w K mg base "is_attribute" 4 ["thing"] s_is_attribute :=
  fnCF h sc_is_attribute l_is_attribute v_is_attribute fun f cdv A outer s H E room =>
    (pdss_cons (pds_if (pdt_w (pdw_or (pdt_not (pdt_val (pd_isi (T := "tuple") (pd_var (pv 0)) (by rfl) B.isi (by rfl) B.tuple (by decide +kernel) (by decide)))) (pdw_or (pdt_cmp (op_neA room.units) c2_ne (pd_callB callR_len cl_len (by rfl) B.len (by decide +kernel) (pda_cons (pd_var (pv 0)) pda_nil)) pd_int (nomark _)) (pdw_or1 (pdt_not (pdt_val (pd_callF C_is_between (room.mono (by decide)) (by rfl) (pda_cons (pd_ix room.u65 (pd_var (pv 0)) pd_int) (pda_cons pd_int (pda_cons (pd_globI c_MOST_VALUES (by rfl)) pda_nil)))))))))) (pdss_one (pds_ret pd_bl)) pdss_nil)
    (pdss_cons (pds_asg (pd_var (pv 0)) (pg_tup rfl (pgs_cons (pg_name (i := 2) sc_is_attribute.nd rfl (by first | exact Or.inl rfl | exact Or.inr rfl)) (pgs_cons (pg_name (i := 3) sc_is_attribute.nd rfl (by first | exact Or.inl rfl | exact Or.inr rfl)) pgs_nil))) (gc_tup (gcs_cons (gc_name (vs := [2, 3]) (i := 2) (by decide)) (gcs_cons (gc_name (vs := [2, 3]) (i := 3) (by decide)) (gcs_nil (vs := [2, 3]))))))
    (pdss_cons (pds_if (pdt_w (pdw_or (pdt_not (pdt_val (pd_isi (T := "tuple") (pd_var (pv 3)) (by rfl) B.isi (by rfl) B.tuple (by decide +kernel) (by decide)))) (pdw_or1 (pdt_cmp op_gt (c2_cmp _) (pd_callB callR_len cl_len (by rfl) B.len (by decide +kernel) (pda_cons (pd_var (pv 3)) pda_nil)) (pd_globI c_MOST_STEPS (by rfl)) (nomark _))))) (pdss_one (pds_ret pd_bl)) pdss_nil)
    (pdss_cons (pds_for PassesOwn.never rfl (pdi_seq (pd_var (pv 3))) (pg_name (i := 1) sc_is_attribute.nd rfl (by first | exact Or.inl rfl | exact Or.inr rfl)) (gc_name (vs := [1]) (i := 1) (by decide)) (pdss_cons (pds_set (i := 2) sc_is_attribute.nd rfl (by first | exact Or.inl rfl | exact Or.inr rfl) (pd_callF C_groups_behind (room.mono (by decide)) (by rfl) (pda_cons (pd_var (pv 1)) (pda_cons (pd_var (pv 2)) pda_nil))))
    (pdss_one (pds_if (pdt_cmp (op_eqA room.units) c2_eq (pd_var (pv 2)) pd_int (nomark _)) (pdss_one (pds_ret pd_bl)) pdss_nil))))
    (pdss_one (pds_ret pd_bl))))))

theorem okg_is_attribute {P : Program} {w : World} {K : PySem.W.Frag} {mg : Str → Option Value} {base : Heap} (B : Bts mg) (h : ∃ f fd, Df K mg "is_attribute" st_is_attribute ["thing"] f fd) (c_MOST_VALUES : Ci mg "MOST_VALUES" 6) (c_MOST_STEPS : Ci mg "MOST_STEPS" 3) (C_groups_behind : ClG1 P w K mg base "groups_behind" 3 ["step", "groups"] s_groups_behind) (C_is_between : ClG1 P w K mg base "is_between" 2 ["thing", "low", "high"] s_is_between) : ClG1 P w K mg base "is_attribute" 4 ["thing"] s_is_attribute :=
  gnG h sc_is_attribute l_is_attribute v_is_attribute fun f cdv A outer s H room =>
    (gdss_cons (gds_if (gt_w (gdw_or (gdt_not (gdt_val (gd_isi (T := "tuple") (gd_var (gv 0)) (by rfl) B.isi (by rfl) B.tuple (by decide +kernel) (by decide)))) (gdw_or (gdt_cmp (og_neA room.units) c2_ne (gd_callB cg_len cl_len (by rfl) B.len (by decide +kernel) (gda_cons (gd_var (gv 0)) gda_nil)) gd_int (nomark _)) (gw_or1 (gdt_not (gdt_val (gd_callF C_is_between (room.mono (by decide)) (by rfl) (gda_cons (gd_ixI (by decide) room.u65 (pd_var (pv 0)) (gd_var (gv 0))) (gda_cons gd_int (gda_cons (gd_globI c_MOST_VALUES (by rfl)) gda_nil)))))))))) (gdss_one (gds_ret gd_bl)) gdss_nil)
    (gdss_cons (gds_asg (gd_var (gv 0)) (gg_tup rfl (ggs_cons (gg_name (i := 2) sc_is_attribute.nd rfl (by first | exact Or.inl rfl | exact Or.inr rfl)) (ggs_cons (gg_name (i := 3) sc_is_attribute.nd rfl (by first | exact Or.inl rfl | exact Or.inr rfl)) ggs_nil))) (gc_tup (gcs_cons (gc_name (vs := [2, 3]) (i := 2) (by decide)) (gcs_cons (gc_name (vs := [2, 3]) (i := 3) (by decide)) (gcs_nil (vs := [2, 3]))))))
    (gdss_cons (gds_if (gt_w (gdw_or (gdt_not (gdt_val (gd_isi (T := "tuple") (gd_var (gv 3)) (by rfl) B.isi (by rfl) B.tuple (by decide +kernel) (by decide)))) (gw_or1 (gdt_cmp og_gt (c2_cmp _) (gd_callB cg_len cl_len (by rfl) B.len (by decide +kernel) (gda_cons (gd_var (gv 3)) gda_nil)) (gd_globI c_MOST_STEPS (by rfl)) (nomark _))))) (gdss_one (gds_ret gd_bl)) gdss_nil)
    (gdss_cons (gds_for rfl (gdi_seq (gd_var (gv 3))) (gg_name (i := 1) sc_is_attribute.nd rfl (by first | exact Or.inl rfl | exact Or.inr rfl)) (gc_name (vs := [1]) (i := 1) (by decide)) (gdss_cons (gds_set (i := 2) sc_is_attribute.nd rfl (by first | exact Or.inl rfl | exact Or.inr rfl) (gd_callF C_groups_behind (room.mono (by decide)) (by rfl) (gda_cons (gd_var (gv 1)) (gda_cons (gd_var (gv 2)) gda_nil))))
    (gdss_one (gds_if (gdt_cmp (og_eqA room.units) c2_eq (gd_var (gv 2)) gd_int (nomark _)) (gdss_one (gds_ret gd_bl)) gdss_nil))))
    (gdss_one (gds_ret gd_bl))))))

abbrev st_product_of : Stmt := topS 13
theorem sc_product_of : FnScope ["numbers", "found", "number"] ["numbers"] (defScope st_product_of) := ⟨rfl, rfl, rfl, by decide +kernel, rfl, by decide +kernel, by decide +kernel⟩
theorem ok_product_of {P : Program} {w : World} {K : PySem.W.Frag} {mg : Str → Option Value} {base : Heap} (B : Bts mg) (h : ∃ f fd, Df K mg "product_of" st_product_of ["numbers"] f fd) : ClF P w K mg base "product_of" 1 ["numbers"] s_product_of :=
  fnCF h sc_product_of l_product_of v_product_of fun f cdv A outer s H E room =>
    (pdss_cons (pds_set (i := 1) sc_product_of.nd rfl (by first | exact Or.inl rfl | exact Or.inr rfl) pd_int)
    (pdss_cons (pds_for PassesOwn.never rfl (pdi_seq (pd_var (pv 0))) (pg_name (i := 2) sc_product_of.nd rfl (by first | exact Or.inl rfl | exact Or.inr rfl)) (gc_name (vs := [2]) (i := 2) (by decide)) (pdss_one (pds_set (i := 1) sc_product_of.nd rfl (by first | exact Or.inl rfl | exact Or.inr rfl) (pd_op op_mulA c2_mulA (pd_var (pv 1)) (pd_var (pv 2))))))
    (pdss_one (pds_ret (pd_var (pv 1))))))

theorem okg_product_of {P : Program} {w : World} {K : PySem.W.Frag} {mg : Str → Option Value} {base : Heap} (B : Bts mg) (h : ∃ f fd, Df K mg "product_of" st_product_of ["numbers"] f fd) : ClG1 P w K mg base "product_of" 1 ["numbers"] s_product_of :=
  gnG h sc_product_of l_product_of v2_product_of fun f cdv A outer s H room =>
    (gdss_cons (gds_set (i := 1) sc_product_of.nd rfl (by first | exact Or.inl rfl | exact Or.inr rfl) gd_int)
    (gdss_cons (gds_for rfl (gdi_seq (gd_var (gv 0))) (gg_name (i := 2) sc_product_of.nd rfl (by first | exact Or.inl rfl | exact Or.inr rfl)) (gc_name (vs := [2]) (i := 2) (by decide)) (gdss_one (gds_set (i := 1) sc_product_of.nd rfl (by first | exact Or.inl rfl | exact Or.inr rfl) (gd_op og_mul c2_mul (gd_var (gv 1)) (gd_var (gv 2))))))
    (gdss_one (gds_ret (gd_var (gv 1))))))

abbrev st_is_scheme : Stmt := topS 14
theorem sc_is_scheme : FnScope ["thing", "attribute"] ["thing"] (defScope st_is_scheme) := ⟨rfl, rfl, rfl, by decide +kernel, rfl, by decide +kernel, by decide +kernel⟩
theorem ok_is_scheme {P : Program} {w : World} {K : PySem.W.Frag} {mg : Str → Option Value} {base : Heap} (B : Bts mg) (h : ∃ f fd, Df K mg "is_scheme" st_is_scheme ["thing"] f fd) (c_MOST_ATTRIBUTES : Ci mg "MOST_ATTRIBUTES" 3) (c_MOST_CELLS : Ci mg "MOST_CELLS" 60) (C_product_of : ClF P w K mg base "product_of" 1 ["numbers"] s_product_of) (C_is_attribute : ClF P w K mg base "is_attribute" 4 ["thing"] s_is_attribute) : ClF P w K mg base "is_scheme" 5 ["thing"] s_is_scheme :=
  fnCF h sc_is_scheme l_is_scheme v_is_scheme fun f cdv A outer s H E room =>
    (pdss_cons (pds_if (pdt_w (pdw_or (pdt_not (pdt_val (pd_isi (T := "tuple") (pd_var (pv 0)) (by rfl) B.isi (by rfl) B.tuple (by decide +kernel) (by decide)))) (pdw_or1 (pdt_not (pdt_chain op_le op_le (c2_cmp _) (c2_cmp _) pd_int (pd_callB callR_len cl_len (by rfl) B.len (by decide +kernel) (pda_cons (pd_var (pv 0)) pda_nil)) (pd_globI c_MOST_ATTRIBUTES (by rfl)) (by with_unfolding_all rfl)))))) (pdss_one (pds_ret pd_bl)) pdss_nil)
    (pdss_cons (pds_if (pdt_not (pdt_val (pd_callB (cr_all rfl) cl_all (by rfl) B.all (by decide +kernel) (pda_cons (pd_lc (own := [("attribute", 1)]) (dg := (gV 1)) (tt := dYes) (te := (dCB s_is_attribute (dCons (dVar 1) dNil))) rfl sc_is_scheme.nd  (pdi_seq (pd_var (pv 0))) (blkOk_by (own := [("attribute", 1)]) (by rfl)) (gc_name (vs := [1]) (i := 1) (by decide)) (fun _ _ _ _ _ => (pg_name (i := 1) sc_is_scheme.nd rfl (by first | exact Or.inl rfl | exact Or.inr rfl))) (fun _ _ _ _ _ => pdts_nil) (fun _ _ _ _ _ => (pd_callF C_is_attribute (room.mono (by decide)) (by rfl) (pda_cons (pd_var (pv 1)) pda_nil)))) pda_nil)))) (pdss_one (pds_ret pd_bl)) pdss_nil)
    (pdss_one (pds_ret (pd_cmp op_le (c2_cmp _) (pd_callF C_product_of (room.mono (by decide)) (by rfl) (pda_cons (pd_lc (own := [("attribute", 1)]) (dg := (gV 1)) (tt := dYes) (te := (dOp aIx (dVar 1) (dC (.int 0)))) rfl sc_is_scheme.nd  (pdi_seq (pd_var (pv 0))) (blkOk_by (own := [("attribute", 1)]) (by rfl)) (gc_name (vs := [1]) (i := 1) (by decide)) (fun _ _ _ _ _ => (pg_name (i := 1) sc_is_scheme.nd rfl (by first | exact Or.inl rfl | exact Or.inr rfl))) (fun _ _ _ _ _ => pdts_nil) (fun _ _ _ _ _ => (pd_ix room.u65 (pd_var (pv 1)) pd_int))) pda_nil)) (pd_globI c_MOST_CELLS (by rfl)) (nomark _))))))

theorem okg_is_scheme {P : Program} {w : World} {K : PySem.W.Frag} {mg : Str → Option Value} {base : Heap} (B : Bts mg) (h : ∃ f fd, Df K mg "is_scheme" st_is_scheme ["thing"] f fd) (c_MOST_ATTRIBUTES : Ci mg "MOST_ATTRIBUTES" 3) (c_MOST_CELLS : Ci mg "MOST_CELLS" 60) (C_product_of : ClG1 P w K mg base "product_of" 1 ["numbers"] s_product_of) (C_is_attribute : ClG1 P w K mg base "is_attribute" 4 ["thing"] s_is_attribute) : ClG1 P w K mg base "is_scheme" 5 ["thing"] s_is_scheme :=
  gnG h sc_is_scheme l_is_scheme v_is_scheme fun f cdv A outer s H room =>
    (gdss_cons (gds_if (gt_w (gdw_or (gdt_not (gdt_val (gd_isi (T := "tuple") (gd_var (gv 0)) (by rfl) B.isi (by rfl) B.tuple (by decide +kernel) (by decide)))) (gw_or1 (gdt_not (gdt_chain og_le og_le (c2_cmp _) (c2_cmp _) gd_int (gd_callB cg_len cl_len (by rfl) B.len (by decide +kernel) (gda_cons (gd_var (gv 0)) gda_nil)) (gd_globI c_MOST_ATTRIBUTES (by rfl)) (by with_unfolding_all rfl)))))) (gdss_one (gds_ret gd_bl)) gdss_nil)
    (gdss_cons (gds_if (gdt_not (gdt_val (gd_callB (cg_all rfl) cl_all (by rfl) B.all (by decide +kernel) (gda_cons (gd_lc (own := [("attribute", 1)]) (dg := (gV 1)) (te := (dCB s_is_attribute (dCons (dVar 1) dNil))) rfl sc_is_scheme.nd  (gdi_seq (gd_var (gv 0))) (blkOk_by (own := [("attribute", 1)]) (by rfl)) (gc_name (vs := [1]) (i := 1) (by decide)) (fun _ _ _ _ _ => (gg_name (i := 1) sc_is_scheme.nd rfl (by first | exact Or.inl rfl | exact Or.inr rfl))) (fun _ _ _ _ _ => (gd_callF C_is_attribute (room.mono (by decide)) (by rfl) (gda_cons (gd_var (gv 1)) gda_nil)))) gda_nil)))) (gdss_one (gds_ret gd_bl)) gdss_nil)
    (gdss_one (gds_ret (gd_cmp og_le (c2_cmp _) (gd_callF C_product_of (room.mono (by decide)) (by rfl) (gda_cons (gd_lc (own := [("attribute", 1)]) (dg := (gV 1)) (te := (dOp aIx (dVar 1) (dC (.int 0)))) rfl sc_is_scheme.nd  (gdi_seq (gd_var (gv 0))) (blkOk_by (own := [("attribute", 1)]) (by rfl)) (gc_name (vs := [1]) (i := 1) (by decide)) (fun _ _ _ _ _ => (gg_name (i := 1) sc_is_scheme.nd rfl (by first | exact Or.inl rfl | exact Or.inr rfl))) (fun _ _ _ _ _ => (gd_ixI (by decide) room.u65 (pd_var (pv 1)) (gd_var (gv 1))))) gda_nil)) (gd_globI c_MOST_CELLS (by rfl)) (nomark _))))))

abbrev st_is_rollup : Stmt := topS 15
theorem sc_is_rollup : FnScope ["scheme", "thing", "attribute", "level"] ["scheme", "thing"] (defScope st_is_rollup) := ⟨rfl, rfl, rfl, by decide +kernel, rfl, by decide +kernel, by decide +kernel⟩
theorem ok_is_rollup {P : Program} {w : World} {K : PySem.W.Frag} {mg : Str → Option Value} {base : Heap} (B : Bts mg) (h : ∃ f fd, Df K mg "is_rollup" st_is_rollup ["scheme", "thing"] f fd) (C_is_between : ClF P w K mg base "is_between" 2 ["thing", "low", "high"] s_is_between) : Cl P w K mg base "is_rollup" 3 ["scheme", "thing"] s_is_rollup :=
  fnC h sc_is_rollup l_is_rollup v_is_rollup fun f cdv A outer s H E gd room =>
    (pdss_cons (pds_if (pdt_w (pdw_or (pdt_not (pdt_val (pd_isi (T := "tuple") (pd_var (pv 1)) (by rfl) B.isi (by rfl) B.tuple (by decide +kernel) (by decide)))) (pdw_or1 (pdt_cmp (op_neA room.units) c2_ne (pd_callB callR_len cl_len (by rfl) B.len (by decide +kernel) (pda_cons (pd_var (pv 1)) pda_nil)) (pd_callB callR_len cl_len (by rfl) B.len (by decide +kernel) (pda_cons (pd_var (pv 0)) pda_nil)) (nomark _))))) (pdss_one (pds_ret pd_bl)) pdss_nil)
    (pdss_one (pds_ret (pd_callB (cr_all rfl) cl_all (by rfl) B.all (by decide +kernel) (pda_cons (pd_lc (own := [("attribute", 2), ("level", 3)]) (dg := (gT 2 (gC (gV 2) (gC (gV 3) gN)))) (tt := dYes) (te := (dCB s_is_between (dCons (dVar 3) (dCons (dC (.int 0)) (dCons (dCB aLen (dCons (dOp aIx (dVar 2) (dC (.int 1))) dNil)) dNil))))) rfl sc_is_rollup.nd  (pdi_zip2 (pd_var (pv 0)) (pd_var (pv 1)) (by rfl) B.zip) (blkOk_by (own := [("attribute", 2), ("level", 3)]) (by rfl)) (gc_tup (gcs_cons (gc_name (vs := [2, 3]) (i := 2) (by decide)) (gcs_cons (gc_name (vs := [2, 3]) (i := 3) (by decide)) (gcs_nil (vs := [2, 3]))))) (fun _ _ _ _ _ => (pg_tup rfl (pgs_cons (pg_name (i := 2) sc_is_rollup.nd rfl (by first | exact Or.inl rfl | exact Or.inr rfl)) (pgs_cons (pg_name (i := 3) sc_is_rollup.nd rfl (by first | exact Or.inl rfl | exact Or.inr rfl)) pgs_nil)))) (fun _ _ _ _ _ => pdts_nil) (fun _ _ _ _ _ => (pd_callC C_is_between.cl (room.mono (by decide)) gd (by rfl) (pda_cons (pd_var (pv 3)) (pda_cons pd_int (pda_cons (pd_callB callR_len cl_len (by rfl) B.len (by decide +kernel) (pda_cons (pd_ix room.u65 (pd_var (pv 2)) pd_int) pda_nil)) pda_nil)))))) pda_nil)))))

abbrev st_groups_at : Stmt := topS 16
theorem sc_groups_at : FnScope ["attribute", "level"] ["attribute", "level"] (defScope st_groups_at) := ⟨rfl, rfl, rfl, by decide +kernel, rfl, by decide +kernel, by decide +kernel⟩
theorem ok_groups_at {P : Program} {w : World} {K : PySem.W.Frag} {mg : Str → Option Value} {base : Heap} (B : Bts mg) (h : ∃ f fd, Df K mg "groups_at" st_groups_at ["attribute", "level"] f fd) : Cl P w K mg base "groups_at" 1 ["attribute", "level"] s_groups_at :=
  fnC h sc_groups_at l_groups_at v_groups_at fun f cdv A outer s H E gd room =>
    (pdss_one (pds_ret (pd_if (pdt_cmp (op_eqA room.units) c2_eq (pd_var (pv 1)) pd_int (nomark _)) (pd_ix room.u65 (pd_var (pv 0)) pd_int) (pd_op op_addA c2_add (pd_callB (callR_max rfl room.units) cl_max (by rfl) B.max (by decide +kernel) (pda_cons (pd_ix room.u65 (pd_ix room.u65 (pd_var (pv 0)) pd_int) (pd_op op_sub c2_sub (pd_var (pv 1)) pd_int)) pda_nil)) pd_int))))

abbrev st_tuples_below : Stmt := topS 17
theorem sc_tuples_below : FnScope ["numbers", "found", "many", "row", "one"] ["numbers"] (defScope st_tuples_below) := ⟨rfl, rfl, rfl, by decide +kernel, rfl, by decide +kernel, by decide +kernel⟩
theorem ok_tuples_below {P : Program} {w : World} {K : PySem.W.Frag} {mg : Str → Option Value} {base : Heap} (B : Bts mg) (h : ∃ f fd, Df K mg "tuples_below" st_tuples_below ["numbers"] f fd) : ClF P w K mg base "tuples_below" 1 ["numbers"] s_tuples_below :=
  fnCF h sc_tuples_below l_tuples_below v_tuples_below fun f cdv A outer s H E room =>
    (pdss_cons (pds_set (i := 1) sc_tuples_below.nd rfl (by first | exact Or.inl rfl | exact Or.inr rfl) (pd_lst (pda_cons (pd_tup pda_nil) pda_nil)))
    (pdss_cons (pds_for PassesOwn.never rfl (pdi_seq (pd_var (pv 0))) (pg_name (i := 2) sc_tuples_below.nd rfl (by first | exact Or.inl rfl | exact Or.inr rfl)) (gc_name (vs := [2]) (i := 2) (by decide)) (pdss_one (pds_setLc2 (i := 1) (own := [("row", 3), ("one", 4)]) (vs1 := [4]) (dg := (gV 3)) (tt := dYes) (src1 := (sRg1 (dVar 2))) (dg1 := (gV 4)) (tt1 := dYes) (te := (dTup (dStar (dVar 3) (dCons (dVar 4) dNil)))) rfl sc_tuples_below.nd rfl rfl (sw_true rfl rfl rfl (by decide +kernel)) (pdi_seq (pd_var (pv 1))) (blkOk_by (own := [("row", 3), ("one", 4)]) (by rfl)) (by decide) (gc_name (vs := [3, 4]) (i := 3) (by decide)) (gc_name (vs := [4]) (i := 4) (by decide)) (fun _ _ _ _ _ => (pg_name (i := 3) sc_tuples_below.nd rfl (by first | exact Or.inl rfl | exact Or.inr rfl))) (fun _ _ _ _ _ => pdts_nil) (fun _ _ _ _ _ => (pdi_rg1 (pd_var (pv 2)) (by rfl) B.range)) (fun _ _ _ _ _ => (pg_name (i := 4) sc_tuples_below.nd rfl (by first | exact Or.inl rfl | exact Or.inr rfl))) (fun _ _ _ _ _ => pdts_nil) (fun _ _ _ _ _ => (pd_tup (pda_star (pd_var (pv 3)) (pda_cons (pd_var (pv 4)) pda_nil)))))))
    (pdss_one (pds_ret (pd_var (pv 1))))))

theorem okg_tuples_below {P : Program} {w : World} {K : PySem.W.Frag} {mg : Str → Option Value} {base : Heap} (B : Bts mg) (h : ∃ f fd, Df K mg "tuples_below" st_tuples_below ["numbers"] f fd) : ClG1 P w K mg base "tuples_below" 1 ["numbers"] s_tuples_below :=
  gnG h sc_tuples_below l_tuples_below v_tuples_below fun f cdv A outer s H room =>
    (gdss_cons (gds_set (i := 1) sc_tuples_below.nd rfl (by first | exact Or.inl rfl | exact Or.inr rfl) (gd_lst (pda_cons (pd_tup pda_nil) pda_nil) (gda_cons (gd_tup pda_nil gda_nil) gda_nil)))
    (gdss_cons (gds_for rfl (gdi_seq (gd_var (gv 0))) (gg_name (i := 2) sc_tuples_below.nd rfl (by first | exact Or.inl rfl | exact Or.inr rfl)) (gc_name (vs := [2]) (i := 2) (by decide)) (gdss_one (gds_setLc2 (i := 1) (own := [("row", 3), ("one", 4)]) (vs1 := [4]) (dg := (gV 3)) (src1 := (sRg1 (dVar 2))) (dg1 := (gV 4)) (te := (dTup (dStar (dVar 3) (dCons (dVar 4) dNil)))) rfl sc_tuples_below.nd rfl rfl (sw_true rfl rfl rfl (by decide +kernel)) (gdi_seq (gd_var (gv 1))) (blkOk_by (own := [("row", 3), ("one", 4)]) (by rfl)) (by decide) (gc_name (vs := [3, 4]) (i := 3) (by decide)) (gc_name (vs := [4]) (i := 4) (by decide)) (fun _ _ _ _ _ => (gg_name (i := 3) sc_tuples_below.nd rfl (by first | exact Or.inl rfl | exact Or.inr rfl))) (fun _ _ _ _ _ => (gdi_rg1 (gd_var (gv 2)) (by rfl) B.range)) (fun _ _ _ _ _ => (gg_name (i := 4) sc_tuples_below.nd rfl (by first | exact Or.inl rfl | exact Or.inr rfl))) (fun _ _ _ _ _ => (gd_tup (pda_star (pd_var (pv 3)) (pda_cons (pd_var (pv 4)) pda_nil)) (gda_star (gd_var (gv 3)) (gda_cons (gd_var (gv 4)) gda_nil)))))))
    (gdss_one (gds_ret (gd_var (gv 1))))))

abbrev st_rollups_of : Stmt := topS 18
theorem sc_rollups_of : FnScope ["scheme", "attribute"] ["scheme"] (defScope st_rollups_of) := ⟨rfl, rfl, rfl, by decide +kernel, rfl, by decide +kernel, by decide +kernel⟩
theorem ok_rollups_of {P : Program} {w : World} {K : PySem.W.Frag} {mg : Str → Option Value} {base : Heap} (B : Bts mg) (h : ∃ f fd, Df K mg "rollups_of" st_rollups_of ["scheme"] f fd) (C_tuples_below : ClF P w K mg base "tuples_below" 1 ["numbers"] s_tuples_below) : ClF P w K mg base "rollups_of" 2 ["scheme"] s_rollups_of :=
  fnCF h sc_rollups_of l_rollups_of v_rollups_of fun f cdv A outer s H E room =>
    (pdss_one (pds_ret (pd_callF C_tuples_below (room.mono (by decide)) (by rfl) (pda_cons (pd_lc (own := [("attribute", 1)]) (dg := (gV 1)) (tt := dYes) (te := (dOp aAdd (dCB aLen (dCons (dOp aIx (dVar 1) (dC (.int 1))) dNil)) (dC (.int 1)))) rfl sc_rollups_of.nd  (pdi_seq (pd_var (pv 0))) (blkOk_by (own := [("attribute", 1)]) (by rfl)) (gc_name (vs := [1]) (i := 1) (by decide)) (fun _ _ _ _ _ => (pg_name (i := 1) sc_rollups_of.nd rfl (by first | exact Or.inl rfl | exact Or.inr rfl))) (fun _ _ _ _ _ => pdts_nil) (fun _ _ _ _ _ => (pd_op op_addA c2_add (pd_callB callR_len cl_len (by rfl) B.len (by decide +kernel) (pda_cons (pd_ix room.u65 (pd_var (pv 1)) pd_int) pda_nil)) pd_int))) pda_nil))))

theorem okg_rollups_of {P : Program} {w : World} {K : PySem.W.Frag} {mg : Str → Option Value} {base : Heap} (B : Bts mg) (h : ∃ f fd, Df K mg "rollups_of" st_rollups_of ["scheme"] f fd) (C_tuples_below : ClG1 P w K mg base "tuples_below" 1 ["numbers"] s_tuples_below) : ClG1 P w K mg base "rollups_of" 2 ["scheme"] s_rollups_of :=
  gnG h sc_rollups_of l_rollups_of v2_rollups_of fun f cdv A outer s H room =>
    (gdss_one (gds_ret (gd_callF C_tuples_below (room.mono (by decide)) (by rfl) (gda_cons (gd_lc (own := [("attribute", 1)]) (dg := (gV 1)) (te := (dOp aAddI (dCB aLen (dCons (dOp aIx (dVar 1) (dC (.int 1))) dNil)) (dC (.int 1)))) rfl sc_rollups_of.nd  (gdi_seq (gd_var (gv 0))) (blkOk_by (own := [("attribute", 1)]) (by rfl)) (gc_name (vs := [1]) (i := 1) (by decide)) (fun _ _ _ _ _ => (gg_name (i := 1) sc_rollups_of.nd rfl (by first | exact Or.inl rfl | exact Or.inr rfl))) (fun _ _ _ _ _ => (gd_op og_add c2_addI (gd_callB cg_len cl_len (by rfl) B.len (by decide +kernel) (gda_cons (gd_ixI (by decide) room.u65 (pd_var (pv 1)) (gd_var (gv 1))) gda_nil)) gd_int))) gda_nil))))

abbrev st_sizes_at : Stmt := topS 19
theorem sc_sizes_at : FnScope ["scheme", "rollup", "attribute", "level"] ["scheme", "rollup"] (defScope st_sizes_at) := ⟨rfl, rfl, rfl, by decide +kernel, rfl, by decide +kernel, by decide +kernel⟩
theorem ok_sizes_at {P : Program} {w : World} {K : PySem.W.Frag} {mg : Str → Option Value} {base : Heap} (B : Bts mg) (h : ∃ f fd, Df K mg "sizes_at" st_sizes_at ["scheme", "rollup"] f fd) (C_groups_at : Cl P w K mg base "groups_at" 1 ["attribute", "level"] s_groups_at) : Cl P w K mg base "sizes_at" 2 ["scheme", "rollup"] s_sizes_at :=
  fnC h sc_sizes_at l_sizes_at v_sizes_at fun f cdv A outer s H E gd room =>
    (pdss_one (pds_ret (pd_lc (own := [("attribute", 2), ("level", 3)]) (dg := (gT 2 (gC (gV 2) (gC (gV 3) gN)))) (tt := dYes) (te := (dCB s_groups_at (dCons (dVar 2) (dCons (dVar 3) dNil)))) rfl sc_sizes_at.nd  (pdi_zip2 (pd_var (pv 0)) (pd_var (pv 1)) (by rfl) B.zip) (blkOk_by (own := [("attribute", 2), ("level", 3)]) (by rfl)) (gc_tup (gcs_cons (gc_name (vs := [2, 3]) (i := 2) (by decide)) (gcs_cons (gc_name (vs := [2, 3]) (i := 3) (by decide)) (gcs_nil (vs := [2, 3]))))) (fun _ _ _ _ _ => (pg_tup rfl (pgs_cons (pg_name (i := 2) sc_sizes_at.nd rfl (by first | exact Or.inl rfl | exact Or.inr rfl)) (pgs_cons (pg_name (i := 3) sc_sizes_at.nd rfl (by first | exact Or.inl rfl | exact Or.inr rfl)) pgs_nil)))) (fun _ _ _ _ _ => pdts_nil) (fun _ _ _ _ _ => (pd_callC C_groups_at (room.mono (by decide)) gd (by rfl) (pda_cons (pd_var (pv 2)) (pda_cons (pd_var (pv 3)) pda_nil)))))))

abbrev st_cells_of : Stmt := topS 20
theorem sc_cells_of : FnScope ["scheme", "rollup"] ["scheme", "rollup"] (defScope st_cells_of) := ⟨rfl, rfl, rfl, by decide +kernel, rfl, by decide +kernel, by decide +kernel⟩
theorem ok_cells_of {P : Program} {w : World} {K : PySem.W.Frag} {mg : Str → Option Value} {base : Heap} (B : Bts mg) (h : ∃ f fd, Df K mg "cells_of" st_cells_of ["scheme", "rollup"] f fd) (C_tuples_below : ClF P w K mg base "tuples_below" 1 ["numbers"] s_tuples_below) (C_sizes_at : Cl P w K mg base "sizes_at" 2 ["scheme", "rollup"] s_sizes_at) : Cl P w K mg base "cells_of" 3 ["scheme", "rollup"] s_cells_of :=
  fnC h sc_cells_of l_cells_of v_cells_of fun f cdv A outer s H E gd room =>
    (pdss_one (pds_ret (pd_callC C_tuples_below.cl (room.mono (by decide)) gd (by rfl) (pda_cons (pd_callC C_sizes_at (room.mono (by decide)) gd (by rfl) (pda_cons (pd_var (pv 0)) (pda_cons (pd_var (pv 1)) pda_nil))) pda_nil))))

abbrev st_size_of : Stmt := topS 21
theorem sc_size_of : FnScope ["scheme", "rollup"] ["scheme", "rollup"] (defScope st_size_of) := ⟨rfl, rfl, rfl, by decide +kernel, rfl, by decide +kernel, by decide +kernel⟩
theorem ok_size_of {P : Program} {w : World} {K : PySem.W.Frag} {mg : Str → Option Value} {base : Heap} (B : Bts mg) (h : ∃ f fd, Df K mg "size_of" st_size_of ["scheme", "rollup"] f fd) (C_product_of : ClF P w K mg base "product_of" 1 ["numbers"] s_product_of) (C_sizes_at : Cl P w K mg base "sizes_at" 2 ["scheme", "rollup"] s_sizes_at) : Cl P w K mg base "size_of" 3 ["scheme", "rollup"] s_size_of :=
  fnC h sc_size_of l_size_of v_size_of fun f cdv A outer s H E gd room =>
    (pdss_one (pds_ret (pd_callC C_product_of.cl (room.mono (by decide)) gd (by rfl) (pda_cons (pd_callC C_sizes_at (room.mono (by decide)) gd (by rfl) (pda_cons (pd_var (pv 0)) (pda_cons (pd_var (pv 1)) pda_nil))) pda_nil))))

abbrev st_need_scheme : Stmt := topS 22
theorem sc_need_scheme : FnScope ["thing"] ["thing"] (defScope st_need_scheme) := ⟨rfl, rfl, rfl, by decide +kernel, rfl, by decide +kernel, by decide +kernel⟩
theorem ok_need_scheme {P : Program} {w : World} {K : PySem.W.Frag} {mg : Str → Option Value} {base : Heap} (B : Bts mg) (h : ∃ f fd, Df K mg "need_scheme" st_need_scheme ["thing"] f fd) (C_is_scheme : ClF P w K mg base "is_scheme" 5 ["thing"] s_is_scheme) : ClF P w K mg base "need_scheme" 6 ["thing"] s_need_scheme :=
  fnCF h sc_need_scheme l_need_scheme v_need_scheme fun f cdv A outer s H E room =>
    (pdss_one (pds_if (pdt_not (pdt_val (pd_callF C_is_scheme (room.mono (by decide)) (by rfl) (pda_cons (pd_var (pv 0)) pda_nil)))) (pdss_one pds_never) pdss_nil))

theorem okg_need_scheme {P : Program} {w : World} {K : PySem.W.Frag} {mg : Str → Option Value} {base : Heap} (B : Bts mg) (h : ∃ f fd, Df K mg "need_scheme" st_need_scheme ["thing"] f fd) (C_is_scheme : ClG1 P w K mg base "is_scheme" 5 ["thing"] s_is_scheme) : ClG1 P w K mg base "need_scheme" 6 ["thing"] s_need_scheme :=
  gnG h sc_need_scheme l_need_scheme v_need_scheme fun f cdv A outer s H room =>
    (gdss_one (gds_if (gdt_not (gdt_val (gd_callF C_is_scheme (room.mono (by decide)) (by rfl) (gda_cons (gd_var (gv 0)) gda_nil)))) (gdss_one gds_never) gdss_nil))

abbrev st_need_rollup : Stmt := topS 23
theorem sc_need_rollup : FnScope ["scheme", "thing"] ["scheme", "thing"] (defScope st_need_rollup) := ⟨rfl, rfl, rfl, by decide +kernel, rfl, by decide +kernel, by decide +kernel⟩
theorem ok_need_rollup {P : Program} {w : World} {K : PySem.W.Frag} {mg : Str → Option Value} {base : Heap} (B : Bts mg) (h : ∃ f fd, Df K mg "need_rollup" st_need_rollup ["scheme", "thing"] f fd) (C_is_rollup : Cl P w K mg base "is_rollup" 3 ["scheme", "thing"] s_is_rollup) : Cl P w K mg base "need_rollup" 4 ["scheme", "thing"] s_need_rollup :=
  fnC h sc_need_rollup l_need_rollup v_need_rollup fun f cdv A outer s H E gd room =>
    (pdss_one (pds_if (pdt_not (pdt_val (pd_callC C_is_rollup (room.mono (by decide)) gd (by rfl) (pda_cons (pd_var (pv 0)) (pda_cons (pd_var (pv 1)) pda_nil))))) (pdss_one pds_never) pdss_nil))

abbrev st_rollups : Stmt := topS 24
theorem sc_rollups : GScope ["scheme", "rollup"] ["scheme"] (defScope st_rollups) := ⟨rfl, rfl, rfl, by decide +kernel, rfl, by decide +kernel, by decide +kernel⟩
theorem ok_rollups {P : Program} {w : World} {K : PySem.W.Frag} {mg : Str → Option Value} {base : Heap} (B : Bts mg) (h : ∃ f fd, Df K mg "rollups" st_rollups ["scheme"] f fd) (C_need_scheme : ClF P w K mg base "need_scheme" 6 ["thing"] s_need_scheme) (C_rollups_of : ClF P w K mg base "rollups_of" 2 ["scheme"] s_rollups_of) (D_need_scheme : ClG1 P w K mg base "need_scheme" 6 ["thing"] s_need_scheme) (D_rollups_of : ClG1 P w K mg base "rollups_of" 2 ["scheme"] s_rollups_of) : CG12 P w K mg base "rollups" 7 ["scheme"] s_rollups :=
  ⟨gnC1 h sc_rollups (by decide +kernel) (by decide +kernel) (by decide) rfl l_rollups b_rollups fun f cdv A outer s H ex pn room =>
    ⟨(pds_drop (pd_callF C_need_scheme (room.mono (by decide)) (by rfl) (pda_cons (pd_var (pv 0)) pda_nil))), (pd_callF C_rollups_of (room.mono (by decide)) (by rfl) (pda_cons (pd_var (pv 0)) pda_nil)), fun _ => rfl, rfl⟩,
   gnC2 h sc_rollups (by decide +kernel) (by decide +kernel) (by decide) rfl l_rollups b_rollups fun f cdv A outer s H ex pn room =>
    ⟨(gds_drop (gd_callF D_need_scheme (room.mono (by decide)) (by rfl) (gda_cons (gd_var (gv 0)) gda_nil))), (gd_callF D_rollups_of (room.mono (by decide)) (by rfl) (gda_cons (gd_var (gv 0)) gda_nil)), fun _ => rfl, rfl⟩⟩

abbrev st_cells : Stmt := topS 25
theorem sc_cells : FnScope ["scheme", "rollup"] ["scheme", "rollup"] (defScope st_cells) := ⟨rfl, rfl, rfl, by decide +kernel, rfl, by decide +kernel, by decide +kernel⟩
theorem ok_cells {P : Program} {w : World} {K : PySem.W.Frag} {mg : Str → Option Value} {base : Heap} (B : Bts mg) (h : ∃ f fd, Df K mg "cells" st_cells ["scheme", "rollup"] f fd) (C_need_scheme : ClF P w K mg base "need_scheme" 6 ["thing"] s_need_scheme) (C_need_rollup : Cl P w K mg base "need_rollup" 4 ["scheme", "thing"] s_need_rollup) (C_cells_of : Cl P w K mg base "cells_of" 3 ["scheme", "rollup"] s_cells_of) : Cl P w K mg base "cells" 7 ["scheme", "rollup"] s_cells :=
  fnC h sc_cells l_cells v_cells fun f cdv A outer s H E gd room =>
    (pdss_cons (pds_drop (pd_callC C_need_scheme.cl (room.mono (by decide)) gd (by rfl) (pda_cons (pd_var (pv 0)) pda_nil)))
    (pdss_cons (pds_drop (pd_callC C_need_rollup (room.mono (by decide)) gd (by rfl) (pda_cons (pd_var (pv 0)) (pda_cons (pd_var (pv 1)) pda_nil))))
    (pdss_one (pds_ret (pd_callTy call_tuple_ofF cl_tuple (by rfl) B.tuple (by decide +kernel) (pda_cons (pd_callC C_cells_of (room.mono (by decide)) gd (by rfl) (pda_cons (pd_var (pv 0)) (pda_cons (pd_var (pv 1)) pda_nil))) pda_nil))))))

abbrev st_size : Stmt := topS 26
theorem sc_size : FnScope ["scheme", "rollup"] ["scheme", "rollup"] (defScope st_size) := ⟨rfl, rfl, rfl, by decide +kernel, rfl, by decide +kernel, by decide +kernel⟩
theorem ok_size {P : Program} {w : World} {K : PySem.W.Frag} {mg : Str → Option Value} {base : Heap} (B : Bts mg) (h : ∃ f fd, Df K mg "size" st_size ["scheme", "rollup"] f fd) (C_need_scheme : ClF P w K mg base "need_scheme" 6 ["thing"] s_need_scheme) (C_need_rollup : Cl P w K mg base "need_rollup" 4 ["scheme", "thing"] s_need_rollup) (C_size_of : Cl P w K mg base "size_of" 3 ["scheme", "rollup"] s_size_of) : Cl P w K mg base "size" 7 ["scheme", "rollup"] s_size :=
  fnC h sc_size l_size v_size fun f cdv A outer s H E gd room =>
    (pdss_cons (pds_drop (pd_callC C_need_scheme.cl (room.mono (by decide)) gd (by rfl) (pda_cons (pd_var (pv 0)) pda_nil)))
    (pdss_cons (pds_drop (pd_callC C_need_rollup (room.mono (by decide)) gd (by rfl) (pda_cons (pd_var (pv 0)) (pda_cons (pd_var (pv 1)) pda_nil))))
    (pdss_one (pds_ret (pd_callC C_size_of (room.mono (by decide)) gd (by rfl) (pda_cons (pd_var (pv 0)) (pda_cons (pd_var (pv 1)) pda_nil)))))))

abbrev st_law_cell_at : Stmt := topS 28
theorem sc_law_cell_at : FnScope ["_law_script", "_law_k"] ["_law_script", "_law_k"] (defScope st_law_cell_at) := ⟨rfl, rfl, rfl, by decide +kernel, rfl, by decide +kernel, by decide +kernel⟩
theorem ok_law_cell_at {P : Program} {w : World} {K : PySem.W.Frag} {mg : Str → Option Value} {base : Heap} (B : Bts mg) (h : ∃ f fd, Df K mg "_law_cell_at" st_law_cell_at ["_law_script", "_law_k"] f fd) : Cl P w K mg base "_law_cell_at" 1 ["_law_script", "_law_k"] s_law_cell_at :=
  fnC h sc_law_cell_at l_law_cell_at v_law_cell_at fun f cdv A outer s H E gd room =>
    (pdss_cons (pds_if (pdt_cmp op_lt (c2_cmp _) (pd_var (pv 1)) (pd_callB callR_len cl_len (by rfl) B.len (by decide +kernel) (pda_cons (pd_var (pv 0)) pda_nil)) (nomark _)) (pdss_one (pds_ret (pd_ix room.u65 (pd_var (pv 0)) (pd_var (pv 1))))) pdss_nil)
    (pdss_one (pds_ret pd_int)))

abbrev st_law_pen : Stmt := topS 29
theorem sc_law_pen : FnScope ["_law_cell"] ["_law_cell"] (defScope st_law_pen) := ⟨rfl, rfl, rfl, by decide +kernel, rfl, by decide +kernel, by decide +kernel⟩
theorem ok_law_pen {P : Program} {w : World} {K : PySem.W.Frag} {mg : Str → Option Value} {base : Heap} (B : Bts mg) (h : ∃ f fd, Df K mg "_law_pen" st_law_pen ["_law_cell"] f fd) : Cl P w K mg base "_law_pen" 1 ["_law_cell"] s_law_pen :=
  fnC h sc_law_pen l_law_pen v_law_pen fun f cdv A outer s H E gd room =>
    (pdss_one (pds_ret (pd_lstM (pda_cons (pd_callB (callR_max rfl room.units) cl_max (by rfl) B.max (by decide +kernel) (pda_cons pd_int (pda_cons (pd_op op_sub c2_sub (pd_var (pv 0)) (pd_op op_pow c2_pow pd_int pd_int)) pda_nil))) (pda_cons (pd_op op_mod c2_mod (pd_var (pv 0)) pd_int) (pda_cons pd_int pda_nil))))))

abbrev st_law_draw : Stmt := topS 30
theorem sc_law_draw : FnScope ["_law_pen_here", "_law_many", "_law_stir", "_law_digit"] ["_law_pen_here", "_law_many"] (defScope st_law_draw) := ⟨rfl, rfl, rfl, by decide +kernel, rfl, by decide +kernel, by decide +kernel⟩
theorem ok_law_draw {P : Program} {w : World} {K : PySem.W.Frag} {mg : Str → Option Value} {base : Heap} (B : Bts mg) (h : ∃ f fd, Df K mg "_law_draw" st_law_draw ["_law_pen_here", "_law_many"] f fd) : Cl P w K mg base "_law_draw" 1 ["_law_pen_here", "_law_many"] s_law_draw :=
  fnC h sc_law_draw l_law_draw v_law_draw fun f cdv A outer s H E gd room =>
    (pdss_cons (pds_if (pdt_cmp op_gt (c2_cmp _) (pd_ix room.u65 (pd_var (pv 0)) pd_int) pd_int (nomark _)) (pdss_cons (pds_set (i := 3) sc_law_draw.nd rfl (by first | exact Or.inl rfl | exact Or.inr rfl) (pd_op op_mod c2_mod (pd_ix room.u65 (pd_var (pv 0)) pd_int) (pd_var (pv 1))))
    (pdss_cons (pds_put room.u65 (pd_op op_fdiv c2_div (pd_ix room.u65 (pd_var (pv 0)) pd_int) (pd_var (pv 1))) (pd_var (pv 0)) pd_int)
    (pdss_one (pds_ret (pd_var (pv 3)))))) pdss_nil)
    (pdss_cons (pds_put room.u65 (pd_op op_addA c2_add (pd_ix room.u65 (pd_var (pv 0)) pd_int) pd_int) (pd_var (pv 0)) pd_int)
    (pdss_cons (pds_set (i := 2) sc_law_draw.nd rfl (by first | exact Or.inl rfl | exact Or.inr rfl) (pd_op op_mod c2_mod (pd_op op_mulA c2_mulA (pd_op op_addA c2_add (pd_ix room.u65 (pd_var (pv 0)) pd_int) (pd_op op_mulA c2_mulA pd_int (pd_ix room.u65 (pd_var (pv 0)) pd_int))) (pd_op op_addA c2_add pd_int (pd_op op_mulA c2_mulA pd_int (pd_ix room.u65 (pd_var (pv 0)) pd_int)))) pd_int))
    (pdss_cons (pds_set (i := 2) sc_law_draw.nd rfl (by first | exact Or.inl rfl | exact Or.inr rfl) (pd_op op_mod c2_mod (pd_op op_addA c2_add (pd_op op_addA c2_add (pd_op op_mulA c2_mulA (pd_var (pv 2)) (pd_var (pv 2))) (pd_op op_mulA c2_mulA pd_int (pd_ix room.u65 (pd_var (pv 0)) pd_int))) pd_int) pd_int))
    (pdss_one (pds_ret (pd_op op_mod c2_mod (pd_op op_fdiv c2_div (pd_op op_mod c2_mod (pd_op op_mulA c2_mulA (pd_var (pv 2)) pd_int) pd_int) pd_int) (pd_var (pv 1)))))))))

abbrev st_law_pick : Stmt := topS 31
theorem sc_law_pick : FnScope ["_law_pen_here", "_law_things"] ["_law_pen_here", "_law_things"] (defScope st_law_pick) := ⟨rfl, rfl, rfl, by decide +kernel, rfl, by decide +kernel, by decide +kernel⟩
theorem ok_law_pick {P : Program} {w : World} {K : PySem.W.Frag} {mg : Str → Option Value} {base : Heap} (B : Bts mg) (h : ∃ f fd, Df K mg "_law_pick" st_law_pick ["_law_pen_here", "_law_things"] f fd) (C_law_draw : Cl P w K mg base "_law_draw" 1 ["_law_pen_here", "_law_many"] s_law_draw) : Cl P w K mg base "_law_pick" 2 ["_law_pen_here", "_law_things"] s_law_pick :=
  fnC h sc_law_pick l_law_pick v_law_pick fun f cdv A outer s H E gd room =>
    (pdss_one (pds_ret (pd_ix room.u65 (pd_var (pv 1)) (pd_callC C_law_draw (room.mono (by decide)) gd (by rfl) (pda_cons (pd_var (pv 0)) (pda_cons (pd_callB callR_len cl_len (by rfl) B.len (by decide +kernel) (pda_cons (pd_var (pv 1)) pda_nil)) pda_nil))))))

abbrev st_law_same : Stmt := topS 32
theorem sc_law_same : FnScope ["_law_actual", "_law_due"] ["_law_actual", "_law_due"] (defScope st_law_same) := ⟨rfl, rfl, rfl, by decide +kernel, rfl, by decide +kernel, by decide +kernel⟩
theorem ok_law_same {P : Program} {w : World} {K : PySem.W.Frag} {mg : Str → Option Value} {base : Heap} (B : Bts mg) (h : ∃ f fd, Df K mg "_law_same" st_law_same ["_law_actual", "_law_due"] f fd) : Cl P w K mg base "_law_same" 1 ["_law_actual", "_law_due"] s_law_same :=
  fnC h sc_law_same l_law_same v_law_same fun f cdv A outer s H E gd room =>
    (pdss_one (pds_ret (pd_cmp (op_eqA room.units) c2_eq (pd_callB (cr_repr gd room.units) cl_repr (by rfl) B.repr (by decide +kernel) (pda_cons (pd_var (pv 0)) pda_nil)) (pd_callB (cr_repr gd room.units) cl_repr (by rfl) B.repr (by decide +kernel) (pda_cons (pd_var (pv 1)) pda_nil)) (nomark _))))

abbrev st_law_mixed : Stmt := topS 33
theorem sc_law_mixed : FnScope ["_law_pen_here", "_law_things", "_law_left", "_law_found"] ["_law_pen_here", "_law_things"] (defScope st_law_mixed) := ⟨rfl, rfl, rfl, by decide +kernel, rfl, by decide +kernel, by decide +kernel⟩
theorem ok_law_mixed {P : Program} {w : World} {K : PySem.W.Frag} {mg : Str → Option Value} {base : Heap} (B : Bts mg) (h : ∃ f fd, Df K mg "_law_mixed" st_law_mixed ["_law_pen_here", "_law_things"] f fd) (C_law_draw : Cl P w K mg base "_law_draw" 1 ["_law_pen_here", "_law_many"] s_law_draw) : Cl P w K mg base "_law_mixed" 2 ["_law_pen_here", "_law_things"] s_law_mixed :=
  fnC h sc_law_mixed l_law_mixed v_law_mixed fun f cdv A outer s H E gd room =>
    (pdss_cons (pds_par (i := 2) (j := 3) rfl sc_law_mixed.nd rfl rfl (by decide) rfl rfl (pda_cons (pd_callTy call_list_of cl_listM (by rfl) B.list (by decide +kernel) (pda_cons (pd_var (pv 1)) pda_nil)) (pda_cons (pd_lstM pda_nil) pda_nil)) (by rfl))
    (pdss_cons (pds_while PassesOwn.never (pdt_cmp (op_neA room.units) c2_ne (pd_var (pv 2)) (pd_lst pda_nil) (nomark _)) (pdss_one (pds_drop (pd_append (pd_var (pv 3)) (pd_popAt (pd_var (pv 2)) (pd_callC C_law_draw (room.mono (by decide)) gd (by rfl) (pda_cons (pd_var (pv 0)) (pda_cons (pd_callB callR_len cl_len (by rfl) B.len (by decide +kernel) (pda_cons (pd_var (pv 2)) pda_nil)) pda_nil))))))))
    (pdss_one (pds_retF (pv 3)))))

abbrev st_law_attribute : Stmt := topS 34
theorem sc_law_attribute : FnScope ["_law_pen_here", "_law_most", "_law_many", "_law_turn", "_law_groups_here", "_law_steps", "_law_fewer", "_law_more", "_law_place"] ["_law_pen_here", "_law_most"] (defScope st_law_attribute) := ⟨rfl, rfl, rfl, by decide +kernel, rfl, by decide +kernel, by decide +kernel⟩
theorem ok_law_attribute {P : Program} {w : World} {K : PySem.W.Frag} {mg : Str → Option Value} {base : Heap} (B : Bts mg) (h : ∃ f fd, Df K mg "_law_attribute" st_law_attribute ["_law_pen_here", "_law_most"] f fd) (C_law_draw : Cl P w K mg base "_law_draw" 1 ["_law_pen_here", "_law_many"] s_law_draw) (C_law_mixed : Cl P w K mg base "_law_mixed" 2 ["_law_pen_here", "_law_things"] s_law_mixed) : Cl P w K mg base "_law_attribute" 3 ["_law_pen_here", "_law_most"] s_law_attribute :=
  fnC h sc_law_attribute l_law_attribute v_law_attribute fun f cdv A outer s H E gd room =>
    (pdss_cons (pds_set (i := 2) sc_law_attribute.nd rfl (by first | exact Or.inl rfl | exact Or.inr rfl) (pd_op op_addA c2_add pd_int (pd_callC C_law_draw (room.mono (by decide)) gd (by rfl) (pda_cons (pd_var (pv 0)) (pda_cons (pd_var (pv 1)) pda_nil)))))
    (pdss_cons (pds_par (i := 4) (j := 5) rfl sc_law_attribute.nd rfl rfl (by decide) rfl rfl (pda_cons (pd_var (pv 2)) (pda_cons (pd_lstM pda_nil) pda_nil)) (by rfl))
    (pdss_cons (pds_for PassesOwn.never rfl (pdi_rg1 (pd_callC C_law_draw (room.mono (by decide)) gd (by rfl) (pda_cons (pd_var (pv 0)) (pda_cons pd_int pda_nil))) (by rfl) B.range) (pg_name (i := 3) sc_law_attribute.nd rfl (by first | exact Or.inl rfl | exact Or.inr rfl)) (gc_name (vs := [3]) (i := 3) (by decide)) (pdss_one (pds_if (pdt_cmp op_gt (c2_cmp _) (pd_var (pv 4)) pd_int (nomark _)) (pdss_cons (pds_set (i := 6) sc_law_attribute.nd rfl (by first | exact Or.inl rfl | exact Or.inr rfl) (pd_op op_addA c2_add pd_int (pd_callC C_law_draw (room.mono (by decide)) gd (by rfl) (pda_cons (pd_var (pv 0)) (pda_cons (pd_op op_sub c2_sub (pd_var (pv 4)) pd_int) pda_nil)))))
    (pdss_cons (pds_setLc (i := 7) (own := [("_law_place", 8)]) (dg := (gV 8)) (tt := dYes) (te := (dCB s_law_draw (dCons (dVar 0) (dCons (dVar 6) dNil)))) rfl sc_law_attribute.nd rfl rfl (sw_true rfl rfl rfl (by decide +kernel)) (pdi_rg1 (pd_op op_sub c2_sub (pd_var (pv 4)) (pd_var (pv 6))) (by rfl) B.range) (blkOk_by (own := [("_law_place", 8)]) (by rfl)) (gc_name (vs := [8]) (i := 8) (by decide)) (fun _ _ _ _ _ => (pg_name (i := 8) sc_law_attribute.nd rfl (by first | exact Or.inl rfl | exact Or.inr rfl))) (fun _ _ _ _ _ => pdts_nil) (fun _ _ _ _ _ => (pd_callC C_law_draw (room.mono (by decide)) gd (by rfl) (pda_cons (pd_var (pv 0)) (pda_cons (pd_var (pv 6)) pda_nil)))))
    (pdss_cons (pds_drop (pd_append (pd_var (pv 5)) (pd_callTy call_tuple_ofF cl_tuple (by rfl) B.tuple (by decide +kernel) (pda_cons (pd_callC C_law_mixed (room.mono (by decide)) gd (by rfl) (pda_cons (pd_var (pv 0)) (pda_cons (pd_op op_addA c2_add (pd_listRg (by rfl) B.list (by rfl) B.range (pd_var (pv 6))) (pd_var (pv 7))) pda_nil))) pda_nil))))
    (pdss_one (pds_set (i := 4) sc_law_attribute.nd rfl (by first | exact Or.inl rfl | exact Or.inr rfl) (pd_var (pv 6))))))) pdss_nil)))
    (pdss_one (pds_ret (pd_tup (pda_cons (pd_var (pv 2)) (pda_cons (pd_callTy call_tuple_ofF cl_tuple (by rfl) B.tuple (by decide +kernel) (pda_cons (pd_var (pv 5)) pda_nil)) pda_nil))))))))

abbrev st_law_scheme : Stmt := topS 35
theorem sc_law_scheme : FnScope ["_law_pen_here", "_law_mosts", "_law_most"] ["_law_pen_here"] (defScope st_law_scheme) := ⟨rfl, rfl, rfl, by decide +kernel, rfl, by decide +kernel, by decide +kernel⟩
theorem ok_law_scheme {P : Program} {w : World} {K : PySem.W.Frag} {mg : Str → Option Value} {base : Heap} (B : Bts mg) (h : ∃ f fd, Df K mg "_law_scheme" st_law_scheme ["_law_pen_here"] f fd) (C_law_pick : Cl P w K mg base "_law_pick" 2 ["_law_pen_here", "_law_things"] s_law_pick) (C_law_attribute : Cl P w K mg base "_law_attribute" 3 ["_law_pen_here", "_law_most"] s_law_attribute) : Cl P w K mg base "_law_scheme" 4 ["_law_pen_here"] s_law_scheme :=
  fnC h sc_law_scheme l_law_scheme v_law_scheme fun f cdv A outer s H E gd room =>
    (pdss_cons (pds_set (i := 1) sc_law_scheme.nd rfl (by first | exact Or.inl rfl | exact Or.inr rfl) (pd_callC C_law_pick (room.mono (by decide)) gd (by rfl) (pda_cons (pd_var (pv 0)) (pda_cons (pd_lst (pda_cons (pd_lst (pda_cons pd_int pda_nil)) (pda_cons (pd_lst (pda_cons pd_int (pda_cons pd_int pda_nil))) (pda_cons (pd_lst (pda_cons pd_int (pda_cons pd_int pda_nil))) (pda_cons (pd_lst (pda_cons pd_int (pda_cons pd_int (pda_cons pd_int pda_nil)))) (pda_cons (pd_lst (pda_cons pd_int (pda_cons pd_int (pda_cons pd_int pda_nil)))) (pda_cons (pd_lst (pda_cons pd_int (pda_cons pd_int (pda_cons pd_int pda_nil)))) (pda_cons (pd_lst (pda_cons pd_int (pda_cons pd_int (pda_cons pd_int pda_nil)))) pda_nil)))))))) pda_nil))))
    (pdss_one (pds_ret (pd_callTy call_tuple_ofF cl_tuple (by rfl) B.tuple (by decide +kernel) (pda_cons (pd_lc (own := [("_law_most", 2)]) (dg := (gV 2)) (tt := dYes) (te := (dCB s_law_attribute (dCons (dVar 0) (dCons (dVar 2) dNil)))) rfl sc_law_scheme.nd  (pdi_seq (pd_var (pv 1))) (blkOk_by (own := [("_law_most", 2)]) (by rfl)) (gc_name (vs := [2]) (i := 2) (by decide)) (fun _ _ _ _ _ => (pg_name (i := 2) sc_law_scheme.nd rfl (by first | exact Or.inl rfl | exact Or.inr rfl))) (fun _ _ _ _ _ => pdts_nil) (fun _ _ _ _ _ => (pd_callC C_law_attribute (room.mono (by decide)) gd (by rfl) (pda_cons (pd_var (pv 0)) (pda_cons (pd_var (pv 2)) pda_nil))))) pda_nil)))))

abbrev st_law_rows : Stmt := topS 36
theorem sc_law_rows : FnScope ["_law_attribute_here", "_law_rows_here", "_law_step", "_law_group"] ["_law_attribute_here"] (defScope st_law_rows) := ⟨rfl, rfl, rfl, by decide +kernel, rfl, by decide +kernel, by decide +kernel⟩
theorem ok_law_rows {P : Program} {w : World} {K : PySem.W.Frag} {mg : Str → Option Value} {base : Heap} (B : Bts mg) (h : ∃ f fd, Df K mg "_law_rows" st_law_rows ["_law_attribute_here"] f fd) : Cl P w K mg base "_law_rows" 1 ["_law_attribute_here"] s_law_rows :=
  fnC h sc_law_rows l_law_rows v_law_rows fun f cdv A outer s H E gd room =>
    (pdss_cons (pds_set (i := 1) sc_law_rows.nd rfl (by first | exact Or.inl rfl | exact Or.inr rfl) (pd_lstM (pda_cons (pd_listRg (by rfl) B.list (by rfl) B.range (pd_ix room.u65 (pd_var (pv 0)) pd_int)) pda_nil)))
    (pdss_cons (pds_for PassesOwn.never rfl (pdi_seq (pd_ix room.u65 (pd_var (pv 0)) pd_int)) (pg_name (i := 2) sc_law_rows.nd rfl (by first | exact Or.inl rfl | exact Or.inr rfl)) (gc_name (vs := [2]) (i := 2) (by decide)) (pdss_one (pds_drop (pd_append (pd_var (pv 1)) (pd_lc (own := [("_law_group", 3)]) (dg := (gV 3)) (tt := dYes) (te := (dOp aIx (dVar 2) (dVar 3))) rfl sc_law_rows.nd  (pdi_seq (pd_ix room.u65 (pd_var (pv 1)) (pd_neg pd_int))) (blkOk_by (own := [("_law_group", 3)]) (by rfl)) (gc_name (vs := [3]) (i := 3) (by decide)) (fun _ _ _ _ _ => (pg_name (i := 3) sc_law_rows.nd rfl (by first | exact Or.inl rfl | exact Or.inr rfl))) (fun _ _ _ _ _ => pdts_nil) (fun _ _ _ _ _ => (pd_ix room.u65 (pd_var (pv 2)) (pd_var (pv 3)))))))))
    (pdss_one (pds_retF (pv 1)))))

abbrev st_law_tuples : Stmt := topS 37
theorem sc_law_tuples : FnScope ["_law_numbers", "_law_found", "_law_many", "_law_wider", "_law_row", "_law_one"] ["_law_numbers"] (defScope st_law_tuples) := ⟨rfl, rfl, rfl, by decide +kernel, rfl, by decide +kernel, by decide +kernel⟩
theorem ok_law_tuples {P : Program} {w : World} {K : PySem.W.Frag} {mg : Str → Option Value} {base : Heap} (B : Bts mg) (h : ∃ f fd, Df K mg "_law_tuples" st_law_tuples ["_law_numbers"] f fd) : Cl P w K mg base "_law_tuples" 1 ["_law_numbers"] s_law_tuples :=
  fnC h sc_law_tuples l_law_tuples v_law_tuples fun f cdv A outer s H E gd room =>
    (pdss_cons (pds_set (i := 1) sc_law_tuples.nd rfl (by first | exact Or.inl rfl | exact Or.inr rfl) (pd_lst (pda_cons (pd_tup pda_nil) pda_nil)))
    (pdss_cons (pds_for PassesOwn.never rfl (pdi_seq (pd_var (pv 0))) (pg_name (i := 2) sc_law_tuples.nd rfl (by first | exact Or.inl rfl | exact Or.inr rfl)) (gc_name (vs := [2]) (i := 2) (by decide)) (pdss_cons (pds_set (i := 3) sc_law_tuples.nd rfl (by first | exact Or.inl rfl | exact Or.inr rfl) (pd_lstM pda_nil))
    (pdss_cons (pds_for PassesOwn.never rfl (pdi_seq (pd_var (pv 1))) (pg_name (i := 4) sc_law_tuples.nd rfl (by first | exact Or.inl rfl | exact Or.inr rfl)) (gc_name (vs := [4]) (i := 4) (by decide)) (pdss_one (pds_drop (pd_extend (pd_var (pv 3)) (pd_lc (own := [("_law_one", 5)]) (dg := (gV 5)) (tt := dYes) (te := (dOp aAdd (dVar 4) (dTup (dCons (dVar 5) dNil)))) rfl sc_law_tuples.nd  (pdi_rg1 (pd_var (pv 2)) (by rfl) B.range) (blkOk_by (own := [("_law_one", 5)]) (by rfl)) (gc_name (vs := [5]) (i := 5) (by decide)) (fun _ _ _ _ _ => (pg_name (i := 5) sc_law_tuples.nd rfl (by first | exact Or.inl rfl | exact Or.inr rfl))) (fun _ _ _ _ _ => pdts_nil) (fun _ _ _ _ _ => (pd_op op_addA c2_add (pd_var (pv 4)) (pd_tup (pda_cons (pd_var (pv 5)) pda_nil)))))))))
    (pdss_one (pds_set (i := 1) sc_law_tuples.nd rfl (by first | exact Or.inl rfl | exact Or.inr rfl) (pd_frz (pv 3)))))))
    (pdss_one (pds_ret (pd_var (pv 1))))))

abbrev st_law_groups : Stmt := topS 38
theorem sc_law_groups : FnScope ["_law_scheme_here", "_law_rollup", "_law_attribute_here", "_law_level"] ["_law_scheme_here", "_law_rollup"] (defScope st_law_groups) := ⟨rfl, rfl, rfl, by decide +kernel, rfl, by decide +kernel, by decide +kernel⟩
theorem ok_law_groups {P : Program} {w : World} {K : PySem.W.Frag} {mg : Str → Option Value} {base : Heap} (B : Bts mg) (h : ∃ f fd, Df K mg "_law_groups" st_law_groups ["_law_scheme_here", "_law_rollup"] f fd) (C_law_rows : Cl P w K mg base "_law_rows" 1 ["_law_attribute_here"] s_law_rows) : Cl P w K mg base "_law_groups" 2 ["_law_scheme_here", "_law_rollup"] s_law_groups :=
  fnC h sc_law_groups l_law_groups v_law_groups fun f cdv A outer s H E gd room =>
    (pdss_one (pds_ret (pd_lc (own := [("_law_attribute_here", 2), ("_law_level", 3)]) (dg := (gT 2 (gC (gV 2) (gC (gV 3) gN)))) (tt := dYes) (te := (dOp aIx (dCB s_law_rows (dCons (dVar 2) dNil)) (dVar 3))) rfl sc_law_groups.nd  (pdi_zip2 (pd_var (pv 0)) (pd_var (pv 1)) (by rfl) B.zip) (blkOk_by (own := [("_law_attribute_here", 2), ("_law_level", 3)]) (by rfl)) (gc_tup (gcs_cons (gc_name (vs := [2, 3]) (i := 2) (by decide)) (gcs_cons (gc_name (vs := [2, 3]) (i := 3) (by decide)) (gcs_nil (vs := [2, 3]))))) (fun _ _ _ _ _ => (pg_tup rfl (pgs_cons (pg_name (i := 2) sc_law_groups.nd rfl (by first | exact Or.inl rfl | exact Or.inr rfl)) (pgs_cons (pg_name (i := 3) sc_law_groups.nd rfl (by first | exact Or.inl rfl | exact Or.inr rfl)) pgs_nil)))) (fun _ _ _ _ _ => pdts_nil) (fun _ _ _ _ _ => (pd_ix room.u65 (pd_callC C_law_rows (room.mono (by decide)) gd (by rfl) (pda_cons (pd_var (pv 2)) pda_nil)) (pd_var (pv 3)))))))

abbrev st_law_all_cells : Stmt := topS 39
theorem sc_law_all_cells : FnScope ["_law_scheme_here", "_law_rollup", "_law_row"] ["_law_scheme_here", "_law_rollup"] (defScope st_law_all_cells) := ⟨rfl, rfl, rfl, by decide +kernel, rfl, by decide +kernel, by decide +kernel⟩
theorem ok_law_all_cells {P : Program} {w : World} {K : PySem.W.Frag} {mg : Str → Option Value} {base : Heap} (B : Bts mg) (h : ∃ f fd, Df K mg "_law_all_cells" st_law_all_cells ["_law_scheme_here", "_law_rollup"] f fd) (C_law_tuples : Cl P w K mg base "_law_tuples" 1 ["_law_numbers"] s_law_tuples) (C_law_groups : Cl P w K mg base "_law_groups" 2 ["_law_scheme_here", "_law_rollup"] s_law_groups) : Cl P w K mg base "_law_all_cells" 3 ["_law_scheme_here", "_law_rollup"] s_law_all_cells :=
  fnC h sc_law_all_cells l_law_all_cells v_law_all_cells fun f cdv A outer s H E gd room =>
    (pdss_one (pds_ret (pd_callC C_law_tuples (room.mono (by decide)) gd (by rfl) (pda_cons (pd_lc (own := [("_law_row", 2)]) (dg := (gV 2)) (tt := dYes) (te := (dOp aAdd (dC (.int 1)) (dCB aMax (dCons (dVar 2) dNil)))) rfl sc_law_all_cells.nd  (pdi_seq (pd_callC C_law_groups (room.mono (by decide)) gd (by rfl) (pda_cons (pd_var (pv 0)) (pda_cons (pd_var (pv 1)) pda_nil)))) (blkOk_by (own := [("_law_row", 2)]) (by rfl)) (gc_name (vs := [2]) (i := 2) (by decide)) (fun _ _ _ _ _ => (pg_name (i := 2) sc_law_all_cells.nd rfl (by first | exact Or.inl rfl | exact Or.inr rfl))) (fun _ _ _ _ _ => pdts_nil) (fun _ _ _ _ _ => (pd_op op_addA c2_add pd_int (pd_callB (callR_max rfl room.units) cl_max (by rfl) B.max (by decide +kernel) (pda_cons (pd_var (pv 2)) pda_nil))))) pda_nil))))

abbrev st_law_all_rollups : Stmt := topS 40
theorem sc_law_all_rollups : FnScope ["_law_scheme_here", "_law_attribute_here"] ["_law_scheme_here"] (defScope st_law_all_rollups) := ⟨rfl, rfl, rfl, by decide +kernel, rfl, by decide +kernel, by decide +kernel⟩
theorem ok_law_all_rollups {P : Program} {w : World} {K : PySem.W.Frag} {mg : Str → Option Value} {base : Heap} (B : Bts mg) (h : ∃ f fd, Df K mg "_law_all_rollups" st_law_all_rollups ["_law_scheme_here"] f fd) (C_law_tuples : Cl P w K mg base "_law_tuples" 1 ["_law_numbers"] s_law_tuples) : Cl P w K mg base "_law_all_rollups" 2 ["_law_scheme_here"] s_law_all_rollups :=
  fnC h sc_law_all_rollups l_law_all_rollups v_law_all_rollups fun f cdv A outer s H E gd room =>
    (pdss_one (pds_ret (pd_callC C_law_tuples (room.mono (by decide)) gd (by rfl) (pda_cons (pd_lc (own := [("_law_attribute_here", 1)]) (dg := (gV 1)) (tt := dYes) (te := (dOp aAdd (dCB aLen (dCons (dOp aIx (dVar 1) (dC (.int 1))) dNil)) (dC (.int 1)))) rfl sc_law_all_rollups.nd  (pdi_seq (pd_var (pv 0))) (blkOk_by (own := [("_law_attribute_here", 1)]) (by rfl)) (gc_name (vs := [1]) (i := 1) (by decide)) (fun _ _ _ _ _ => (pg_name (i := 1) sc_law_all_rollups.nd rfl (by first | exact Or.inl rfl | exact Or.inr rfl))) (fun _ _ _ _ _ => pdts_nil) (fun _ _ _ _ _ => (pd_op op_addA c2_add (pd_callB callR_len cl_len (by rfl) B.len (by decide +kernel) (pda_cons (pd_ix room.u65 (pd_var (pv 1)) pd_int) pda_nil)) pd_int))) pda_nil))))

abbrev st_law : Stmt := topS 41
theorem sc_law : FnScope ["_law_script", "_law_k", "_law_pen_here", "_law_lap", "_law_scheme_here", "_law_told", "_law_rollup", "_law_due", "_law_kept", "_law_found", "_law_one", "_law_both"] ["_law_script"] (defScope st_law) := ⟨rfl, rfl, rfl, by decide +kernel, rfl, by decide +kernel, by decide +kernel⟩
theorem ok_law {P : Program} {w : World} {K : PySem.W.Frag} {mg : Str → Option Value} {base : Heap} (B : Bts mg) {f : Addr} {fd : FuncData} (h : Df K mg "law" st_law ["_law_script"] f fd) (C_law_pen : Cl P w K mg base "_law_pen" 1 ["_law_cell"] s_law_pen) (C_law_cell_at : Cl P w K mg base "_law_cell_at" 1 ["_law_script", "_law_k"] s_law_cell_at) (C_law_scheme : Cl P w K mg base "_law_scheme" 4 ["_law_pen_here"] s_law_scheme) (C_law_all_rollups : Cl P w K mg base "_law_all_rollups" 2 ["_law_scheme_here"] s_law_all_rollups) (C_law_same : Cl P w K mg base "_law_same" 1 ["_law_actual", "_law_due"] s_law_same) (C_law_all_cells : Cl P w K mg base "_law_all_cells" 3 ["_law_scheme_here", "_law_rollup"] s_law_all_cells) (C_rollups : CG12 P w K mg base "rollups" 7 ["scheme"] s_rollups) (C_cells : Cl P w K mg base "cells" 7 ["scheme", "rollup"] s_cells) (C_size : Cl P w K mg base "size" 7 ["scheme", "rollup"] s_size) : FnD P w K mg base 11 f fd ["_law_script"] s_law :=
  fnC1 h sc_law l_law v_law fun f cdv A outer s H E gd room =>
    (pdss_cons (pds_for PassesOwn.never rfl (pdi_rg1 (pd_callB (callR_max rfl room.units) cl_max (by rfl) B.max (by decide +kernel) (pda_cons pd_int (pda_cons (pd_callB (callR_min rfl room.units) cl_min (by rfl) B.min (by decide +kernel) (pda_cons (pd_callB callR_len cl_len (by rfl) B.len (by decide +kernel) (pda_cons (pd_var (pv 0)) pda_nil)) (pda_cons pd_int pda_nil))) pda_nil))) (by rfl) B.range) (pg_name (i := 1) sc_law.nd rfl (by first | exact Or.inl rfl | exact Or.inr rfl)) (gc_name (vs := [1]) (i := 1) (by decide)) (pdss_cons (pds_set (i := 2) sc_law.nd rfl (by first | exact Or.inl rfl | exact Or.inr rfl) (pd_callC C_law_pen (room.mono (by decide)) gd (by rfl) (pda_cons (pd_callC C_law_cell_at (room.mono (by decide)) gd (by rfl) (pda_cons (pd_var (pv 0)) (pda_cons (pd_var (pv 1)) pda_nil))) pda_nil)))
    (pdss_one (pds_for PassesOwn.never rfl (pdi_rg1 pd_int (by rfl) B.range) (pg_name (i := 3) sc_law.nd rfl (by first | exact Or.inl rfl | exact Or.inr rfl)) (gc_name (vs := [3]) (i := 3) (by decide)) (pdss_cons (pds_set (i := 4) sc_law.nd rfl (by first | exact Or.inl rfl | exact Or.inr rfl) (pd_callC C_law_scheme (room.mono (by decide)) gd (by rfl) (pda_cons (pd_var (pv 2)) pda_nil)))
    (pdss_cons (pds_par (i := 7) (j := 8) rfl sc_law.nd rfl rfl (by decide) rfl rfl (pda_cons (pd_callC C_law_all_rollups (room.mono (by decide)) gd (by rfl) (pda_cons (pd_var (pv 4)) pda_nil)) (pda_cons (pd_callB (cr_repr gd room.units) cl_repr (by rfl) B.repr (by decide +kernel) (pda_cons (pd_var (pv 4)) pda_nil)) pda_nil)) (by rfl))
    (pdss_cons (pds_set (i := 5) sc_law.nd rfl (by first | exact Or.inl rfl | exact Or.inr rfl) (pd_lst (pda_cons (pd_lcG1 C_rollups.1 (room.mono (by decide)) (by rfl) (pda_cons (pd_var (pv 4)) pda_nil) (by decide +kernel) (by decide +kernel) rfl (by decide +kernel) (by decide +kernel)) (pda_cons (pd_zipG (i := 4) C_rollups.2 (room.mono (by decide)) (by rfl) (by rfl) B.zip rfl (by rfl) (by first | exact Or.inl rfl | exact Or.inr (Or.inl rfl)) (by decide +kernel) (by decide +kernel) rfl (by decide +kernel) (by decide +kernel)) pda_nil))))
    (pdss_cons (pds_if (pdt_not (pdt_val (pd_callC C_law_same (room.mono (by decide)) gd (by rfl) (pda_cons (pd_var (pv 5)) (pda_cons (pd_lst (pda_cons (pd_var (pv 7)) (pda_cons (pd_var (pv 7)) pda_nil))) pda_nil))))) (pdss_one (pds_ret pd_bl)) pdss_nil)
    (pdss_cons (pds_for PassesOwn.never rfl (pdi_seq (pd_var (pv 7))) (pg_name (i := 6) sc_law.nd rfl (by first | exact Or.inl rfl | exact Or.inr rfl)) (gc_name (vs := [6]) (i := 6) (by decide)) (pdss_cons (pds_set (i := 9) sc_law.nd rfl (by first | exact Or.inl rfl | exact Or.inr rfl) (pd_callTy call_tuple_ofF cl_tuple (by rfl) B.tuple (by decide +kernel) (pda_cons (pd_callC C_law_all_cells (room.mono (by decide)) gd (by rfl) (pda_cons (pd_var (pv 4)) (pda_cons (pd_var (pv 6)) pda_nil))) pda_nil)))
    (pdss_one (pds_if (pdt_not (pdt_val (pd_callC C_law_same (room.mono (by decide)) gd (by rfl) (pda_cons (pd_lst (pda_cons (pd_callC C_cells (room.mono (by decide)) gd (by rfl) (pda_cons (pd_var (pv 4)) (pda_cons (pd_var (pv 6)) pda_nil))) (pda_cons (pd_callC C_size (room.mono (by decide)) gd (by rfl) (pda_cons (pd_var (pv 4)) (pda_cons (pd_var (pv 6)) pda_nil))) pda_nil))) (pda_cons (pd_lst (pda_cons (pd_var (pv 9)) (pda_cons (pd_callB callR_len cl_len (by rfl) B.len (by decide +kernel) (pda_cons (pd_var (pv 9)) pda_nil)) pda_nil))) pda_nil))))) (pdss_one (pds_ret pd_bl)) pdss_nil))))
    (pdss_one (pds_if (pdt_cmp (op_neA room.units) c2_ne (pd_callB (cr_repr gd room.units) cl_repr (by rfl) B.repr (by decide +kernel) (pda_cons (pd_var (pv 4)) pda_nil)) (pd_var (pv 8)) (nomark _)) (pdss_one (pds_ret pd_bl)) pdss_nil)))))))))))
    (pdss_one (pds_ret pd_bl)))

def loose0 : List PySem.Str := ["LevelsError", "SchemeError", "RollupError", "MOST_ATTRIBUTES", "MOST_VALUES", "MOST_STEPS", "MOST_CELLS", "is_integer", "is_between", "groups_behind", "is_attribute", "product_of", "is_scheme", "is_rollup", "groups_at", "tuples_below", "rollups_of", "sizes_at", "cells_of", "size_of"]
def loose1 : List PySem.Str := ["need_scheme", "need_rollup", "rollups", "cells", "size", "_law_cell_at", "_law_pen", "_law_draw", "_law_pick", "_law_same", "_law_mixed", "_law_attribute", "_law_scheme", "_law_rows", "_law_tuples", "_law_groups", "_law_all_cells", "_law_all_rollups"]
def looseN : List PySem.Str := loose0 ++ loose1
def dd_is_integer : He.DefD := ddOf "is_integer" st_is_integer
def dd_is_between : He.DefD := ddOf "is_between" st_is_between
def dd_groups_behind : He.DefD := ddOf "groups_behind" st_groups_behind
def dd_is_attribute : He.DefD := ddOf "is_attribute" st_is_attribute
def dd_product_of : He.DefD := ddOf "product_of" st_product_of
def dd_is_scheme : He.DefD := ddOf "is_scheme" st_is_scheme
def dd_is_rollup : He.DefD := ddOf "is_rollup" st_is_rollup
def dd_groups_at : He.DefD := ddOf "groups_at" st_groups_at
def dd_tuples_below : He.DefD := ddOf "tuples_below" st_tuples_below
def dd_rollups_of : He.DefD := ddOf "rollups_of" st_rollups_of
def dd_sizes_at : He.DefD := ddOf "sizes_at" st_sizes_at
def dd_cells_of : He.DefD := ddOf "cells_of" st_cells_of
def dd_size_of : He.DefD := ddOf "size_of" st_size_of
def dd_need_scheme : He.DefD := ddOf "need_scheme" st_need_scheme
def dd_need_rollup : He.DefD := ddOf "need_rollup" st_need_rollup
def dd_rollups : He.DefD := ddOf "rollups" st_rollups
def dd_cells : He.DefD := ddOf "cells" st_cells
def dd_size : He.DefD := ddOf "size" st_size
def dd_law_cell_at : He.DefD := ddOf "_law_cell_at" st_law_cell_at
def dd_law_pen : He.DefD := ddOf "_law_pen" st_law_pen
def dd_law_draw : He.DefD := ddOf "_law_draw" st_law_draw
def dd_law_pick : He.DefD := ddOf "_law_pick" st_law_pick
def dd_law_same : He.DefD := ddOf "_law_same" st_law_same
def dd_law_mixed : He.DefD := ddOf "_law_mixed" st_law_mixed
def dd_law_attribute : He.DefD := ddOf "_law_attribute" st_law_attribute
def dd_law_scheme : He.DefD := ddOf "_law_scheme" st_law_scheme
def dd_law_rows : He.DefD := ddOf "_law_rows" st_law_rows
def dd_law_tuples : He.DefD := ddOf "_law_tuples" st_law_tuples
def dd_law_groups : He.DefD := ddOf "_law_groups" st_law_groups
def dd_law_all_cells : He.DefD := ddOf "_law_all_cells" st_law_all_cells
def dd_law_all_rollups : He.DefD := ddOf "_law_all_rollups" st_law_all_rollups
def dd_law : He.DefD := ddOf "law" st_law
def fn0 : List He.DefD := [dd_is_integer, dd_is_between, dd_groups_behind, dd_is_attribute, dd_product_of, dd_is_scheme, dd_is_rollup, dd_groups_at, dd_tuples_below, dd_rollups_of, dd_sizes_at, dd_cells_of, dd_size_of, dd_need_scheme, dd_need_rollup, dd_rollups, dd_cells, dd_size, dd_law_cell_at, dd_law_pen, dd_law_draw, dd_law_pick, dd_law_same, dd_law_mixed, dd_law_attribute, dd_law_scheme, dd_law_rows, dd_law_tuples, dd_law_groups, dd_law_all_cells]
def fn1 : List He.DefD := [dd_law_all_rollups, dd_law]
def fnN : List He.DefD := fn0 ++ fn1
def fa0 : List He.Fa := [.glo "is_integer", .glo "is_between", .glo "groups_behind", .glo "is_attribute", .glo "product_of", .glo "is_scheme", .glo "is_rollup", .glo "groups_at", .glo "tuples_below", .glo "rollups_of", .glo "sizes_at", .glo "cells_of", .glo "size_of", .glo "need_scheme", .glo "need_rollup", .glo "rollups", .glo "cells", .glo "size", .glo "_law_cell_at", .glo "_law_pen", .glo "_law_draw", .glo "_law_pick", .glo "_law_same", .glo "_law_mixed", .glo "_law_attribute", .glo "_law_scheme", .glo "_law_rows", .glo "_law_tuples", .glo "_law_groups", .glo "_law_all_cells"]
def fa1 : List He.Fa := [.glo "_law_all_rollups", .glo "law", .int "MOST_ATTRIBUTES" 3, .int "MOST_VALUES" 6, .int "MOST_STEPS" 3, .int "MOST_CELLS" 60]
def faN : List He.Fa := (fa0 ++ fa1) ++ btNames.map fun x => He.Fa.free (Str.ofString x)
abbrev RR : PySem.W.OpenRow := PySem.W.OpenLaw.row PySem.Challenge.rw_rolluplevels_k02_rollups_and_cells
abbrev hk : PySem.W.Hook := He.hookD 4 faN fnN
def obN (s : PySem.W.SharedT) : He.AlD := He.obsDG 4 faN fnN (HandSHeadRun.getT s)
theorem ob_eq (s : PySem.W.SharedT) : obN s = hk.obs s.abs := He.obsDG_eq (HandSHeadRun.getT_eq s)
set_option maxHeartbeats 0 in
theorem runN (w : World) : HandSHeadRun.RunEq RR (PySem.W.view RR.prog [41]) hk obN 20000 looseN w := by
  intro os
  kernel_rfl
theorem factsN {P : Program} {w : World} {K : PySem.W.Frag} {h : Heap} {mg : Str → Option Value} {fa : Addr} (X : K.In h) (G : h.Ns mainGlobals mg) (hfa : mg ("law" : Str) = some (.ref fa)) (c : He.SaysD faN fnN K) :
    ∃ fd : FuncData, (∀ (s : Shared) (u : Value), BindsTo s fd ⟨[u], []⟩ [("_law_script", u)]) ∧ ∀ base : Heap, K.In base → base.Ns mainGlobals mg → FnD P w K mg base 11 fa fd ["_law_script"] s_law := by
  have x_is_integer := df_of X G c (x := "is_integer") (st := st_is_integer) (ps := ["thing"]) 0 0 (fun _ _ _ _ _ _ us hl => match us, hl with | [_], _ => rfl)
  have x_is_between := df_of X G c (x := "is_between") (st := st_is_between) (ps := ["thing", "low", "high"]) 1 1 (fun _ _ _ _ _ _ us hl => match us, hl with | [_, _, _], _ => rfl)
  have x_groups_behind := df_of X G c (x := "groups_behind") (st := st_groups_behind) (ps := ["step", "groups"]) 2 2 (fun _ _ _ _ _ _ us hl => match us, hl with | [_, _], _ => rfl)
  have x_is_attribute := df_of X G c (x := "is_attribute") (st := st_is_attribute) (ps := ["thing"]) 3 3 (fun _ _ _ _ _ _ us hl => match us, hl with | [_], _ => rfl)
  have x_product_of := df_of X G c (x := "product_of") (st := st_product_of) (ps := ["numbers"]) 4 4 (fun _ _ _ _ _ _ us hl => match us, hl with | [_], _ => rfl)
  have x_is_scheme := df_of X G c (x := "is_scheme") (st := st_is_scheme) (ps := ["thing"]) 5 5 (fun _ _ _ _ _ _ us hl => match us, hl with | [_], _ => rfl)
  have x_is_rollup := df_of X G c (x := "is_rollup") (st := st_is_rollup) (ps := ["scheme", "thing"]) 6 6 (fun _ _ _ _ _ _ us hl => match us, hl with | [_, _], _ => rfl)
  have x_groups_at := df_of X G c (x := "groups_at") (st := st_groups_at) (ps := ["attribute", "level"]) 7 7 (fun _ _ _ _ _ _ us hl => match us, hl with | [_, _], _ => rfl)
  have x_tuples_below := df_of X G c (x := "tuples_below") (st := st_tuples_below) (ps := ["numbers"]) 8 8 (fun _ _ _ _ _ _ us hl => match us, hl with | [_], _ => rfl)
  have x_rollups_of := df_of X G c (x := "rollups_of") (st := st_rollups_of) (ps := ["scheme"]) 9 9 (fun _ _ _ _ _ _ us hl => match us, hl with | [_], _ => rfl)
  have x_sizes_at := df_of X G c (x := "sizes_at") (st := st_sizes_at) (ps := ["scheme", "rollup"]) 10 10 (fun _ _ _ _ _ _ us hl => match us, hl with | [_, _], _ => rfl)
  have x_cells_of := df_of X G c (x := "cells_of") (st := st_cells_of) (ps := ["scheme", "rollup"]) 11 11 (fun _ _ _ _ _ _ us hl => match us, hl with | [_, _], _ => rfl)
  have x_size_of := df_of X G c (x := "size_of") (st := st_size_of) (ps := ["scheme", "rollup"]) 12 12 (fun _ _ _ _ _ _ us hl => match us, hl with | [_, _], _ => rfl)
  have x_need_scheme := df_of X G c (x := "need_scheme") (st := st_need_scheme) (ps := ["thing"]) 13 13 (fun _ _ _ _ _ _ us hl => match us, hl with | [_], _ => rfl)
  have x_need_rollup := df_of X G c (x := "need_rollup") (st := st_need_rollup) (ps := ["scheme", "thing"]) 14 14 (fun _ _ _ _ _ _ us hl => match us, hl with | [_, _], _ => rfl)
  have x_rollups := df_of X G c (x := "rollups") (st := st_rollups) (ps := ["scheme"]) 15 15 (fun _ _ _ _ _ _ us hl => match us, hl with | [_], _ => rfl)
  have x_cells := df_of X G c (x := "cells") (st := st_cells) (ps := ["scheme", "rollup"]) 16 16 (fun _ _ _ _ _ _ us hl => match us, hl with | [_, _], _ => rfl)
  have x_size := df_of X G c (x := "size") (st := st_size) (ps := ["scheme", "rollup"]) 17 17 (fun _ _ _ _ _ _ us hl => match us, hl with | [_, _], _ => rfl)
  have x_law_cell_at := df_of X G c (x := "_law_cell_at") (st := st_law_cell_at) (ps := ["_law_script", "_law_k"]) 18 18 (fun _ _ _ _ _ _ us hl => match us, hl with | [_, _], _ => rfl)
  have x_law_pen := df_of X G c (x := "_law_pen") (st := st_law_pen) (ps := ["_law_cell"]) 19 19 (fun _ _ _ _ _ _ us hl => match us, hl with | [_], _ => rfl)
  have x_law_draw := df_of X G c (x := "_law_draw") (st := st_law_draw) (ps := ["_law_pen_here", "_law_many"]) 20 20 (fun _ _ _ _ _ _ us hl => match us, hl with | [_, _], _ => rfl)
  have x_law_pick := df_of X G c (x := "_law_pick") (st := st_law_pick) (ps := ["_law_pen_here", "_law_things"]) 21 21 (fun _ _ _ _ _ _ us hl => match us, hl with | [_, _], _ => rfl)
  have x_law_same := df_of X G c (x := "_law_same") (st := st_law_same) (ps := ["_law_actual", "_law_due"]) 22 22 (fun _ _ _ _ _ _ us hl => match us, hl with | [_, _], _ => rfl)
  have x_law_mixed := df_of X G c (x := "_law_mixed") (st := st_law_mixed) (ps := ["_law_pen_here", "_law_things"]) 23 23 (fun _ _ _ _ _ _ us hl => match us, hl with | [_, _], _ => rfl)
  have x_law_attribute := df_of X G c (x := "_law_attribute") (st := st_law_attribute) (ps := ["_law_pen_here", "_law_most"]) 24 24 (fun _ _ _ _ _ _ us hl => match us, hl with | [_, _], _ => rfl)
  have x_law_scheme := df_of X G c (x := "_law_scheme") (st := st_law_scheme) (ps := ["_law_pen_here"]) 25 25 (fun _ _ _ _ _ _ us hl => match us, hl with | [_], _ => rfl)
  have x_law_rows := df_of X G c (x := "_law_rows") (st := st_law_rows) (ps := ["_law_attribute_here"]) 26 26 (fun _ _ _ _ _ _ us hl => match us, hl with | [_], _ => rfl)
  have x_law_tuples := df_of X G c (x := "_law_tuples") (st := st_law_tuples) (ps := ["_law_numbers"]) 27 27 (fun _ _ _ _ _ _ us hl => match us, hl with | [_], _ => rfl)
  have x_law_groups := df_of X G c (x := "_law_groups") (st := st_law_groups) (ps := ["_law_scheme_here", "_law_rollup"]) 28 28 (fun _ _ _ _ _ _ us hl => match us, hl with | [_, _], _ => rfl)
  have x_law_all_cells := df_of X G c (x := "_law_all_cells") (st := st_law_all_cells) (ps := ["_law_scheme_here", "_law_rollup"]) 29 29 (fun _ _ _ _ _ _ us hl => match us, hl with | [_, _], _ => rfl)
  have x_law_all_rollups := df_of X G c (x := "_law_all_rollups") (st := st_law_all_rollups) (ps := ["_law_scheme_here"]) 30 30 (fun _ _ _ _ _ _ us hl => match us, hl with | [_], _ => rfl)
  have x_law := df_of X G c (x := "law") (st := st_law) (ps := ["_law_script"]) 31 31 (fun _ _ _ _ _ _ us hl => match us, hl with | [_], _ => rfl)
  have c_MOST_ATTRIBUTES : Ci mg "MOST_ATTRIBUTES" 3 := He.int_ok X G (c.fact 32 rfl)
  have c_MOST_VALUES : Ci mg "MOST_VALUES" 6 := He.int_ok X G (c.fact 33 rfl)
  have c_MOST_STEPS : Ci mg "MOST_STEPS" 3 := He.int_ok X G (c.fact 34 rfl)
  have c_MOST_CELLS : Ci mg "MOST_CELLS" 60 := He.int_ok X G (c.fact 35 rfl)
  have B : Bts mg := bts_of X G c (fun x hx => List.mem_append_right _ (List.mem_map.mpr ⟨x, hx, rfl⟩))
  obtain ⟨f, fd, x_law, bd⟩ := x_law
  have e := hfa.symm.trans x_law.g
  cases e
  refine ⟨fd, fun s u => bd s [u] rfl, fun base _ _ => ?_⟩
  have C_is_integer : ClF P w K mg base "is_integer" 1 ["thing"] s_is_integer := ok_is_integer B (df_ex x_is_integer)
  have D_is_integer : ClG1 P w K mg base "is_integer" 1 ["thing"] s_is_integer := okg_is_integer B (df_ex x_is_integer)
  have C_is_between : ClF P w K mg base "is_between" 2 ["thing", "low", "high"] s_is_between := ok_is_between B (df_ex x_is_between) C_is_integer
  have D_is_between : ClG1 P w K mg base "is_between" 2 ["thing", "low", "high"] s_is_between := okg_is_between B (df_ex x_is_between) D_is_integer
  have C_groups_behind : ClF P w K mg base "groups_behind" 3 ["step", "groups"] s_groups_behind := ok_groups_behind B (df_ex x_groups_behind) C_is_between
  have D_groups_behind : ClG1 P w K mg base "groups_behind" 3 ["step", "groups"] s_groups_behind := okg_groups_behind B (df_ex x_groups_behind) D_is_between
  have C_is_attribute : ClF P w K mg base "is_attribute" 4 ["thing"] s_is_attribute := ok_is_attribute B (df_ex x_is_attribute) c_MOST_VALUES c_MOST_STEPS C_groups_behind C_is_between
  have D_is_attribute : ClG1 P w K mg base "is_attribute" 4 ["thing"] s_is_attribute := okg_is_attribute B (df_ex x_is_attribute) c_MOST_VALUES c_MOST_STEPS D_groups_behind D_is_between
  have C_product_of : ClF P w K mg base "product_of" 1 ["numbers"] s_product_of := ok_product_of B (df_ex x_product_of)
  have D_product_of : ClG1 P w K mg base "product_of" 1 ["numbers"] s_product_of := okg_product_of B (df_ex x_product_of)
  have C_is_scheme : ClF P w K mg base "is_scheme" 5 ["thing"] s_is_scheme := ok_is_scheme B (df_ex x_is_scheme) c_MOST_ATTRIBUTES c_MOST_CELLS C_product_of C_is_attribute
  have D_is_scheme : ClG1 P w K mg base "is_scheme" 5 ["thing"] s_is_scheme := okg_is_scheme B (df_ex x_is_scheme) c_MOST_ATTRIBUTES c_MOST_CELLS D_product_of D_is_attribute
  have C_is_rollup : Cl P w K mg base "is_rollup" 3 ["scheme", "thing"] s_is_rollup := ok_is_rollup B (df_ex x_is_rollup) C_is_between
  have C_groups_at : Cl P w K mg base "groups_at" 1 ["attribute", "level"] s_groups_at := ok_groups_at B (df_ex x_groups_at)
  have C_tuples_below : ClF P w K mg base "tuples_below" 1 ["numbers"] s_tuples_below := ok_tuples_below B (df_ex x_tuples_below)
  have D_tuples_below : ClG1 P w K mg base "tuples_below" 1 ["numbers"] s_tuples_below := okg_tuples_below B (df_ex x_tuples_below)
  have C_rollups_of : ClF P w K mg base "rollups_of" 2 ["scheme"] s_rollups_of := ok_rollups_of B (df_ex x_rollups_of) C_tuples_below
  have D_rollups_of : ClG1 P w K mg base "rollups_of" 2 ["scheme"] s_rollups_of := okg_rollups_of B (df_ex x_rollups_of) D_tuples_below
  have C_sizes_at : Cl P w K mg base "sizes_at" 2 ["scheme", "rollup"] s_sizes_at := ok_sizes_at B (df_ex x_sizes_at) C_groups_at
  have C_cells_of : Cl P w K mg base "cells_of" 3 ["scheme", "rollup"] s_cells_of := ok_cells_of B (df_ex x_cells_of) C_tuples_below C_sizes_at
  have C_size_of : Cl P w K mg base "size_of" 3 ["scheme", "rollup"] s_size_of := ok_size_of B (df_ex x_size_of) C_product_of C_sizes_at
  have C_need_scheme : ClF P w K mg base "need_scheme" 6 ["thing"] s_need_scheme := ok_need_scheme B (df_ex x_need_scheme) C_is_scheme
  have D_need_scheme : ClG1 P w K mg base "need_scheme" 6 ["thing"] s_need_scheme := okg_need_scheme B (df_ex x_need_scheme) D_is_scheme
  have C_need_rollup : Cl P w K mg base "need_rollup" 4 ["scheme", "thing"] s_need_rollup := ok_need_rollup B (df_ex x_need_rollup) C_is_rollup
  have C_rollups : CG12 P w K mg base "rollups" 7 ["scheme"] s_rollups := ok_rollups B (df_ex x_rollups) C_need_scheme C_rollups_of D_need_scheme D_rollups_of
  have C_cells : Cl P w K mg base "cells" 7 ["scheme", "rollup"] s_cells := ok_cells B (df_ex x_cells) C_need_scheme C_need_rollup C_cells_of
  have C_size : Cl P w K mg base "size" 7 ["scheme", "rollup"] s_size := ok_size B (df_ex x_size) C_need_scheme C_need_rollup C_size_of
  have C_law_cell_at : Cl P w K mg base "_law_cell_at" 1 ["_law_script", "_law_k"] s_law_cell_at := ok_law_cell_at B (df_ex x_law_cell_at)
  have C_law_pen : Cl P w K mg base "_law_pen" 1 ["_law_cell"] s_law_pen := ok_law_pen B (df_ex x_law_pen)
  have C_law_draw : Cl P w K mg base "_law_draw" 1 ["_law_pen_here", "_law_many"] s_law_draw := ok_law_draw B (df_ex x_law_draw)
  have C_law_pick : Cl P w K mg base "_law_pick" 2 ["_law_pen_here", "_law_things"] s_law_pick := ok_law_pick B (df_ex x_law_pick) C_law_draw
  have C_law_same : Cl P w K mg base "_law_same" 1 ["_law_actual", "_law_due"] s_law_same := ok_law_same B (df_ex x_law_same)
  have C_law_mixed : Cl P w K mg base "_law_mixed" 2 ["_law_pen_here", "_law_things"] s_law_mixed := ok_law_mixed B (df_ex x_law_mixed) C_law_draw
  have C_law_attribute : Cl P w K mg base "_law_attribute" 3 ["_law_pen_here", "_law_most"] s_law_attribute := ok_law_attribute B (df_ex x_law_attribute) C_law_draw C_law_mixed
  have C_law_scheme : Cl P w K mg base "_law_scheme" 4 ["_law_pen_here"] s_law_scheme := ok_law_scheme B (df_ex x_law_scheme) C_law_pick C_law_attribute
  have C_law_rows : Cl P w K mg base "_law_rows" 1 ["_law_attribute_here"] s_law_rows := ok_law_rows B (df_ex x_law_rows)
  have C_law_tuples : Cl P w K mg base "_law_tuples" 1 ["_law_numbers"] s_law_tuples := ok_law_tuples B (df_ex x_law_tuples)
  have C_law_groups : Cl P w K mg base "_law_groups" 2 ["_law_scheme_here", "_law_rollup"] s_law_groups := ok_law_groups B (df_ex x_law_groups) C_law_rows
  have C_law_all_cells : Cl P w K mg base "_law_all_cells" 3 ["_law_scheme_here", "_law_rollup"] s_law_all_cells := ok_law_all_cells B (df_ex x_law_all_cells) C_law_tuples C_law_groups
  have C_law_all_rollups : Cl P w K mg base "_law_all_rollups" 2 ["_law_scheme_here"] s_law_all_rollups := ok_law_all_rollups B (df_ex x_law_all_rollups) C_law_tuples
  exact ok_law B x_law C_law_pen C_law_cell_at C_law_scheme C_law_all_rollups C_law_same C_law_all_cells C_rollups C_cells C_size
end Mn
instance noTbs : Mn.Tbs := ⟨[]⟩
open PySem PySem.W PySem.Calls PyProof.Rows
set_option maxHeartbeats 0 in
set_option maxRecDepth 100000 in
theorem PySem.Challenge.cw_rolluplevels_k02_rollups_and_cells_holds : PySem.Challenge.rw_rolluplevels_k02_rollups_and_cells.Holds := by
  w_on; o_law
  refine HandSHeadRun.head_any (r := OpenLaw.row PySem.Challenge.rw_rolluplevels_k02_rollups_and_cells) (q := view (OpenLaw.row PySem.Challenge.rw_rolluplevels_k02_rollups_and_cells).prog [41]) (H := Mn.hk) (ob := Mn.obN) (M := 20000) (loose := Mn.looseN) (d := HandSHeadRun.topDef (OpenLaw.row PySem.Challenge.rw_rolluplevels_k02_rollups_and_cells).prog 41) (kwd := []) Mn.ob_eq
    (by kernel_rfl) (fun s => by kernel_rfl) Mn.runN (by kernel_rfl) (by kernel_rfl) (by kernel_rfl) (by rfl) (by first | assumption | decide +kernel) (by decide +kernel) ⟨rfl, rfl, rfl, rfl, rfl, by decide +kernel⟩ ?hw ?hc
  case hw => w_witness2
  case hc =>
    refine Mn.walkDE (l := PySem.Challenge.rw_rolluplevels_k02_rollups_and_cells) (n := 63) (k := 11) (x := "_law_script") (d := Mn.s_law) rfl rfl (by decide) (by kernel_rfl) ⟨rfl, by decide, by decide⟩ ?F Mn.s_law_ok
    intro w mg fa h Y G hmg0
    obtain ⟨K, KX, c⟩ := Y
    have hmg : mg ("law" : PySem.Str) = some (.ref fa) := by
      have e : (HandSHeadRun.topDef (OpenLaw.row PySem.Challenge.rw_rolluplevels_k02_rollups_and_cells).prog 41).name = ("law" : PySem.Str) := by kernel_rfl
      rw [← e]
      exact hmg0
    obtain ⟨fd, hb, hF⟩ := Mn.factsN (P := (PySem.Challenge.rw_rolluplevels_k02_rollups_and_cells).prog) (w := w) KX G hmg c
    exact ⟨K, fd, KX, hb, hF⟩

