import PyProof.Rows.All
import Wide.All
import OpenK.AllK
import Wide.FinOn
import HandS.ForMost
import HandS.ForExc
import HandS.Flow
import HandS.TupAny
import HandS.Deep
import HandS.Walk
import HandS.Zip
import HandS.IsInst
import HandS.Lambda
import HandS.Nested
import HandS.Wide
import HandS.Defaults
import KE.DataMinMax
import KE.SortData
import HandS.Conv
import HandS.TupSets
import KE.KDictZip
import HandS.MapObj
import KE.KNest
import KE.GoesEnum
import KE.KRevSl
import HandS.Words
import HandS.HeadHook2
import HandS.HeadHook4
import PySem.Challenge.RW_lockstairs_k08_plans_compared
import HandS.HeadWalk
import HandS.Head2
set_option Elab.async false
set_option linter.all false
set_option maxRecDepth 100000
set_option maxHeartbeats 4000000
/-! The data layer: readings over plain data. -/
namespace DL
open PySem PySem.Spec PyProof.Rows L2 LamX

abbrev Dt := PyData
abbrev Rho := List (Option Dt)
/-- a list of two ints that draws change -/
def srcD : Dt := .dict []
/-- a list from outside -/
def scrD (ds : List Dt) : Dt := .dict [(.none, .list ds)]
/-- a function, with what it has caught -/
def fnD (n : Int) (ds : List Dt) : Dt := .dict [(.int n, .tuple ds)]
/-- a list of the def's own that it lengthens -/
def mutD (ds : List Dt) : Dt := .dict [(.none, .tuple ds)]
/-- a dict of the def's own that it fills; such a dict as it stands -/
def entD (q : Int × Int × Int) : Dt := .tuple [.int q.1, .int q.2.1, .int q.2.2]
def mudD (l : List (Int × Int × Int)) : Dt := .dict [(.bool true, .tuple (l.map entD))]
def dicD (l : List (Int × Int × Int)) : Dt := .dict [(.bool false, .tuple (l.map entD))]
def isMut : Dt → Bool
  | .dict [(.none, .tuple _)] => true
  | .dict [(.bool true, .tuple _)] => true
  | _ => false
def thaw : Dt → Dt
  | .dict [(.none, .tuple ds)] => .list ds
  | .dict [(.bool true, .tuple ds)] => .dict [(.bool false, .tuple ds)]
  | d => d
def thawR (ρ : Rho) : Rho := ρ.map (Option.map thaw)

def fixd : HO → Bool
  | .tup _ => true
  | .frz _ _ => true
  | .ext _ => true
  | _ => false
def notTbl : HO → Bool
  | .tbl _ => false
  | _ => true
/-- m: the cells that data do not name; of these s: the draws' cells, o: those of the callers (s among them) -/
structure Md where
  m : Addr → Prop
  s : Addr → Prop
  o : Addr → Prop
def SrcAt (H : Hp) (a : Addr) : Prop := ∃ x y : Int, H a = some (.lst [.int x, .int y]) ∧ 0 ≤ x ∧ 0 ≤ y ∧ y < 2147483648
def ScrAt (K : PySem.W.Frag) (W : Md) (H : Hp) (a : Addr) (xs : List V) : Prop :=
  (¬ W.m a ∧ H a = some (.lst xs)) ∨ (∃ o, H a = some (.frz o (.lst xs))) ∨
    ∃ (o : Obj) (its : Array Value) (n : Nat), K.lookup a = some o ∧ o.cls = .type "list" ∧ o.dict = none ∧ o.data = .seq its n ∧ its.size ≤ sizeLine ∧ Vals xs its.toList
theorem ScrAt.sq {K : PySem.W.Frag} {W : Md} {H : Hp} {a : Addr} {xs : List V} (h : ScrAt K W H a xs) : SqL K H a xs := by
  rcases h with ⟨_, h⟩ | ⟨o, h⟩ | h
  · exact .inl (.inl h)
  · exact .inl (.inr ⟨o, h⟩)
  · exact .inr h

/-- a dict's pairs: from ints to pairs of ints -/
def KvAt (K : PySem.W.Frag) (H : Hp) : List (Key × V) → List (Int × Int × Int) → Prop := Paired fun (p : Key × V) (q : Int × Int × Int) => p.1 = Sum.inl q.1 ∧ ∃ t, p.2 = .ref t ∧ SqT K H t [.int q.2.1, .int q.2.2]
abbrev FAT := Int → List Dt → Hp → Addr → Prop
section
variable (K : PySem.W.Frag) (F : FAT) (W : Md) (H : Hp)
mutual
inductive Rp : V → Dt → Prop
  | non : Rp .non .none
  | bl (b : Bool) : Rp (.bl b) (.bool b)
  | int (i : Int) : Rp (.int i) (.int i)
  | str (x : Str) : Rp (.str x) (.str x)
  | lst {a : Addr} {xs : List V} {ds : List Dt} : ¬ W.m a → H a = some (.lst xs) → RpAll xs ds → Rp (.ref a) (.list ds)
  | tup {a : Addr} {xs : List V} {ds : List Dt} : SqT K H a xs → RpAll xs ds → Rp (.ref a) (.tuple ds)
  | src {a : Addr} : W.s a → SrcAt H a → Rp (.ref a) srcD
  | scr {a : Addr} {ns : List Int} : ScrAt K W H a (ns.map V.int) → Rp (.ref a) (scrD (ns.map PyData.int))
  | fn {a : Addr} {n : Int} {ds : List Dt} : F n ds H a → Rp (.ref a) (fnD n ds)
  | dic {a : Addr} {kvs : List (Key × V)} {l : List (Int × Int × Int)} : ¬ W.m a → H a = some (.dK kvs) → KvAt K H kvs l → Rp (.ref a) (dicD l)
inductive RpAll : List V → List Dt → Prop
  | nil : RpAll [] []
  | cons {v : V} {vs : List V} {d : Dt} {ds : List Dt} : Rp v d → RpAll vs ds → RpAll (v :: vs) (d :: ds)
end
/-- what a slot holds -/
def SRp (v : V) (d : Dt) : Prop := match d with
  | .dict [(.none, .tuple ds)] => ∃ a xs, v = .ref a ∧ W.m a ∧ ¬ W.o a ∧ H a = some (.lst xs) ∧ RpAll K F W H xs ds
  | .dict [(.bool true, .tuple ds)] => ∃ a kvs l, ds = l.map entD ∧ v = .ref a ∧ W.m a ∧ ¬ W.o a ∧ H a = some (.dK kvs) ∧ KvAt K H kvs l
  | d => Rp K F W H v d
end

/-- what later heaps keep: S, the draws' cells -/
structure Go (T : List (Addr × Str)) (S : Addr → Prop) (H H' : Hp) : Prop where
  fix : ∀ b o, H b = some o → fixd o = true → H' b = some o
  keep : ∀ b o, H b = some o → notTbl o = true → ¬ S b → H' b = some o
  src : ∀ b, S b → SrcAt H b → SrcAt H' b
  there : ∀ b, H b ≠ none → H' b ≠ none
  tabs : Tabs T H → Tabs T H'
def FOk (F : FAT) : Prop := ∀ n ds H H' a, F n ds H a → (∀ b o, H b = some o → fixd o = true → H' b = some o) → F n ds H' a

section
variable {K : PySem.W.Frag} {F : FAT} {T : List (Addr × Str)} {W : Md} {S : Addr → Prop} {H H' H1 H2 : Hp}
theorem Go.refl (T : List (Addr × Str)) (S : Addr → Prop) (H : Hp) : Go T S H H := ⟨fun _ _ h _ => h, fun _ _ h _ _ => h, fun _ _ h => h, fun _ h => h, fun h => h⟩
theorem fix_not {o : HO} (h : fixd o = true) : notTbl o = true := by cases o <;> first | rfl | cases h
theorem Go.trans (a : Go T S H H1) (b : Go T S H1 H2) : Go T S H H2 :=
  ⟨fun c o h f => b.fix c o (a.fix c o h f) f, fun c o h f m => b.keep c o (a.keep c o h f m) f m, fun c s h => b.src c s (a.src c s h), fun c h => b.there c (a.there c h), fun h => b.tabs (a.tabs h)⟩
theorem Go.same (k : ∀ b u, H b = some u → H' b = some u) : Go T S H H' := by
  refine ⟨fun b u e _ => k b u e, fun b u e _ _ => k b u e, fun b s ⟨x, y, e, r⟩ => ⟨x, y, k b _ e, r⟩, fun b e z => ?_, fun t => Tabs.ext t k⟩
  cases q : H b with
  | none => exact e q
  | some o => rw [k b o q] at z; cases z
theorem Go.new {p : Addr} {o : HO} (h : H p = none) : Go T S H (upd H p o) := Go.same fun b u e => by rw [upd_ne (ne_of_none e h)]; exact e
def cellO : HO → Bool
  | .lst _ => true
  | .dK _ => true
  | _ => false
/-- the tables are read off what is no cell -/
theorem tabs_cell {p : Addr} {o u : HO} (t : Tabs T H) (e : H p = some u) (c : cellO u = true) : Tabs T (upd H p o) := by
  intro q hq
  obtain ⟨ps, h1, h2, h3⟩ := t q hq
  have n1 : q.1 ≠ p := fun z => by
    rw [z, e] at h1
    cases Option.some.inj h1
    cases c
  refine ⟨ps, by rw [upd_ne n1]; exact h1, h2, fun pos cv hc => ?_⟩
  obtain ⟨d, e1, e2⟩ := h3 pos cv hc
  have n2 : d ≠ p := fun z => by
    rw [z, e] at e2
    have e3 : u = CodeO p q.2 := by rw [← z]; rw [← z] at e2; exact Option.some.inj e2
    rw [e3] at c
    cases c
  exact ⟨d, e1, by rw [upd_ne n2]; exact e2⟩
/-- a fresh cell changes -/
theorem Go.own {p : Addr} {o u : HO} (g : Go T S H H') (h : H p = none) (e : H' p = some u) (c : cellO u = true) (hns : ¬ S p) : Go T S H (upd H' p o) := by
  have ne : ∀ b u, H b = some u → b ≠ p := fun b u e => ne_of_none e h
  refine ⟨fun b u e f => by rw [upd_ne (ne b u e)]; exact g.fix b u e f, fun b u e f m => by rw [upd_ne (ne b u e)]; exact g.keep b u e f m, fun b s e => ?_, fun b e => ?_, fun t => tabs_cell (g.tabs t) e c⟩
  · obtain ⟨x, y, e', r⟩ := g.src b s e
    exact ⟨x, y, by rw [upd_ne (fun z => hns (by rw [← z]; exact s))]; exact e', r⟩
  · by_cases q : b = p
    · subst q; rw [upd_same]; exact fun z => nomatch z
    · rw [upd_ne q]; exact g.there b e
theorem sqt_fix {a : Addr} {xs : List V} (g : ∀ b o, H b = some o → fixd o = true → H' b = some o) (h : SqT K H a xs) : SqT K H' a xs := by
  rcases h with (h | ⟨o, h⟩) | h
  · exact .inl (.inl (g _ _ h rfl))
  · exact .inl (.inr ⟨o, g _ _ h rfl⟩)
  · exact .inr h
theorem KvAt.go {kvs : List (Key × V)} {l : List (Int × Int × Int)} (h : KvAt K H kvs l) (g : ∀ b o, H b = some o → fixd o = true → H' b = some o) : KvAt K H' kvs l :=
  Paired.mapP h fun p q ⟨e, t, e1, e2⟩ => ⟨e, t, e1, sqt_fix g e2⟩
theorem go_rdt {a : Addr} {xs : List V} (g : Go T S H H') (h : SqT K H a xs) : SqT K H' a xs := by
  rcases h with (h | ⟨o, h⟩) | h
  · exact .inl (.inl (g.fix _ _ h rfl))
  · exact .inl (.inr ⟨o, g.fix _ _ h rfl⟩)
  · exact .inr h
mutual
theorem Rp.go (hF : FOk F) (hs : ∀ b, W.s b → W.m b) (g : Go T W.s H H') : ∀ (d : Dt) (v : V), Rp K F W H v d → Rp K F W H' v d
  | .none, _, h => by cases h; exact .non
  | .bool b, _, h => by cases h; exact .bl b
  | .int i, _, h => by cases h; exact .int i
  | .str x, _, h => by cases h; exact .str x
  | .list ds, _, h => by
    cases h with
    | lst m e r => exact .lst m (g.keep _ _ e rfl fun z => m (hs _ z)) (RpAll.go hF hs g ds _ r)
  | .tuple ds, _, h => by
    cases h with
    | tup e r => exact .tup (go_rdt g e) (RpAll.go hF hs g ds _ r)
  | .dict kvs, _, h => by
    cases h with
    | src s e => exact .src s (g.src _ s e)
    | scr e =>
      rcases e with ⟨m, e⟩ | ⟨o, e⟩ | e
      · exact .scr (.inl ⟨m, g.keep _ _ e rfl fun z => m (hs _ z)⟩)
      · exact .scr (.inr (.inl ⟨o, g.fix _ _ e rfl⟩))
      · exact .scr (.inr (.inr e))
    | fn e => exact .fn (hF _ _ _ _ _ e g.fix)
    | dic m e r => exact .dic m (g.keep _ _ e rfl fun z => m (hs _ z)) (r.go g.fix)
theorem RpAll.go (hF : FOk F) (hs : ∀ b, W.s b → W.m b) (g : Go T W.s H H') : ∀ (ds : List Dt) (vs : List V), RpAll K F W H vs ds → RpAll K F W H' vs ds
  | [], _, h => by cases h; exact .nil
  | d :: ds, _, h => by
    cases h with
    | cons a b => exact .cons (Rp.go hF hs g d _ a) (RpAll.go hF hs g ds _ b)
end
/-- other cells: those that are new here; the heap at them -/
theorem ScrAt.cells {W' : Md} {a : Addr} {xs : List V} (hm : ∀ b, W'.m b → W.m b ∨ H b = none) (hk : ∀ b o, H b = some o → notTbl o = true → ¬ W.m b → H' b = some o) (hf : ∀ b o, H b = some o → fixd o = true → H' b = some o) (h : ScrAt K W H a xs) : ScrAt K W' H' a xs := by
  rcases h with ⟨m, e⟩ | ⟨o, e⟩ | e
  · exact .inl ⟨fun z => (hm _ z).elim m (fun q => by rw [e] at q; cases q), hk _ _ e rfl m⟩
  · exact .inr (.inl ⟨o, hf _ _ e rfl⟩)
  · exact .inr (.inr e)
mutual
/-- data do not name the cells of W: these may change, new cells may come, W may shrink -/
theorem Rp.cells {W' : Md} (hF : FOk F) (hm : ∀ b, W'.m b → W.m b ∨ H b = none) (hs : ∀ b, W.s b → W'.s b) (hsrc : ∀ b, W.s b → SrcAt H b → SrcAt H' b) (hk : ∀ b o, H b = some o → notTbl o = true → ¬ W.m b → H' b = some o) (hf : ∀ b o, H b = some o → fixd o = true → H' b = some o) :
    ∀ (d : Dt) (v : V), Rp K F W H v d → Rp K F W' H' v d
  | .none, _, h => by cases h; exact .non
  | .bool b, _, h => by cases h; exact .bl b
  | .int i, _, h => by cases h; exact .int i
  | .str x, _, h => by cases h; exact .str x
  | .list ds, _, h => by
    cases h with
    | lst m e r => exact .lst (fun z => (hm _ z).elim m fun q => by rw [e] at q; cases q) (hk _ _ e rfl m) (RpAll.cells hF hm hs hsrc hk hf ds _ r)
  | .tuple ds, _, h => by
    cases h with
    | tup e r =>
      refine .tup ?_ (RpAll.cells hF hm hs hsrc hk hf ds _ r)
      rcases e with (e | ⟨o, e⟩) | e
      · exact .inl (.inl (hf _ _ e rfl))
      · exact .inl (.inr ⟨o, hf _ _ e rfl⟩)
      · exact .inr e
  | .dict kvs, _, h => by
    cases h with
    | src s e => exact .src (hs _ s) (hsrc _ s e)
    | scr e => exact .scr (e.cells hm hk hf)
    | fn e => exact .fn (hF _ _ _ _ _ e hf)
    | dic m e r => exact .dic (fun z => (hm _ z).elim m fun q => by rw [e] at q; cases q) (hk _ _ e rfl m) (r.go hf)
theorem RpAll.cells {W' : Md} (hF : FOk F) (hm : ∀ b, W'.m b → W.m b ∨ H b = none) (hs : ∀ b, W.s b → W'.s b) (hsrc : ∀ b, W.s b → SrcAt H b → SrcAt H' b) (hk : ∀ b o, H b = some o → notTbl o = true → ¬ W.m b → H' b = some o) (hf : ∀ b o, H b = some o → fixd o = true → H' b = some o) :
    ∀ (ds : List Dt) (vs : List V), RpAll K F W H vs ds → RpAll K F W' H' vs ds
  | [], _, h => by cases h; exact .nil
  | d :: ds, _, h => by
    cases h with
    | cons a b => exact .cons (Rp.cells hF hm hs hsrc hk hf d _ a) (RpAll.cells hF hm hs hsrc hk hf ds _ b)
end
theorem RpAll.len : ∀ {vs : List V} {ds : List Dt}, RpAll K F W H vs ds → vs.length = ds.length
  | _, _, .nil => rfl
  | _, _, .cons _ r => congrArg Nat.succ (RpAll.len r)
theorem RpAll.get : ∀ {vs : List V} {ds : List Dt} {i : Nat} {d : Dt}, RpAll K F W H vs ds → ds[i]? = some d → ∃ v, vs[i]? = some v ∧ Rp K F W H v d
  | _, _, _, _, .nil, e => by simp at e
  | _, _, 0, _, .cons a _, e => by simp at e; subst e; exact ⟨_, rfl, a⟩
  | _, _, i + 1, d, .cons _ r, e => by
    obtain ⟨v, h1, h2⟩ := RpAll.get (i := i) (d := d) r (by simpa using e)
    exact ⟨v, by simpa using h1, h2⟩
theorem RpAll.getV : ∀ {vs : List V} {ds : List Dt} {i : Nat} {v : V}, RpAll K F W H vs ds → vs[i]? = some v → ∃ d, ds[i]? = some d ∧ Rp K F W H v d
  | _, _, _, _, .nil, e => by simp at e
  | _, _, 0, _, .cons a _, e => by simp at e; subst e; exact ⟨_, rfl, a⟩
  | _, _, i + 1, d, .cons _ r, e => by
    obtain ⟨v, h1, h2⟩ := RpAll.getV (i := i) (v := d) r (by simpa using e)
    exact ⟨v, by simpa using h1, h2⟩
theorem RpAll.append : ∀ {vs us : List V} {ds es : List Dt}, RpAll K F W H vs ds → RpAll K F W H us es → RpAll K F W H (vs ++ us) (ds ++ es)
  | _, _, _, _, .nil, r => r
  | _, _, _, _, .cons a b, r => .cons a (RpAll.append b r)
theorem RpAll.take : ∀ {vs : List V} {ds : List Dt} (n : Nat), RpAll K F W H vs ds → RpAll K F W H (vs.take n) (ds.take n)
  | _, _, 0, _ => .nil
  | _, _, _ + 1, .nil => .nil
  | _, _, n + 1, .cons a b => .cons a (RpAll.take n b)
theorem RpAll.drop : ∀ {vs : List V} {ds : List Dt} (n : Nat), RpAll K F W H vs ds → RpAll K F W H (vs.drop n) (ds.drop n)
  | _, _, 0, r => r
  | _, _, _ + 1, .nil => .nil
  | _, _, n + 1, .cons _ b => RpAll.drop n b
mutual
theorem Rp.dp : ∀ (d : Dt) (v : V), d.canLay0 = true → Rp K F W H v d → Dp K H v d
  | .none, _, _, h => by cases h; exact .non
  | .bool b, _, _, h => by cases h; exact .bl b
  | .int i, _, _, h => by cases h; exact .int i
  | .str x, _, _, h => by cases h; exact .str x
  | .list ds, _, c, h => by
    cases h with
    | lst m e r => exact .lst (SqL.of e) (RpAll.dp ds _ (by simpa [PyData.canLay0] using c) r)
  | .tuple ds, _, c, h => by
    cases h with
    | tup e r => exact .tup e (RpAll.dp ds _ (by simpa [PyData.canLay0] using c) r)
  | .dict kvs, _, c, h => by simp [PyData.canLay0] at c
theorem RpAll.dp : ∀ (ds : List Dt) (vs : List V), PyData.canLayAll0 ds = true → RpAll K F W H vs ds → DpAll K H vs ds
  | [], _, _, h => by cases h; exact .nil
  | d :: ds, _, c, h => by
    have c' : d.canLay0 = true ∧ PyData.canLayAll0 ds = true := by simpa [PyData.canLayAll0] using c
    cases h with
    | cons a b => exact .cons (Rp.dp d _ c'.1 a) (RpAll.dp ds _ c'.2 b)
end
mutual
def nolst : Dt → Bool
  | .list _ => false
  | .tuple ds => nolstAll ds
  | .dict _ => false
  | _ => true
def nolstAll : List Dt → Bool
  | [] => true
  | d :: ds => nolst d && nolstAll ds
end
mutual
theorem Rp.free {W' : Md} : ∀ (d : Dt) (v : V), nolst d = true → Rp K F W H v d → Rp K F W' H v d
  | .none, _, _, h => by cases h; exact .non
  | .bool b, _, _, h => by cases h; exact .bl b
  | .int i, _, _, h => by cases h; exact .int i
  | .str x, _, _, h => by cases h; exact .str x
  | .list ds, _, c, h => by simp [nolst] at c
  | .tuple ds, _, c, h => by
    cases h with
    | tup e r => exact .tup e (RpAll.free ds _ (by simpa [nolst] using c) r)
  | .dict kvs, _, c, h => by simp [nolst] at c
theorem RpAll.free {W' : Md} : ∀ (ds : List Dt) (vs : List V), nolstAll ds = true → RpAll K F W H vs ds → RpAll K F W' H vs ds
  | [], _, _, h => by cases h; exact .nil
  | d :: ds, _, c, h => by
    have c' : nolst d = true ∧ nolstAll ds = true := by simpa [nolstAll] using c
    cases h with
    | cons a b => exact .cons (Rp.free d _ c'.1 a) (RpAll.free ds _ c'.2 b)
end
theorem srp_rp {v : V} {d : Dt} (h : SRp K F W H v d) (c : isMut d = false) : Rp K F W H v d := by
  unfold SRp at h
  split at h
  · cases c
  · cases c
  · exact h
theorem SRp.go {v : V} {d : Dt} (hF : FOk F) (so : ∀ b, W.s b → W.o b) (hs : ∀ b, W.s b → W.m b) (g : Go T W.s H H') (h : SRp K F W H v d) : SRp K F W H' v d := by
  unfold SRp at h ⊢
  split at h
  · obtain ⟨a, xs, e, m, ns, e1, r⟩ := h
    exact ⟨a, xs, e, m, ns, g.keep _ _ e1 rfl (fun z => ns (so _ z)), RpAll.go hF hs g _ _ r⟩
  · obtain ⟨a, xs, l, el, e, m, ns, e1, r⟩ := h
    exact ⟨a, xs, l, el, e, m, ns, g.keep _ _ e1 rfl (fun z => ns (so _ z)), r.go g.fix⟩
  · exact Rp.go hF hs g _ _ h
end

/-- a state: the slots' data, the cells -/
structure Stt (K : PySem.W.Frag) (F : FAT) (T : List (Addr × Str)) (W : Md) (σ : L2.St) (ρ : Rho) (H : Hp) : Prop where
  len : ρ.length ≤ σ.length
  env : ∀ (i : Nat) (d : Dt), ρ[i]? = some (some d) → ∃ v, σ[i]? = some (some v) ∧ SRp K F W H v d
  uniq : ∀ (i j : Nat) (d e : Dt), i ≠ j → ρ[i]? = some (some d) → ρ[j]? = some (some e) → isMut d = true → isMut e = true → σ[i]? ≠ σ[j]?
  mok : ∀ b, W.m b → H b ≠ none
  so : ∀ b, W.s b → W.o b
  om : ∀ b, W.o b → W.m b
  tabs : Tabs T H
  hF : FOk F

abbrev DTE := Rho → (Dt → Prop) → Prop
abbrev DTT := Rho → (Bool → Prop) → Prop
abbrev DTA := Rho → (List Dt → Prop) → Prop
abbrev DR2 := Dt → Dt → (Dt → Prop) → Prop
structure DEnds where
  nx : Rho → Prop
  rt : Dt → Prop
  bk : Rho → Prop := fun _ => False
  ct : Rho → Prop := fun _ => False
abbrev DTS := DEnds → Rho → Prop
abbrev DTG := Dt → Rho → (Rho → Prop) → Prop
abbrev DTGs := List Dt → Rho → (Rho → Prop) → Prop
def Md.add (W : Md) (l : Addr) : Md := ⟨fun b => W.m b ∨ b = l, W.s, W.o⟩
/-- a def's own view when it is entered -/
def Md.enter (W : Md) : Md := ⟨W.m, W.s, W.m⟩
/-- the callers' view -/
def Md.leave (W : Md) : Md := ⟨W.o, W.s, W.o⟩
/-- what stands through a def's statements -/
structure Inva (T : List (Addr × Str)) (Φ : Md → Hp → Prop) : Prop where
  go : ∀ W H H', Φ W H → Go T W.s H H' → Φ W H'
  cell : ∀ W H l u o, Φ W H → W.m l → ¬ W.o l → H l = some u → cellO u = true → cellO o = true → Φ W (upd H l o)
  grow : ∀ W H l o, Φ W H → H l = none → cellO o = true → Φ (W.add l) (upd H l o)

section
variable (K : PySem.W.Frag) (F : FAT) (T : List (Addr × Str))
def liftE (t : DTE) : TE := fun σ H Q => ∃ (W : Md) (ρ : Rho) (P : Dt → Prop), Stt K F T W σ ρ H ∧ t ρ P ∧ ∀ v H' d, Go T W.s H H' → Rp K F W H' v d → P d → Q v H'
def liftT (t : DTT) : TT := fun σ H Q => ∃ (W : Md) (ρ : Rho) (P : Bool → Prop), Stt K F T W σ ρ H ∧ t ρ P ∧ ∀ b H', Go T W.s H H' → P b → Q b H'
def liftA (t : DTA) : TA := fun σ H Q => ∃ (W : Md) (ρ : Rho) (P : List Dt → Prop), Stt K F T W σ ρ H ∧ t ρ P ∧ ∀ vs H' ds, Go T W.s H H' → RpAll K F W H' vs ds → P ds → Q vs H'
def lift2 (r : DR2) : R2 := fun x y H Q => ∃ (W : Md) (dx dy : Dt) (P : Dt → Prop), Stt K F T W [] [] H ∧ Rp K F W H x dx ∧ Rp K F W H y dy ∧ r dx dy P ∧ ∀ v H' d, Go T W.s H H' → Rp K F W H' v d → P d → Q v H'
def lift1 (r : Dt → (Dt → Prop) → Prop) : V → Hp → VK → Prop := fun x H Q => ∃ (W : Md) (dx : Dt) (P : Dt → Prop), Stt K F T W [] [] H ∧ Rp K F W H x dx ∧ r dx P ∧ ∀ v H' d, Go T W.s H H' → Rp K F W H' v d → P d → Q v H'
def liftC (r : List Dt → (Dt → Prop) → Prop) : List V → Hp → VK → Prop := fun xs H Q => ∃ (W : Md) (ds : List Dt) (P : Dt → Prop), Stt K F T W [] [] H ∧ RpAll K F W H xs ds ∧ r ds P ∧ ∀ v H' d, Go T W.s H H' → Rp K F W H' v d → P d → Q v H'
/-- a target: vs, the slots that it may set -/
def liftG (vs : List Nat) (t : DTG) : TG := fun v σ H Q => ∃ (W : Md) (ρ : Rho) (d : Dt) (P : Rho → Prop), Stt K F T W σ ρ H ∧ Rp K F W H v d ∧ t d ρ P ∧ ∀ σ' ρ' H', wipe σ' vs = wipe σ vs → Go T W.s H H' → Stt K F T W σ' ρ' H' → P ρ' → Q σ' H'
def liftGs (vs : List Nat) (t : DTGs) : TGs := fun xs σ H Q => ∃ (W : Md) (ρ : Rho) (ds : List Dt) (P : Rho → Prop), Stt K F T W σ ρ H ∧ RpAll K F W H xs ds ∧ t ds ρ P ∧ ∀ σ' ρ' H', wipe σ' vs = wipe σ vs → Go T W.s H H' → Stt K F T W σ' ρ' H' → P ρ' → Q σ' H'
def liftS (t : DTS) : TS := fun D σ H => ∃ (Φ : Md → Hp → Prop) (W : Md) (ρ : Rho) (P : DEnds), Inva T Φ ∧ Φ W H ∧ Stt K F T W σ ρ H ∧ t P ρ ∧
  (∀ W' σ' ρ' H', W'.s = W.s → W'.o = W.o → Φ W' H' → Stt K F T W' σ' ρ' H' → P.nx ρ' → D.nx σ' H') ∧ (∀ W' v H' d, W'.s = W.s → W'.o = W.o → Φ W' H' → Rp K F W.leave H' v d → P.rt d → D.rt v H') ∧
  (∀ W' σ' ρ' H', W'.s = W.s → W'.o = W.o → Φ W' H' → Stt K F T W' σ' ρ' H' → P.bk ρ' → D.bk σ' H') ∧ (∀ W' σ' ρ' H', W'.s = W.s → W'.o = W.o → Φ W' H' → Stt K F T W' σ' ρ' H' → P.ct ρ' → D.ct σ' H')
end
section
variable {K : PySem.W.Frag} {F : FAT} {T : List (Addr × Str)} {W W0 : Md} {σ : L2.St} {ρ : Rho} {H H' H0 : Hp}
theorem Stt.sm (h : Stt K F T W σ ρ H) : ∀ b, W.s b → W.m b := fun b z => h.om b (h.so b z)
theorem Stt.go (h : Stt K F T W σ ρ H) (g : Go T W.s H H') : Stt K F T W σ ρ H' :=
  ⟨h.len, fun i d e => let ⟨v, a, b⟩ := h.env i d e; ⟨v, a, b.go h.hF h.so h.sm g⟩, h.uniq, fun b m => g.there b (h.mok b m), h.so, h.om, g.tabs h.tabs, h.hF⟩
theorem Stt.bare (h : Stt K F T W σ ρ H) : Stt K F T W [] [] H := ⟨Nat.le_refl _, fun i d e => by simp at e, fun i j d e _ q => by simp at q, h.mok, h.so, h.om, h.tabs, h.hF⟩
theorem Stt.free (h : Stt K F T W σ ρ H) {p : Addr} (n : H p = none) : ¬ W.m p := fun z => h.mok p z n
theorem Stt.rp (h : Stt K F T W σ ρ H) (g : Go T W.s H H') {v : V} {d : Dt} (r : Rp K F W H v d) : Rp K F W H' v d := Rp.go h.hF h.sm g d v r
theorem Stt.rps (h : Stt K F T W σ ρ H) (g : Go T W.s H H') {v : List V} {d : List Dt} (r : RpAll K F W H v d) : RpAll K F W H' v d := RpAll.go h.hF h.sm g d v r
theorem Stt.set (h : Stt K F T W σ ρ H) {i : Nat} {v : V} {d : Dt} (r : SRp K F W H v d) (hu : isMut d = false) : Stt K F T W (σ.set i (some v)) (ρ.set i (some d)) H := by
  refine ⟨by rw [List.length_set, List.length_set]; exact h.len, fun j e q => ?_, fun j k d1 e1 hn q1 q2 m1 m2 => ?_, h.mok, h.so, h.om, h.tabs, h.hF⟩
  · by_cases c : i = j
    · subst c
      by_cases hr : i < ρ.length
      · rw [List.getElem?_set_self hr] at q
        cases q
        exact ⟨v, List.getElem?_set_self (Nat.lt_of_lt_of_le hr h.len), r⟩
      · rw [List.getElem?_eq_none (by simpa using hr)] at q
        cases q
    · rw [List.getElem?_set_ne c] at q ⊢
      exact h.env j e q
  · have nj : i ≠ j := fun c => by
      subst c
      by_cases hr : i < ρ.length
      · rw [List.getElem?_set_self hr] at q1
        cases q1
        rw [hu] at m1; cases m1
      · rw [List.getElem?_eq_none (by simpa using hr)] at q1
        cases q1
    have nk : i ≠ k := fun c => by
      subst c
      by_cases hr : i < ρ.length
      · rw [List.getElem?_set_self hr] at q2
        cases q2
        rw [hu] at m2; cases m2
      · rw [List.getElem?_eq_none (by simpa using hr)] at q2
        cases q2
    rw [List.getElem?_set_ne nj] at q1 ⊢
    rw [List.getElem?_set_ne nk] at q2 ⊢
    exact h.uniq j k d1 e1 hn q1 q2 m1 m2
end
end DL
/-! Expressions over data. -/
namespace DL
open PySem PySem.Spec PyProof.Rows L2 LamX

theorem PE.cons {X : Cx} {e : Expr} {t t' : TE} (h : PE X e t) (w : ∀ σ H Q, t' σ H Q → t σ H Q) : PE X e t' := ⟨fun pins s σ H Q I q => h.run pins s σ H Q I (w σ H Q q)⟩
theorem PT.cons {X : Cx} {e : Expr} {t t' : TT} (h : PT X e t) (w : ∀ σ H Q, t' σ H Q → t σ H Q) : PT X e t' := ⟨fun pins s σ H Q I q => h.run pins s σ H Q I (w σ H Q q)⟩
theorem PW.cons {X : Cx} {e : Expr} {t t' : TT} (h : PW X e t) (w : ∀ σ H Q, t' σ H Q → t σ H Q) : PW X e t' := ⟨fun wh pins s σ H Q I q => h.run wh pins s σ H Q I (w σ H Q q)⟩
theorem PA.cons {X : Cx} {e : List Expr} {t t' : TA} (h : PA X e t) (w : ∀ σ H Q, t' σ H Q → t σ H Q) : PA X e t' := ⟨fun pos pins s σ H Q I q => h.run pos pins s σ H Q I (w σ H Q q)⟩
theorem PS.cons {X : Cx} {e : Stmt} {t t' : TS} (h : PS X e t) (w : ∀ D σ H, t' D σ H → t D σ H) : PS X e t' := ⟨fun pins s σ H Q I q => h.run pins s σ H Q I (w Q σ H q)⟩
theorem PSs.cons {X : Cx} {e : List Stmt} {t t' : TS} (h : PSs X e t) (w : ∀ D σ H, t' D σ H → t D σ H) : PSs X e t' := ⟨fun pins s σ H Q I q => h.run pins s σ H Q I (w Q σ H q)⟩
theorem PG.cons {X : Cx} {e : Expr} {t t' : TG} (h : PG X e t) (w : ∀ v σ H Q, t' v σ H Q → t v σ H Q) : PG X e t' := ⟨fun pins s σ H v u Q I r q => h.run pins s σ H v u Q I r (w v σ H Q q)⟩
theorem PGs.cons {X : Cx} {e : List Expr} {t t' : TGs} (h : PGs X e t) (w : ∀ v σ H Q, t' v σ H Q → t v σ H Q) : PGs X e t' := ⟨fun pins s σ H v u Q I r q => h.run pins s σ H v u Q I r (w v σ H Q q)⟩
theorem OpR.cons {X : Cx} {f : Value → Value → Sem Value} {t t' : R2} (h : OpR X f t) (w : ∀ x y H Q, t' x y H Q → t x y H Q) : OpR X f t' := fun pins s σ H x y v u Q I rx ry q => h pins s σ H x y v u Q I rx ry (w x y H Q q)
theorem UnR.cons {X : Cx} {f : Value → Sem Value} {t t' : V → Hp → VK → Prop} (h : UnR X f t) (w : ∀ x H Q, t' x H Q → t x H Q) : UnR X f t' := fun pins s σ H x v Q I rx q => h pins s σ H x v Q I rx (w x H Q q)
theorem IxR.cons {X : Cx} {t t' : R2} (h : IxR X t) (w : ∀ x y H Q, t' x y H Q → t x y H Q) : IxR X t' := fun value slice pins s σ H x y v u Q I rx ry q hs => h value slice pins s σ H x y v u Q I rx ry (w x y H Q q) hs
theorem SlR.cons {X : Cx} {t t' : V → Option Int → Option Int → Hp → VK → Prop} (h : SlR X t) (w : ∀ x lo hi H Q, t' x lo hi H Q → t x lo hi H Q) : SlR X t' := fun pins s σ H x v vl vu lo hi sl Q I rx hs pl pu q => h pins s σ H x v vl vu lo hi sl Q I rx hs pl pu (w x lo hi H Q q)
theorem CallR.cons {X : Cx} {f : Value} {t t' : List V → Hp → VK → Prop} (h : CallR X f t) (w : ∀ x H Q, t' x H Q → t x H Q) : CallR X f t' := fun pins s σ H xs us Q I r q => h pins s σ H xs us Q I r (w xs H Q q)
theorem CallR.or {X : Cx} {f : Value} {t t' : List V → Hp → VK → Prop} (h : CallR X f t) (h' : CallR X f t') : CallR X f (fun x H Q => t x H Q ∨ t' x H Q) := fun pins s σ H xs us Q I r q => q.elim (h pins s σ H xs us Q I r) (h' pins s σ H xs us Q I r)
theorem MtR.cons {X : Cx} {id : String} {t t' : V → List V → Hp → VK → Prop} (h : MtR X id t) (w : ∀ x xs H Q, t' x xs H Q → t x xs H Q) : MtR X id t' := fun pins s σ H x xs v us Q I rx rv q => h pins s σ H x xs v us Q I rx rv (w x xs H Q q)

/-! ### what operations are on data -/
def line : Nat := 100000
theorem line_le : line ≤ sizeLine := by decide
def rAdd : DR2
  | .int i, .int j, P => P (.int (i + j))
  | .tuple xs, .tuple ys, P => xs.length + ys.length ≤ line ∧ P (.tuple (xs ++ ys))
  | .list xs, .list ys, P => xs.length + ys.length ≤ line ∧ P (.list (xs ++ ys))
  | _, _, _ => False
def rSub : DR2
  | .int i, .int j, P => P (.int (i - j))
  | _, _, _ => False
def rMul : DR2
  | .int i, .int j, P => CMul i j ∧ P (.int (i * j))
  | _, _, _ => False
def rFdv : DR2
  | .int i, .int j, P => CDivN i j ∧ P (.int (i.fdiv j))
  | _, _, _ => False
def rMod : DR2
  | .int i, .int j, P => j ≠ 0 ∧ P (.int (i.fmod j))
  | _, _, _ => False
def rPow : DR2
  | .int i, .int j, P => CPow i j ∧ P (.int (i ^ j.toNat))
  | _, _, _ => False
def rLt : DR2
  | .int i, .int j, P => P (.bool (decide (i < j)))
  | _, _, _ => False
def rLe : DR2
  | .int i, .int j, P => P (.bool (decide (i ≤ j)))
  | _, _, _ => False
def rGt : DR2
  | .int i, .int j, P => P (.bool (decide (j < i)))
  | _, _, _ => False
def rGe : DR2
  | .int i, .int j, P => P (.bool (decide (j ≤ i)))
  | _, _, _ => False
def rEq : DR2 := fun x y P => SeqAt.shaped x = true ∧ SeqAt.shaped y = true ∧ P (.bool (PyData.eqv x y))
def rNe : DR2 := fun x y P => SeqAt.shaped x = true ∧ SeqAt.shaped y = true ∧ P (.bool (!PyData.eqv x y))
def isNon : Dt → Bool
  | .none => true
  | _ => false
def rIs : DR2
  | x, .none, P => P (.bool (isNon x))
  | _, _, _ => False
def rIsn : DR2
  | x, .none, P => P (.bool (!isNon x))
  | _, _, _ => False
def flatD : Dt → Bool
  | .none | .bool _ | .int _ | .str _ => true
  | _ => false
def rIn : DR2
  | x, .tuple ys, P => flatD x = true ∧ ys.all flatD = true ∧ P (.bool (ys.any fun z => PyData.eqv z x))
  | x, .list ys, P => flatD x = true ∧ ys.all flatD = true ∧ P (.bool (ys.any fun z => PyData.eqv z x))
  | _, _, _ => False
def rNin : DR2
  | x, .tuple ys, P => flatD x = true ∧ ys.all flatD = true ∧ P (.bool (!ys.any fun z => PyData.eqv z x))
  | x, .list ys, P => flatD x = true ∧ ys.all flatD = true ∧ P (.bool (!ys.any fun z => PyData.eqv z x))
  | _, _, _ => False
def rIx : DR2
  | .tuple xs, .int i, P => ∃ d, atI xs i = some d ∧ P d
  | .list xs, .int i, P => ∃ d, atI xs i = some d ∧ P d
  | .dict [(.none, .list xs)], .int i, P => ∃ d, atI xs i = some d ∧ P d
  | _, _, _ => False
def rNeg : Dt → (Dt → Prop) → Prop
  | .int i, P => P (.int (-i))
  | _, _ => False

section
variable {X : Cx} {F : FAT} {T : List (Addr × Str)}
theorem od_add : OpR X (binaryOp .Add) (lift2 X.K F T rAdd) := by
  refine OpR.cons (OpR.or op_add (OpR.or op_catA op_cat)) fun x y H Q h => ?_
  obtain ⟨W, dx, dy, P, st, hx, hy, hr, k⟩ := h
  cases hx <;> cases hy <;> try (exact False.elim hr)
  · exact .inl ⟨_, _, rfl, rfl, k _ _ _ (Go.refl T W.s H) (.int _) hr⟩
  · rename_i a xs ds m e r b ys es m2 e2 r2
    obtain ⟨hz, hp⟩ := hr
    refine .inr (.inr ⟨a, b, xs, ys, rfl, rfl, e, e2, by rw [r.len, r2.len]; exact Nat.le_trans hz line_le, fun p hp' => ?_⟩)
    exact k _ _ _ (Go.new hp') (.lst (st.free hp') upd_same (st.rps (Go.new hp') (r.append r2))) hp
  · rename_i a xs ds e r b ys es e2 r2
    obtain ⟨hz, hp⟩ := hr
    refine .inr (.inl ⟨a, b, xs, ys, rfl, rfl, e, e2, by rw [r.len, r2.len]; exact Nat.le_trans hz line_le, fun h0 => ?_, fun _ h0 => ?_, fun _ _ p hp' => ?_⟩)
    · subst h0
      cases r
      exact k _ _ _ (Go.refl T W.s H) (.tup e2 r2) hp
    · subst h0
      cases r2
      rw [List.append_nil] at hp
      exact k _ _ _ (Go.refl T W.s H) (.tup e r) hp
    · exact k _ _ _ (Go.new hp') (.tup (SqT.of upd_same) (st.rps (Go.new hp') (r.append r2))) hp
theorem od_sub : OpR X (binaryOp .Sub) (lift2 X.K F T rSub) := by
  refine OpR.cons op_sub fun x y H Q h => ?_
  obtain ⟨W, dx, dy, P, st, hx, hy, hr, k⟩ := h
  cases hx <;> cases hy <;> try (exact False.elim hr)
  exact ⟨_, _, rfl, rfl, k _ _ _ (Go.refl T W.s H) (.int _) hr⟩
theorem od_mul : OpR X (binaryOp .Mult) (lift2 X.K F T rMul) := by
  refine OpR.cons op_mul fun x y H Q h => ?_
  obtain ⟨W, dx, dy, P, st, hx, hy, hr, k⟩ := h
  cases hx <;> cases hy <;> try (exact False.elim hr)
  exact ⟨_, _, rfl, rfl, hr.1, k _ _ _ (Go.refl T W.s H) (.int _) hr.2⟩
theorem od_fdv : OpR X (binaryOp .FloorDiv) (lift2 X.K F T rFdv) := by
  refine OpR.cons op_fdivN fun x y H Q h => ?_
  obtain ⟨W, dx, dy, P, st, hx, hy, hr, k⟩ := h
  cases hx <;> cases hy <;> try (exact False.elim hr)
  exact ⟨_, _, rfl, rfl, hr.1, k _ _ _ (Go.refl T W.s H) (.int _) hr.2⟩
theorem od_mod : OpR X (binaryOp .Mod) (lift2 X.K F T rMod) := by
  refine OpR.cons op_modN fun x y H Q h => ?_
  obtain ⟨W, dx, dy, P, st, hx, hy, hr, k⟩ := h
  cases hx <;> cases hy <;> try (exact False.elim hr)
  exact ⟨_, _, rfl, rfl, hr.1, k _ _ _ (Go.refl T W.s H) (.int _) hr.2⟩
theorem od_pow : OpR X (binaryOp .Pow) (lift2 X.K F T rPow) := by
  refine OpR.cons op_pow fun x y H Q h => ?_
  obtain ⟨W, dx, dy, P, st, hx, hy, hr, k⟩ := h
  cases hx <;> cases hy <;> try (exact False.elim hr)
  exact ⟨_, _, rfl, rfl, hr.1, k _ _ _ (Go.refl T W.s H) (.int _) hr.2⟩
theorem od_lt : OpR X (compareOp .Lt) (lift2 X.K F T rLt) := by
  refine OpR.cons op_lt fun x y H Q h => ?_
  obtain ⟨W, dx, dy, P, st, hx, hy, hr, k⟩ := h
  cases hx <;> cases hy <;> try (exact False.elim hr)
  exact ⟨_, _, rfl, rfl, k _ _ _ (Go.refl T W.s H) (.bl _) hr⟩
theorem od_le : OpR X (compareOp .LtE) (lift2 X.K F T rLe) := by
  refine OpR.cons op_le fun x y H Q h => ?_
  obtain ⟨W, dx, dy, P, st, hx, hy, hr, k⟩ := h
  cases hx <;> cases hy <;> try (exact False.elim hr)
  exact ⟨_, _, rfl, rfl, k _ _ _ (Go.refl T W.s H) (.bl _) hr⟩
theorem od_gt : OpR X (compareOp .Gt) (lift2 X.K F T rGt) := by
  refine OpR.cons op_gt fun x y H Q h => ?_
  obtain ⟨W, dx, dy, P, st, hx, hy, hr, k⟩ := h
  cases hx <;> cases hy <;> try (exact False.elim hr)
  exact ⟨_, _, rfl, rfl, k _ _ _ (Go.refl T W.s H) (.bl _) hr⟩
theorem od_ge : OpR X (compareOp .GtE) (lift2 X.K F T rGe) := by
  refine OpR.cons op_ge fun x y H Q h => ?_
  obtain ⟨W, dx, dy, P, st, hx, hy, hr, k⟩ := h
  cases hx <;> cases hy <;> try (exact False.elim hr)
  exact ⟨_, _, rfl, rfl, k _ _ _ (Go.refl T W.s H) (.bl _) hr⟩
theorem shaped_lay {d : Dt} (h : SeqAt.shaped d = true) : d.canLay0 = true := SeqAt.canLay_of_shaped h
theorem od_eq (hu : X.A.units + 64 < cLine) : OpR X (compareOp .Eq) (lift2 X.K F T rEq) := by
  refine OpR.cons (op_eqD hu) fun x y H Q h => ?_
  obtain ⟨W, dx, dy, P, st, hx, hy, ⟨s1, s2, hr⟩, k⟩ := h
  exact ⟨dx, dy, hx.dp _ _ (shaped_lay s1), hy.dp _ _ (shaped_lay s2), s1, s2, k _ _ _ (Go.refl T W.s H) (.bl _) hr⟩
theorem od_ne (hu : X.A.units + 64 < cLine) : OpR X (compareOp .NotEq) (lift2 X.K F T rNe) := by
  refine OpR.cons (op_neD hu) fun x y H Q h => ?_
  obtain ⟨W, dx, dy, P, st, hx, hy, ⟨s1, s2, hr⟩, k⟩ := h
  exact ⟨dx, dy, hx.dp _ _ (shaped_lay s1), hy.dp _ _ (shaped_lay s2), s1, s2, k _ _ _ (Go.refl T W.s H) (.bl _) hr⟩
theorem isNon_of {K : PySem.W.Frag} {W : Md} {H : Hp} {v : V} {d : Dt} (h : Rp K F W H v d) : decide (v = .non) = isNon d := by
  cases h <;> first | rfl | exact decide_eq_false (fun z => nomatch z)
theorem od_is : OpR X (compareOp .Is) (lift2 X.K F T rIs) := by
  refine OpR.cons op_isN fun x y H Q h => ?_
  obtain ⟨W, dx, dy, P, st, hx, hy, hr, k⟩ := h
  cases hy <;> try (exact False.elim hr)
  refine ⟨rfl, ?_⟩
  rw [isNon_of hx]
  exact k _ _ _ (Go.refl T W.s H) (.bl _) hr
theorem od_isn : OpR X (compareOp .IsNot) (lift2 X.K F T rIsn) := by
  refine OpR.cons op_notN fun x y H Q h => ?_
  obtain ⟨W, dx, dy, P, st, hx, hy, hr, k⟩ := h
  cases hy <;> try (exact False.elim hr)
  refine ⟨rfl, ?_⟩
  rw [isNon_of hx]
  exact k _ _ _ (Go.refl T W.s H) (.bl _) hr
theorem flat_of {K : PySem.W.Frag} {W : Md} {H : Hp} {v : V} {d : Dt} (h : Rp K F W H v d) (c : flatD d = true) : flatV v = true := by
  cases h <;> first | rfl | cases c
theorem eq_of {K : PySem.W.Frag} {W : Md} {H : Hp} {v u : V} {d e : Dt} (h : Rp K F W H v d) (g : Rp K F W H u e) (c : flatD d = true) (c' : flatD e = true) : eqV v u = PyData.eqv d e := by
  cases h <;> cases g <;> first | rfl | (simp [eqV, PyData.eqv]; done) | cases c | cases c'
theorem flats_of {K : PySem.W.Frag} {W : Md} {H : Hp} : ∀ {vs : List V} {ds : List Dt}, RpAll K F W H vs ds → ds.all flatD = true → vs.all flatV = true
  | _, _, .nil, _ => rfl
  | _, _, .cons a r, c => by
    rw [List.all_cons, Bool.and_eq_true] at c
    rw [List.all_cons, Bool.and_eq_true]
    exact ⟨flat_of a c.1, flats_of r c.2⟩
theorem in_of {K : PySem.W.Frag} {W : Md} {H : Hp} {v : V} {d : Dt} (h : Rp K F W H v d) (c : flatD d = true) : ∀ {vs : List V} {ds : List Dt}, RpAll K F W H vs ds → ds.all flatD = true → inV v vs = ds.any fun z => PyData.eqv z d
  | _, _, .nil, _ => rfl
  | x :: xs, y :: ys, .cons a r, e => by
    rw [List.all_cons, Bool.and_eq_true] at e
    have ih := in_of h c r e.2
    unfold inV at ih ⊢
    rw [List.any_cons, List.any_cons, eq_of a h e.1 c, ih]
theorem od_in : OpR X (compareOp .In) (lift2 X.K F T rIn) := by
  refine OpR.cons op_in_seq fun x y H Q h => ?_
  obtain ⟨W, dx, dy, P, st, hx, hy, hr, k⟩ := h
  cases hy <;> try (exact False.elim hr)
  · rename_i a xs ds m e r
    obtain ⟨h1, h2, h3⟩ := hr
    refine ⟨a, xs, rfl, .inl (SqL.of e), flat_of hx h1, flats_of r h2, ?_⟩
    rw [in_of hx h1 r h2]
    exact k _ _ _ (Go.refl T W.s H) (.bl _) h3
  · rename_i a xs ds e r
    obtain ⟨h1, h2, h3⟩ := hr
    refine ⟨a, xs, rfl, .inr e, flat_of hx h1, flats_of r h2, ?_⟩
    rw [in_of hx h1 r h2]
    exact k _ _ _ (Go.refl T W.s H) (.bl _) h3
theorem od_nin : OpR X (compareOp .NotIn) (lift2 X.K F T rNin) := by
  refine OpR.cons op_notIn_seq fun x y H Q h => ?_
  obtain ⟨W, dx, dy, P, st, hx, hy, hr, k⟩ := h
  cases hy <;> try (exact False.elim hr)
  · rename_i a xs ds m e r
    obtain ⟨h1, h2, h3⟩ := hr
    refine ⟨a, xs, rfl, .inl (SqL.of e), flat_of hx h1, flats_of r h2, ?_⟩
    rw [in_of hx h1 r h2]
    exact k _ _ _ (Go.refl T W.s H) (.bl _) h3
  · rename_i a xs ds e r
    obtain ⟨h1, h2, h3⟩ := hr
    refine ⟨a, xs, rfl, .inr e, flat_of hx h1, flats_of r h2, ?_⟩
    rw [in_of hx h1 r h2]
    exact k _ _ _ (Go.refl T W.s H) (.bl _) h3
theorem ud_neg : UnR X (unaryOp .USub) (lift1 X.K F T rNeg) := by
  refine UnR.cons un_neg fun x H Q h => ?_
  obtain ⟨W, dx, P, st, hx, hr, k⟩ := h
  cases hx <;> try (exact False.elim hr)
  exact ⟨_, rfl, k _ _ _ (Go.refl T W.s H) (.int _) hr⟩
theorem atI_rp {K : PySem.W.Frag} {W : Md} {H : Hp} {vs : List V} {ds : List Dt} (r : RpAll K F W H vs ds) {i : Int} {d : Dt} (h : atI ds i = some d) : ∃ v, atI vs i = some v ∧ Rp K F W H v d := by
  unfold atI at h ⊢
  rw [r.len]
  cases e : ixN ds.length i with
  | none => rw [e] at h; cases h
  | some j =>
    rw [e] at h
    exact r.get h
theorem xd_ix : IxR X (lift2 X.K F T rIx) := by
  refine IxR.cons (IxR.or ix_list ix_tup) fun x y H Q h => ?_
  obtain ⟨W, dx, dy, P, st, hx, hy, hr, k⟩ := h
  cases hx <;> cases hy <;> try (exact False.elim hr)
  · rename_i a xs ds m e r i
    obtain ⟨d, h1, h2⟩ := hr
    obtain ⟨v, e1, e2⟩ := atI_rp r h1
    exact .inl ⟨a, xs, i, v, rfl, rfl, SqL.of e, e1, k _ _ _ (Go.refl T W.s H) e2 h2⟩
  · rename_i a xs ds e r i
    obtain ⟨d, h1, h2⟩ := hr
    obtain ⟨v, e1, e2⟩ := atI_rp r h1
    exact .inr ⟨a, xs, i, v, rfl, rfl, e, e1, k _ _ _ (Go.refl T W.s H) e2 h2⟩
  · rename_i a ns e i
    obtain ⟨d, h1, h2⟩ := hr
    have r : RpAll X.K F W H (ns.map V.int) (ns.map PyData.int) := by
      clear e h1
      induction ns with
      | nil => exact .nil
      | cons n ns ih => exact .cons (.int n) ih
    obtain ⟨v, e1, e2⟩ := atI_rp r h1
    exact .inl ⟨a, _, i, v, rfl, rfl, e.sq, e1, k _ _ _ (Go.refl T W.s H) e2 h2⟩
end

/-! ### expressions -/
def dVar (i : Nat) : DTE := fun ρ P => match ρ[i]? with
  | some (some d) => isMut d = false ∧ P d
  | _ => False
def dC (d : Dt) : DTE := fun _ P => P d
def dOp (r : DR2) (a b : DTE) : DTE := fun ρ P => a ρ fun x => b ρ fun y => r x y P
def dUn (r : Dt → (Dt → Prop) → Prop) (a : DTE) : DTE := fun ρ P => a ρ fun x => r x P
def dChain (r r' : DR2) (a b c : DTE) : DTE := fun ρ P => a ρ fun x => b ρ fun y => r x y fun z => match z with
  | .bool true => c ρ fun w => r' y w P
  | .bool false => P (.bool false)
  | _ => False
def onB (z : Dt) (P : Bool → Prop) : Prop := match z with
  | .bool b => P b
  | _ => False
def dB (a : DTE) : DTT := fun ρ P => a ρ fun z => onB z P
def dAnd (a b : DTT) : DTT := fun ρ P => a ρ fun c => if c = true then b ρ P else P false
def dOr (a b : DTT) : DTT := fun ρ P => a ρ fun c => if c = true then P true else b ρ P
def dNot (a : DTT) : DTT := fun ρ P => a ρ fun c => P (!c)
def dAndV (a b : DTE) : DTE := fun ρ P => a ρ fun z => onB z fun c => if c = true then b ρ P else P (.bool false)
def dOrV (a b : DTE) : DTE := fun ρ P => a ρ fun z => onB z fun c => if c = true then P (.bool true) else b ρ P
def dNotV (a : DTE) : DTE := fun ρ P => a ρ fun z => onB z fun c => P (.bool (!c))
def dIf (t : DTT) (a b : DTE) : DTE := fun ρ P => t ρ fun c => if c = true then a ρ P else b ρ P
def dNil : DTA := fun _ P => P []
def dCons (a : DTE) (b : DTA) : DTA := fun ρ P => a ρ fun x => b ρ fun xs => P (x :: xs)
def dTup (a : DTA) : DTE := fun ρ P => a ρ fun xs => xs.length ≤ line ∧ P (.tuple xs)
def dLst (a : DTA) : DTE := fun ρ P => a ρ fun xs => xs.length ≤ line ∧ P (.list xs)
abbrev DSp := List Dt → (Dt → Prop) → Prop
def dCall (n : Nat) (sp : DSp) (a : DTA) : DTE := fun ρ P => a ρ fun ds => ds.length = n ∧ sp ds P
def dCb (sp : DSp) (a : DTA) : DTE := fun ρ P => a ρ fun ds => sp ds P

section
variable {X : Cx} {F : FAT} {T : List (Addr × Str)} {a b c e : Expr} {ta tb tc t : DTE} {pos p : Pos}
abbrev DE (X : Cx) (F : FAT) (T : List (Addr × Str)) (e : Expr) (t : DTE) : Prop := PE X e (liftE X.K F T t)
abbrev DTs (X : Cx) (F : FAT) (T : List (Addr × Str)) (e : Expr) (t : DTT) : Prop := PT X e (liftT X.K F T t)
abbrev DW (X : Cx) (F : FAT) (T : List (Addr × Str)) (e : Expr) (t : DTT) : Prop := PW X e (liftT X.K F T t)
abbrev DA (X : Cx) (F : FAT) (T : List (Addr × Str)) (e : List Expr) (t : DTA) : Prop := PA X e (liftA X.K F T t)
theorem dVar_get {i : Nat} {ρ : Rho} {P : Dt → Prop} (h : dVar i ρ P) : ∃ d, ρ[i]? = some (some d) ∧ isMut d = false ∧ P d := by
  unfold dVar at h
  split at h
  · rename_i d e; exact ⟨d, e, h⟩
  · exact h.elim
theorem de_var {i : Nat} (h : PE X e (tVar i)) : DE X F T e (dVar i) := PE.cons h fun σ H Q ⟨W, ρ, P, st, h, k⟩ => by
  obtain ⟨d, e, hm, hp⟩ := dVar_get h
  obtain ⟨v, e1, r⟩ := st.env i d e
  exact ⟨v, e1, k v H d (Go.refl T W.s H) (srp_rp r hm) hp⟩
theorem de_c {v : V} {d : Dt} (h : PE X e (tC v)) (r : ∀ W H, Rp X.K F W H v d) : DE X F T e (dC d) := PE.cons h fun σ H Q ⟨W, ρ, P, st, h, k⟩ => k v H d (Go.refl T W.s H) (r W H) h
theorem de_int {i : Int} {j : Nat} : DE X F T (.Constant (.int i) j pos) (dC (.int i)) := de_c pe_int fun _ _ => .int i
theorem de_bl {i : Bool} {j : Nat} : DE X F T (.Constant (.bool i) j pos) (dC (.bool i)) := de_c pe_bl fun _ _ => .bl i
theorem de_non {j : Nat} : DE X F T (.Constant .none j pos) (dC .none) := de_c pe_non fun _ _ => .non
theorem de_str {x : Str} {j : Nat} : DE X F T (.Constant (.str x) j pos) (dC (.str x)) := de_c pe_str fun _ _ => .str x
theorem lift_op {r : DR2} {K : PySem.W.Frag} {σ : L2.St} {H : Hp} {Q : VK} (h : liftE K F T (dOp r ta tb) σ H Q) : tOp (lift2 K F T r) (liftE K F T ta) (liftE K F T tb) σ H Q := by
  obtain ⟨W, ρ, P, st, h, k⟩ := h
  refine ⟨W, ρ, _, st, h, fun x H1 d g r1 q => ⟨W, ρ, _, st.go g, q, fun y H2 d2 g2 r2 q2 => ?_⟩⟩
  exact ⟨W, d, d2, P, ((st.go g).go g2).bare, (st.go g).rp g2 r1, r2, q2, fun v H3 d3 g3 r3 q3 => k v H3 d3 ((g.trans g2).trans g3) r3 q3⟩
theorem de_op {op : Operator} {r : DR2} (ho : OpR X (binaryOp op) (lift2 X.K F T r)) (ha : DE X F T a ta) (hb : DE X F T b tb) : DE X F T (.BinOp a op b pos) (dOp r ta tb) :=
  PE.cons (pe_op ho ha hb) fun _ _ _ h => lift_op h
theorem de_cmp {op : CmpOp} {r : DR2} (ho : OpR X (compareOp op) (lift2 X.K F T r)) (ha : DE X F T a ta) (hb : DE X F T b tb) (hm : behindInMarks op b = false := by first | exact nomark _ | rfl) : DE X F T (.Compare a [op] [b] pos) (dOp r ta tb) :=
  PE.cons (pe_cmpR ho ha hb hm) fun _ _ _ h => lift_op h
theorem de_ix (ha : DE X F T a ta) (hb : DE X F T b tb) (hs : PlainIx b := by exact fun _ _ => rfl) : DE X F T (.Subscript a b pos) (dOp rIx ta tb) :=
  PE.cons (pe_ix xd_ix ha hb hs) fun _ _ _ h => lift_op h
theorem de_un {op : UnaryOp} {r : Dt → (Dt → Prop) → Prop} (ho : UnR X (unaryOp op) (lift1 X.K F T r)) (ha : DE X F T a ta) : DE X F T (.UnaryOp op a pos) (dUn r ta) :=
  PE.cons (pe_un ho ha) fun σ H Q ⟨W, ρ, P, st, h, k⟩ => ⟨W, ρ, _, st, h, fun x H1 d g r1 q => ⟨W, d, P, (st.go g).bare, r1, q, fun v H3 d3 g3 r3 q3 => k v H3 d3 (g.trans g3) r3 q3⟩⟩
theorem onB_get {z : Dt} {P : Bool → Prop} (h : onB z P) : ∃ b, z = .bool b ∧ P b := by
  unfold onB at h
  split at h
  · exact ⟨_, rfl, h⟩
  · exact h.elim
theorem rp_bool {K : PySem.W.Frag} {W : Md} {H : Hp} {v : V} {k : Bool} (h : Rp K F W H v (.bool k)) : v = .bl k := by cases h; rfl
theorem lift_b {K : PySem.W.Frag} {σ : L2.St} {H : Hp} {Q : Bool → Hp → Prop} (h : liftT K F T (dB ta) σ H Q) : liftE K F T ta σ H fun x H' => ∃ k, x = .bl k ∧ Q k H' := by
  obtain ⟨W, ρ, P, st, h, k⟩ := h
  refine ⟨W, ρ, _, st, h, fun x H1 d g r1 q => ?_⟩
  obtain ⟨b, rfl, hb⟩ := onB_get q
  exact ⟨b, rp_bool r1, k b H1 g hb⟩
theorem dt_val (ha : DE X F T e t) (he : ∀ whole, isTrue e X.env whole = (do let v ← whole; standAt e.pos; holding [v] (truthy v)) := by intro _; rfl) : DTs X F T e (dB t) := PT.cons (pt_val ha he) fun σ H Q h => lift_b h
theorem dt_cmp {op : CmpOp} {r : DR2} (ho : OpR X (compareOp op) (lift2 X.K F T r)) (ha : DE X F T a ta) (hb : DE X F T b tb) (hm : behindInMarks op b = false := by first | exact nomark _ | rfl) : DTs X F T (.Compare a [op] [b] pos) (dB (dOp r ta tb)) :=
  PT.cons (pt_cmpR ho ha hb hm) fun σ H Q h => lift_op (F := F) (T := T) (by
    obtain ⟨W, ρ, P, st, h, k⟩ := h
    refine ⟨W, ρ, _, st, h, fun x H1 d g r1 q => ?_⟩
    obtain ⟨b, rfl, hb⟩ := onB_get q
    exact ⟨b, rp_bool r1, k b H1 g hb⟩)
theorem de_chain {op op' : CmpOp} {r r' : DR2} (ho : OpR X (compareOp op) (lift2 X.K F T r)) (ho' : OpR X (compareOp op') (lift2 X.K F T r')) (ha : DE X F T a ta) (hb : DE X F T b tb) (hc : DE X F T c tc)
    (hm : lastMarks [op, op'] [b, c] = false := by with_unfolding_all rfl) : DE X F T (.Compare a [op, op'] [b, c] pos) (dChain r r' ta tb tc) := PE.cons (pe_chain ho ho' ha hb hc hm) fun σ H Q ⟨W, ρ, P, st, h, k⟩ => by
  refine ⟨W, ρ, _, st, h, fun x H1 d g r1 q => ⟨W, ρ, _, st.go g, q, fun y H2 d2 g2 r2 q2 => ⟨W, d, d2, _, ((st.go g).go g2).bare, (st.go g).rp g2 r1, r2, q2, fun z H3 d3 g3 r3 q3 => ?_⟩⟩⟩
  split at q3
  · refine ⟨true, rp_bool r3, ?_⟩
    rw [if_pos rfl]
    refine ⟨W, ρ, _, ((st.go g).go g2).go g3, q3, fun w H4 d4 g4 r4 q4 => ⟨W, d2, d4, P, ((((st.go g).go g2).go g3).go g4).bare, (((st.go g).go g2).go g3).rp g4 (((st.go g).go g2).rp g3 r2), r4, q4, fun v H5 d5 g5 r5 q5 => k v H5 d5 ((((g.trans g2).trans g3).trans g4).trans g5) r5 q5⟩⟩
  · refine ⟨false, rp_bool r3, ?_⟩
    rw [if_neg Bool.false_ne_true]
    exact k _ _ _ ((g.trans g2).trans g3) (.bl false) q3
  · exact q3.elim
variable {u w : DTT} {rest : List Expr}
theorem lift_and {K : PySem.W.Frag} {σ : L2.St} {H : Hp} {Q : Bool → Hp → Prop} (h : liftT K F T (dAnd u w) σ H Q) : tAnd (liftT K F T u) (liftT K F T w) σ H Q := by
  obtain ⟨W, ρ, P, st, h, k⟩ := h
  refine ⟨W, ρ, _, st, h, fun c H1 g q => ?_⟩
  cases c with
  | true => exact ⟨W, ρ, P, st.go g, q, fun b H2 g2 q2 => k b H2 (g.trans g2) q2⟩
  | false => exact k false H1 g q
theorem lift_or {K : PySem.W.Frag} {σ : L2.St} {H : Hp} {Q : Bool → Hp → Prop} (h : liftT K F T (dOr u w) σ H Q) : tOr (liftT K F T u) (liftT K F T w) σ H Q := by
  obtain ⟨W, ρ, P, st, h, k⟩ := h
  refine ⟨W, ρ, _, st, h, fun c H1 g q => ?_⟩
  cases c with
  | true => exact k true H1 g q
  | false => exact ⟨W, ρ, P, st.go g, q, fun b H2 g2 q2 => k b H2 (g.trans g2) q2⟩
theorem dw_and1 (ha : DTs X F T a u) : DW X F T (.BoolOp .And [a] pos) u := pw_and1 ha
theorem dw_or1 (ha : DTs X F T a u) : DW X F T (.BoolOp .Or [a] pos) u := pw_or1 ha
theorem dw_and (ha : DTs X F T a u) (hb : DW X F T (.BoolOp .And (b :: rest) pos) w) : DW X F T (.BoolOp .And (a :: b :: rest) pos) (dAnd u w) := PW.cons (pw_and ha hb) fun _ _ _ h => lift_and h
theorem dw_or (ha : DTs X F T a u) (hb : DW X F T (.BoolOp .Or (b :: rest) pos) w) : DW X F T (.BoolOp .Or (a :: b :: rest) pos) (dOr u w) := PW.cons (pw_or ha hb) fun _ _ _ h => lift_or h
theorem dw_pt (h : DW X F T e u) : DTs X F T e u := h.pt
theorem dt_not (ha : DTs X F T a u) : DTs X F T (.UnaryOp .Not a pos) (dNot u) := PT.cons (pt_not ha) fun σ H Q ⟨W, ρ, P, st, h, k⟩ => ⟨W, ρ, _, st, h, fun c H1 g q => k (!c) H1 g q⟩
theorem de_one {op : BoolOp} (h : DE X F T a t) : DE X F T (.BoolOp op [a] pos) t := pe_one h
theorem de_and (ha : DE X F T a ta) (hb : DE X F T (.BoolOp .And (b :: rest) pos) tb) : DE X F T (.BoolOp .And (a :: b :: rest) pos) (dAndV ta tb) := PE.cons (pe_and ha hb) fun σ H Q ⟨W, ρ, P, st, h, k⟩ => by
  refine ⟨W, ρ, _, st, h, fun x H1 d g r1 q => ?_⟩
  obtain ⟨c, rfl, hb⟩ := onB_get q
  refine ⟨c, rp_bool r1, ?_⟩
  cases c with
  | true => exact ⟨W, ρ, P, st.go g, hb, fun v H2 d2 g2 r2 q2 => k v H2 d2 (g.trans g2) r2 q2⟩
  | false => exact k _ _ _ g (.bl false) hb
theorem de_or (ha : DE X F T a ta) (hb : DE X F T (.BoolOp .Or (b :: rest) pos) tb) : DE X F T (.BoolOp .Or (a :: b :: rest) pos) (dOrV ta tb) := PE.cons (pe_or ha hb) fun σ H Q ⟨W, ρ, P, st, h, k⟩ => by
  refine ⟨W, ρ, _, st, h, fun x H1 d g r1 q => ?_⟩
  obtain ⟨c, rfl, hb⟩ := onB_get q
  refine ⟨c, rp_bool r1, ?_⟩
  cases c with
  | true => exact k _ _ _ g (.bl true) hb
  | false => exact ⟨W, ρ, P, st.go g, hb, fun v H2 d2 g2 r2 q2 => k v H2 d2 (g.trans g2) r2 q2⟩
theorem de_not (ha : DE X F T a ta) : DE X F T (.UnaryOp .Not a pos) (dNotV ta) := PE.cons (pe_not ha) fun σ H Q ⟨W, ρ, P, st, h, k⟩ => by
  refine ⟨W, ρ, _, st, h, fun x H1 d g r1 q => ?_⟩
  obtain ⟨c, rfl, hb⟩ := onB_get q
  exact ⟨c, rp_bool r1, k _ _ _ g (.bl _) hb⟩
theorem de_if (hc : DTs X F T c u) (ha : DE X F T a ta) (hb : DE X F T b tb) : DE X F T (.IfExp c a b pos) (dIf u ta tb) := PE.cons (pe_ifExp hc ha hb) fun σ H Q ⟨W, ρ, P, st, h, k⟩ => by
  refine ⟨W, ρ, _, st, h, fun c H1 g q => ?_⟩
  cases c with
  | true => exact ⟨W, ρ, P, st.go g, q, fun v H2 d2 g2 r2 q2 => k v H2 d2 (g.trans g2) r2 q2⟩
  | false => exact ⟨W, ρ, P, st.go g, q, fun v H2 d2 g2 r2 q2 => k v H2 d2 (g.trans g2) r2 q2⟩
variable {es : List Expr} {da : DTA}
theorem da_nil : DA X F T [] dNil := PA.cons pa_nil fun σ H Q ⟨W, ρ, P, st, h, k⟩ => k [] H [] (Go.refl T W.s H) .nil h
theorem da_cons (ha : DE X F T e t) (hr : DA X F T es da) (hs : starEach (e :: es) X.env = (false, eval e X.env) :: starEach es X.env := by rfl) : DA X F T (e :: es) (dCons t da) := PA.cons (pa_cons ha hr hs) fun σ H Q ⟨W, ρ, P, st, h, k⟩ =>
  ⟨W, ρ, _, st, h, fun x H1 d g r1 q => ⟨W, ρ, _, st.go g, q, fun xs H2 ds g2 r2 q2 => k (x :: xs) H2 (d :: ds) (g.trans g2) (.cons (st.go g |>.rp g2 r1) r2) q2⟩⟩
theorem de_tup {x1 : Nat} (h : DA X F T es da) : DE X F T (.Tuple es x1 pos) (dTup da) := PE.cons (pe_tup h) fun σ H Q ⟨W, ρ, P, st, h, k⟩ =>
  ⟨W, ρ, _, st, h, fun xs H1 ds g r q => ⟨by rw [r.len]; exact Nat.le_trans q.1 line_le, fun p hp => k (.ref p) _ _ (g.trans (Go.new hp)) (.tup (SqT.of upd_same) ((st.go g).rps (Go.new hp) r)) q.2⟩⟩
theorem de_lst (h : DA X F T es da) : DE X F T (.List es pos) (dLst da) := PE.cons (pe_lst h) fun σ H Q ⟨W, ρ, P, st, h, k⟩ =>
  ⟨W, ρ, _, st, h, fun xs H1 ds g r q => ⟨by rw [r.len]; exact Nat.le_trans q.1 line_le, fun p hp => k (.ref p) _ _ (g.trans (Go.new hp)) (.lst ((st.go g).free hp) upd_same ((st.go g).rps (Go.new hp) r)) q.2⟩⟩
/-- a promise over data -/
def spD (K : PySem.W.Frag) (F : FAT) (T : List (Addr × Str)) (n : Nat) (sp : DSp) : Sp := fun vs H Q _ => vs.length = n ∧ liftC K F T sp vs H Q
theorem lift_callN {K : PySem.W.Frag} {σ : L2.St} {H : Hp} {Q : VK} {sp : DSp} {n : Nat} (h : liftE K F T (dCall n sp da) σ H Q) : tCall (spD K F T n sp) [] E0 (liftA K F T da) σ H Q := by
  obtain ⟨W, ρ, P, st, h, k⟩ := h
  refine ⟨W, ρ, _, st, h, fun vs H1 ds g r q => ?_⟩
  show spD K F T n sp (vs ++ []) H1 Q E0
  rw [List.append_nil]
  exact ⟨by rw [r.len]; exact q.1, W, ds, P, (st.go g).bare, r, q.2, fun v H2 d g2 r2 q2 => k v H2 d (g.trans g2) r2 q2⟩
theorem lift_cb {K : PySem.W.Frag} {σ : L2.St} {H : Hp} {Q : VK} {sp : DSp} (h : liftE K F T (dCb sp da) σ H Q) : tCB (liftC K F T sp) (liftA K F T da) σ H Q := by
  obtain ⟨W, ρ, P, st, h, k⟩ := h
  exact ⟨W, ρ, _, st, h, fun vs H1 ds g r q => ⟨W, ds, P, (st.go g).bare, r, q, fun v H2 d g2 r2 q2 => k v H2 d (g.trans g2) r2 q2⟩⟩
theorem de_call {k n : Nat} {f : Addr} {fd : FuncData} {ps : List Str} {sp : DSp} {x : Str} (G : FnOk X.prog X.w X.K X.mg X.base CX0 k f fd ps (spD X.K F T n sp)) (hr : Room k X.A) (hg : Gl X x) (hm : X.mg x = some (.ref f)) (hk : PySem.W.keepIn X.K (.ref f) = true) (hb : Binds X.K fd ps [])
    (ha : DA X F T (e :: es) da) (hdb : (x == ("__debug__" : Str)) = false := by decide) (he : starEach (e :: es) X.env = (false, eval e X.env) :: starEach es X.env := by rfl) (hpl : (backTo pos (starEach es X.env)).any (·.1) = false := by rfl) :
    DE X F T (.Call (.Name x p) (e :: es) [] pos) (dCall n sp da) := PE.cons (pe_call (E := E0) G hr hg hm hk hb .nil pass0 ha hdb he hpl) fun _ _ _ h => lift_callN h
theorem de_blt {id : String} {sp : DSp} {x : Str} (hc : CallR X (.builtin id) (liftC X.K F T sp)) (hg : Gl X x) (hm : X.mg x = none) (hv : bootBuiltins x = some (.builtin id)) (ha : DA X F T (e :: es) da) (hn : x ≠ "__name__" := by decide) (hdb : (x == ("__debug__" : Str)) = false := by decide)
    (he : starEach (e :: es) X.env = (false, eval e X.env) :: starEach es X.env := by rfl) (hpl : (backTo pos (starEach es X.env)).any (·.1) = false := by rfl) : DE X F T (.Call (.Name x p) (e :: es) [] pos) (dCb sp da) :=
  PE.cons (pe_callB hc hg hm hv ha hn hdb he hpl) fun _ _ _ h => lift_cb h
theorem de_bty {id : String} {sp : DSp} {x : Str} (hc : CallR X (.type id) (liftC X.K F T sp)) (hg : Gl X x) (hm : X.mg x = none) (hv : bootBuiltins x = some (.type id)) (ha : DA X F T (e :: es) da) (hn : x ≠ "__name__" := by decide) (hdb : (x == ("__debug__" : Str)) = false := by decide)
    (he : starEach (e :: es) X.env = (false, eval e X.env) :: starEach es X.env := by rfl) (hpl : (backTo pos (starEach es X.env)).any (·.1) = false := by rfl) : DE X F T (.Call (.Name x p) (e :: es) [] pos) (dCb sp da) :=
  PE.cons (pe_callTy hc hg hm hv ha hn hdb he hpl) fun _ _ _ h => lift_cb h
end
end DL
/-! Slices, targets, statements over data. -/
namespace DL
open PySem PySem.Spec PyProof.Rows L2 LamX
/-! ### slices -/
abbrev DTO := Rho → (Option Int → Prop) → Prop
def cutL {α : Type} (xs : List α) (lo hi : Option Int) : List α := (xs.drop (HT.sIx xs.length 0 lo)).take (HT.sIx xs.length xs.length hi - HT.sIx xs.length 0 lo)
def cutD (x : Dt) (lo hi : Option Int) (P : Dt → Prop) : Prop := match x with
  | .tuple xs => P (.tuple (cutL xs lo hi))
  | .list xs => P (.list (cutL xs lo hi))
  | _ => False
def dNo : DTO := fun _ P => P none
def onI (z : Dt) (P : Int → Prop) : Prop := match z with
  | .int i => P i
  | _ => False
def dPart (a : DTE) : DTO := fun ρ P => a ρ fun z => onI z fun i => P (some i)
def dSl (a : DTE) (lo hi : DTO) : DTE := fun ρ P => a ρ fun x => lo ρ fun l => hi ρ fun h => cutD x l h P
theorem onI_get {z : Dt} {P : Int → Prop} (h : onI z P) : ∃ b, z = .int b ∧ P b := by
  unfold onI at h
  split at h
  · exact ⟨_, rfl, h⟩
  · exact h.elim
section
variable {X : Cx} {F : FAT} {T : List (Addr × Str)} {e : Expr} {t : DTE} {lo hi : Option Expr} {tl th : DTO} {pos p2 : Pos}
def liftO (K : PySem.W.Frag) (F : FAT) (T : List (Addr × Str)) (t : DTO) : TO := fun σ H Q => ∃ (W : Md) (ρ : Rho) (P : Option Int → Prop), Stt K F T W σ ρ H ∧ t ρ P ∧ ∀ o H', Go T W.s H H' → P o → Q o H'
def liftSl (K : PySem.W.Frag) (F : FAT) (T : List (Addr × Str)) : V → Option Int → Option Int → Hp → VK → Prop := fun x lo hi H Q => ∃ (W : Md) (d : Dt) (P : Dt → Prop), Stt K F T W [] [] H ∧ Rp K F W H x d ∧ cutD d lo hi P ∧ ∀ v H' d, Go T W.s H H' → Rp K F W H' v d → P d → Q v H'
abbrev DO (X : Cx) (F : FAT) (T : List (Addr × Str)) (e : Option Expr) (t : DTO) : Prop := PO X e (liftO X.K F T t)
theorem PO.cons {e : Option Expr} {t t' : TO} (h : PO X e t) (w : ∀ σ H Q, t' σ H Q → t σ H Q) : PO X e t' := ⟨fun pins s σ H Q I q => h.run pins s σ H Q I (w σ H Q q)⟩
theorem do_none : DO X F T none dNo := PO.cons po_none fun σ H Q ⟨W, ρ, P, st, h, k⟩ => k none H (Go.refl T W.s H) h
theorem rp_int {K : PySem.W.Frag} {W : Md} {H : Hp} {v : V} {k : Int} (h : Rp K F W H v (.int k)) : v = .int k := by cases h; rfl
theorem do_some (h : DE X F T e t) : DO X F T (some e) (dPart t) := PO.cons (po_some h) fun σ H Q ⟨W, ρ, P, st, h, k⟩ =>
  ⟨W, ρ, _, st, h, fun x H1 d g r1 q => by
    obtain ⟨i, rfl, hp⟩ := onI_get q
    exact ⟨i, rp_int r1, k (some i) H1 g hp⟩⟩
theorem RpAll.cut {K : PySem.W.Frag} {W : Md} {H : Hp} {vs : List V} {ds : List Dt} (r : RpAll K F W H vs ds) (lo hi : Option Int) : RpAll K F W H (cutV vs lo hi) (cutL ds lo hi) := by
  unfold cutV cutL
  rw [r.len]
  exact (r.drop _).take _
theorem sl_data : SlR X (liftSl X.K F T) := by
  have h2 : SlR X (fun x lo hi H Q => rSlL X.K x lo hi H Q ∨ rSlA X.K x lo hi H Q) := SlR.or sl_list sl_tupA
  refine SlR.cons h2 fun x lo hi H Q h => ?_
  obtain ⟨W, d, P, st, hx, hr, k⟩ := h
  cases hx <;> try (exact False.elim hr)
  · rename_i a xs ds m e r
    exact .inl ⟨a, xs, rfl, SqL.of e, fun p hp => k _ _ _ (Go.new hp) (.lst (st.free hp) upd_same (st.rps (Go.new hp) (r.cut lo hi))) hr⟩
  · rename_i a xs ds e r
    refine .inr ⟨a, xs, rfl, e, fun hw => ?_, fun _ p hp => k _ _ _ (Go.new hp) (.tup (SqT.of upd_same) (st.rps (Go.new hp) (r.cut lo hi))) hr⟩
    have e1 : cutL ds lo hi = ds := by
      rw [r.len] at hw
      unfold cutL
      rw [hw.1, hw.2, List.drop_zero, Nat.sub_zero, List.take_length]
    have hr' : P (.tuple (cutL ds lo hi)) := hr
    rw [e1] at hr'
    exact k _ _ _ (Go.refl T W.s H) (.tup e r) hr'
theorem de_slice (he : DE X F T e t) (hl : DO X F T lo tl) (hu : DO X F T hi th) : DE X F T (.Subscript e (.Slice lo hi none p2) pos) (dSl t tl th) := PE.cons (pe_slice sl_data he hl hu) fun σ H Q ⟨W, ρ, P, st, h, k⟩ =>
  ⟨W, ρ, _, st, h, fun x H1 d g r1 q => ⟨W, ρ, _, st.go g, q, fun l H2 g2 q2 => ⟨W, ρ, _, (st.go g).go g2, q2, fun u H3 g3 q3 => ⟨W, d, P, (((st.go g).go g2).go g3).bare, ((st.go g).go g2).rp g3 ((st.go g).rp g2 r1), q3, fun v H4 d4 g4 r4 q4 => k v H4 d4 (((g.trans g2).trans g3).trans g4) r4 q4⟩⟩⟩⟩
end

/-! ### targets -/
theorem wipe_get {σ : L2.St} : ∀ {vs : List Nat} {i : Nat}, (wipe σ vs)[i]? = if i ∈ vs ∧ i < σ.length then some none else σ[i]?
  | [], i => by simp [wipe]
  | v :: vs, i => by
    unfold wipe
    by_cases h : v = i
    · subst h
      by_cases hl : v < σ.length
      · rw [List.getElem?_set_self (by rw [wipe_length]; exact hl)]
        simp [hl]
      · rw [List.getElem?_eq_none (by rw [List.length_set, wipe_length]; omega)]
        rw [if_neg (fun z => hl z.2), List.getElem?_eq_none (by omega)]
    · rw [List.getElem?_set_ne h, wipe_get]
      simp [Ne.symm h]
theorem wipe_set {σ : L2.St} {vs : List Nat} {i : Nat} {x : Option V} (h : i ∈ vs) : wipe (σ.set i x) vs = wipe σ vs := by
  apply List.ext_getElem?
  intro j
  rw [wipe_get, wipe_get, List.length_set]
  by_cases hj : j ∈ vs ∧ j < σ.length
  · rw [if_pos hj, if_pos hj]
  · rw [if_neg hj, if_neg hj]
    by_cases e : i = j
    · subst e
      have : ¬ i < σ.length := fun z => hj ⟨h, z⟩
      rw [List.getElem?_eq_none (by rw [List.length_set]; omega), List.getElem?_eq_none (by omega)]
    · rw [List.getElem?_set_ne e]
theorem rp_notmut {K : PySem.W.Frag} {F : FAT} {W : Md} {H : Hp} {v : V} {d : Dt} (h : Rp K F W H v d) : isMut d = false := by cases h <;> rfl
theorem srp_of {K : PySem.W.Frag} {F : FAT} {W : Md} {H : Hp} {v : V} {d : Dt} (h : Rp K F W H v d) : SRp K F W H v d := by
  have h' := h
  cases h <;> exact h'
def gN (i : Nat) : DTG := fun d ρ P => P (ρ.set i (some d))
def gNilD : DTGs := fun ds ρ P => ds = [] ∧ P ρ
def gConsD (t : DTG) (u : DTGs) : DTGs := fun ds ρ P => match ds with
  | d :: r => t d ρ fun ρ' => u r ρ' P
  | [] => False
def gTupD (n : Nat) (t : DTGs) : DTG := fun d ρ P => match d with
  | .tuple ds => ds.length = n ∧ t ds ρ P
  | _ => False
section
variable {X : Cx} {F : FAT} {T : List (Addr × Str)} {vs : List Nat} {pos : Pos}
abbrev DG (X : Cx) (F : FAT) (T : List (Addr × Str)) (vs : List Nat) (e : Expr) (t : DTG) : Prop := PG X e (liftG X.K F T vs t)
abbrev DGs (X : Cx) (F : FAT) (T : List (Addr × Str)) (vs : List Nat) (e : List Expr) (t : DTGs) : Prop := PGs X e (liftGs X.K F T vs t)
theorem dg_name {i : Nat} {x : Str} (hN : X.N.Nodup) (hi : X.N[i]? = some x) (hx : Loc X.env.scope x) (hv : i ∈ vs) (hf : X.fn x = true ∨ X.env.scope.names.lookup x = some .local := by first | exact .inl rfl | exact .inr rfl | assumption) : DG X F T vs (.Name x pos) (gN i) :=
  PG.cons (pg_name hN hi hx hf) fun v σ H Q ⟨W, ρ, d, P, st, r, h, k⟩ => k _ _ H (wipe_set hv) (Go.refl T W.s H) (st.set (srp_of r) (rp_notmut r)) h
theorem dgs_nil : DGs X F T vs [] gNilD := PGs.cons pgs_nil fun v σ H Q ⟨W, ρ, ds, P, st, r, h, k⟩ => by
  obtain ⟨rfl, h⟩ := h
  cases r
  exact ⟨rfl, k σ ρ H rfl (Go.refl T W.s H) st h⟩
theorem dgs_cons {e : Expr} {es : List Expr} {t : DTG} {u : DTGs} (h1 : DG X F T vs e t) (h2 : DGs X F T vs es u)
    (hs : (assignEach (e :: es) X.env).map (·.2) = assign e X.env :: (assignEach es X.env).map (·.2) := by rfl) : DGs X F T vs (e :: es) (gConsD t u) := PGs.cons (pgs_cons h1 h2 hs) fun xs σ H Q ⟨W, ρ, ds, P, st, r, h, k⟩ => by
  cases r with
  | nil => exact h.elim
  | cons a b =>
    exact ⟨_, _, rfl, W, ρ, _, _, st, a, h, fun σ' ρ' H' w g st' q => ⟨W, ρ', _, P, st', st.rps g b, q, fun σ2 ρ2 H2 w2 g2 st2 q2 => k σ2 ρ2 H2 (w2.trans w) (g.trans g2) st2 q2⟩⟩
theorem dg_tup {es : List Expr} {k : Nat} {t : DTGs} {n : Nat} (hc : X.calm = true) (h : DGs X F T vs es t)
    (hn : (assignEach es X.env).length = n := by rfl) (hst : (assignEach es X.env).findIdx? (·.1) = none := by rfl) : DG X F T vs (.Tuple es k pos) (gTupD n t) := PG.cons (pg_tup hc h hn hst) fun v σ H Q ⟨W, ρ, d, P, st, r, h, k⟩ => by
  cases r with
  | tup e r => exact ⟨_, _, rfl, e, by rw [r.len]; exact h.1, W, ρ, _, P, st, r, h.2, k⟩
  | _ => exact False.elim h
end

/-! ### statements -/
def dNext : DTS := fun D ρ => D.nx ρ
def dNever : DTS := fun _ _ => False
def dSeq (t u : DTS) : DTS := fun D ρ => t { D with nx := u D } ρ
def dDrop (t : DTE) : DTS := fun D ρ => t ρ fun _ => D.nx ρ
def dRet (t : DTE) : DTS := fun D ρ => t (thawR ρ) D.rt
def dIfS (c : DTT) (t u : DTS) : DTS := fun D ρ => c ρ fun b => if b = true then t D ρ else u D ρ
def dAsg (t : DTE) (g : DTG) : DTS := fun D ρ => t ρ fun d => g d ρ D.nx
def dPar (i j : Nat) (t : DTA) : DTS := fun D ρ => t ρ fun ds => match ds with
  | [d, e] => D.nx ((ρ.set i (some d)).set j (some e))
  | _ => False
section
variable {K : PySem.W.Frag} {F : FAT} {T : List (Addr × Str)} {W : Md} {σ : L2.St} {ρ : Rho} {H H' : Hp}
theorem Stt.leaves (h : Stt K F T W σ ρ H) {W' : Md} (hs : W'.s = W.s) (hm : ∀ b, W.o b → W'.m b) {v : V} {d : Dt} (r : Rp K F W' H v d) : Rp K F W.leave H v d :=
  Rp.cells h.hF (fun b z => .inl (hm b z)) (fun b z => by rw [hs] at z; exact z) (fun _ _ z => z) (fun _ _ z _ _ => z) (fun _ _ z _ => z) d v r
theorem thaw_get {i : Nat} {d : Dt} (h : (thawR ρ)[i]? = some (some d)) : ∃ e, ρ[i]? = some (some e) ∧ d = thaw e := by
  unfold thawR at h
  rw [List.getElem?_map] at h
  cases q : ρ[i]? with
  | none => rw [q] at h; cases h
  | some o =>
    rw [q] at h
    cases o with
    | none => cases h
    | some e => exact ⟨e, rfl, (Option.some.inj (Option.some.inj h)).symm⟩
/-- the cells of the slots at hand -/
def slotCell (σ : L2.St) (ρ : Rho) (b : Addr) : Prop := ∃ (i : Nat) (d : Dt), ρ[i]? = some (some d) ∧ isMut d = true ∧ σ[i]? = some (some (.ref b))
def Md.thawed (W : Md) (σ : L2.St) (ρ : Rho) : Md := ⟨fun b => W.m b ∧ ¬ (slotCell σ ρ b ∧ ¬ W.o b), W.s, W.o⟩
theorem thaw_not (d : Dt) : isMut (thaw d) = false := by
  unfold thaw
  split
  · rfl
  · rfl
  · rename_i h1 h2
    unfold isMut
    split
    · rename_i ds; exact absurd rfl (h1 ds)
    · rename_i ds; exact absurd rfl (h2 ds)
    · rfl
/-- its own lengthened lists read as lists -/
theorem Stt.thaw (h : Stt K F T W σ ρ H) : Stt K F T (W.thawed σ ρ) σ (thawR ρ) H := by
  refine ⟨by unfold thawR; rw [List.length_map]; exact h.len, fun i d e => ?_, fun i j d e hn q1 q2 m1 m2 => ?_, fun b z => h.mok b z.1, h.so, fun b z => ⟨h.om b z, fun q => q.2 z⟩, h.tabs, h.hF⟩
  · obtain ⟨e0, q, rfl⟩ := thaw_get e
    obtain ⟨v, e1, r⟩ := h.env i e0 q
    refine ⟨v, e1, srp_of ?_⟩
    have wk : ∀ {v : V} {d : Dt}, Rp K F W H v d → Rp K F (W.thawed σ ρ) H v d := fun {v d} z => Rp.cells (W := W) (W' := W.thawed σ ρ) h.hF (fun b z => .inl z.1) (fun _ z => z) (fun _ _ z => z) (fun _ _ z _ _ => z) (fun _ _ z _ => z) d v z
    have wka : ∀ {v : List V} {d : List Dt}, RpAll K F W H v d → RpAll K F (W.thawed σ ρ) H v d := fun {v d} z => RpAll.cells (W := W) (W' := W.thawed σ ρ) h.hF (fun b z => .inl z.1) (fun _ z => z) (fun _ _ z => z) (fun _ _ z _ _ => z) (fun _ _ z _ => z) d v z
    unfold SRp at r
    split at r
    · rename_i ds
      obtain ⟨a, xs, rfl, m, no, e2, r⟩ := r
      exact .lst (fun z => z.2 ⟨⟨i, _, q, rfl, e1⟩, no⟩) e2 (wka r)
    · rename_i ds
      obtain ⟨a, xs, l, rfl, rfl, m, no, e2, r⟩ := r
      exact .dic (fun z => z.2 ⟨⟨i, _, q, rfl, e1⟩, no⟩) e2 r
    · rename_i d0 h1 h2
      have e3 : DL.thaw e0 = e0 := by
        unfold DL.thaw
        split
        · rename_i ds; exact absurd rfl (h1 ds)
        · rename_i ds; exact absurd rfl (h2 ds)
        · rfl
      rw [e3]
      exact wk r
  · obtain ⟨d0, _, rfl⟩ := thaw_get q1
    rw [thaw_not] at m1
    cases m1
end
section
variable {X : Cx} {F : FAT} {T : List (Addr × Str)} {st : Stmt} {rest : List Stmt} {t u : DTS} {e : Expr} {te : DTE} {pos : Pos}
abbrev DS (X : Cx) (F : FAT) (T : List (Addr × Str)) (st : Stmt) (t : DTS) : Prop := PS X st (liftS X.K F T t)
abbrev DSs (X : Cx) (F : FAT) (T : List (Addr × Str)) (st : List Stmt) (t : DTS) : Prop := PSs X st (liftS X.K F T t)
theorem dss_nil : DSs X F T [] dNext := PSs.cons pss_nil fun D σ H ⟨Φ, W, ρ, P, iv, hΦ, st, h, kn, kr, kb, kc⟩ => kn W σ ρ H rfl rfl hΦ st h
theorem ds_pass : DS X F T (.Pass pos) dNext := PS.cons ps_pass fun D σ H ⟨Φ, W, ρ, P, iv, hΦ, st, h, kn, kr, kb, kc⟩ => kn W σ ρ H rfl rfl hΦ st h
theorem dss_cons (h1 : DS X F T st t) (h2 : DSs X F T rest u) : DSs X F T (st :: rest) (dSeq t u) := PSs.cons (pss_cons h1 h2) fun D σ H ⟨Φ, W, ρ, P, iv, hΦ, st, h, kn, kr, kb, kc⟩ =>
  ⟨Φ, W, ρ, _, iv, hΦ, st, h, fun W' σ' ρ' H' es eo hΦ' st' q => ⟨Φ, W', ρ', P, iv, hΦ', st', q, fun W2 σ2 ρ2 H2 es2 eo2 => kn W2 σ2 ρ2 H2 (es2.trans es) (eo2.trans eo),
    fun W2 v H2 d es2 eo2 z1 z2 z3 => kr W2 v H2 d (es2.trans es) (eo2.trans eo) z1 (by unfold Md.leave at z2 ⊢; rw [es, eo] at z2; exact z2) z3, fun W2 σ2 ρ2 H2 es2 eo2 => kb W2 σ2 ρ2 H2 (es2.trans es) (eo2.trans eo), fun W2 σ2 ρ2 H2 es2 eo2 => kc W2 σ2 ρ2 H2 (es2.trans es) (eo2.trans eo)⟩, kr, kb, kc⟩
theorem dss_one (h1 : DS X F T st t) : DSs X F T [st] t := pss_one h1
theorem ds_never : DS X F T st dNever := PS.cons ps_never fun D σ H ⟨Φ, W, ρ, P, iv, hΦ, st, h, _⟩ => h.elim
theorem dss_never {sts : List Stmt} : DSs X F T sts dNever := PSs.cons pss_never fun D σ H ⟨Φ, W, ρ, P, iv, hΦ, st, h, _⟩ => h.elim
theorem ds_expr (he : DE X F T e te) (hs : swapsWith e none pos.line X.env = pure false := by rfl) : DS X F T (.Expr e pos) (dDrop te) := PS.cons (ps_expr he hs) fun D σ H ⟨Φ, W, ρ, P, iv, hΦ, st, h, kn, kr, kb, kc⟩ =>
  ⟨W, ρ, _, st, h, fun v H1 d g r q => kn W σ ρ H1 rfl rfl (iv.go _ _ _ hΦ g) (st.go g) q⟩
theorem ds_ret (he : DE X F T e te) : DS X F T (.Return (some e) pos) (dRet te) := PS.cons (ps_ret he) fun D σ H ⟨Φ, W, ρ, P, iv, hΦ, st, h, kn, kr, kb, kc⟩ =>
  ⟨W.thawed σ ρ, thawR ρ, _, st.thaw, h, fun v H1 d g r q => kr W v H1 d rfl rfl (iv.go _ _ _ hΦ g) ((st.go g).leaves (W' := W.thawed σ ρ) rfl (fun b z => ⟨st.om b z, fun q => q.2 z⟩) r) q⟩
theorem ds_if {c : Expr} {a b : List Stmt} {tc : DTT} (hc : DTs X F T c tc) (ha : DSs X F T a t) (hb : DSs X F T b u) : DS X F T (.If c a b pos) (dIfS tc t u) := PS.cons (ps_if hc ha hb) fun D σ H ⟨Φ, W, ρ, P, iv, hΦ, st, h, kn, kr, kb, kc⟩ =>
  ⟨W, ρ, _, st, h, fun c H1 g q => by
    cases c with
    | true => exact ⟨Φ, W, ρ, P, iv, iv.go _ _ _ hΦ g, st.go g, q, kn, kr, kb, kc⟩
    | false => exact ⟨Φ, W, ρ, P, iv, iv.go _ _ _ hΦ g, st.go g, q, kn, kr, kb, kc⟩⟩
theorem ds_asg {tg : Expr} {g : DTG} {vs : List Nat} (he : DE X F T e te) (hg : DG X F T vs tg g) (hs : swapsWithSole [tg] e pos.line X.env = pure false := by rfl) (hw : swappedStores [tg] e X.env = pure none := by rfl)
    (h1 : (assignEach [tg] X.env).map (·.2) = [assign tg X.env] := by rfl) : DS X F T (.Assign [tg] e pos) (dAsg te g) := PS.cons (ps_asg he hg hs hw h1) fun D σ H ⟨Φ, W, ρ, P, iv, hΦ, st, h, kn, kr, kb, kc⟩ =>
  ⟨W, ρ, _, st, h, fun v H1 d g r q => ⟨W, ρ, d, _, st.go g, r, q, fun σ' ρ' H' w g' st' q' => kn W σ' ρ' H' rfl rfl (iv.go _ _ _ hΦ (g.trans g')) st' q'⟩⟩
theorem ds_set {i : Nat} {x : Str} {pos' : Pos} (hN : X.N.Nodup) (hi : X.N[i]? = some x) (hx : Loc X.env.scope x) (he : DE X F T e te) (hs : swapsWith e (some (.Name x pos')) pos.line X.env = pure false := by rfl) (hf : X.fn x = true ∨ X.env.scope.names.lookup x = some .local := by first | exact .inl rfl | exact .inr rfl | assumption) :
    DS X F T (.Assign [.Name x pos'] e pos) (dAsg te (gN i)) := PS.cons (ps_set hN hi hx he hs hf) fun D σ H ⟨Φ, W, ρ, P, iv, hΦ, st, h, kn, kr, kb, kc⟩ =>
  ⟨W, ρ, _, st, h, fun v H1 d g r q => kn W _ _ H1 rfl rfl (iv.go _ _ _ hΦ g) ((st.go g).set (srp_of r) (rp_notmut r)) q⟩
theorem ds_par {i j : Nat} {x y : Str} {a b : Expr} {ta : DTA} {px py pt : Pos} {kt k2 : Nat} {pt2 : Pos} (hc : X.calm = true) (hN : X.N.Nodup) (hi : X.N[i]? = some x) (hj : X.N[j]? = some y) (hij : i ≠ j)
    (hx : X.env.scope.names.lookup x = some .local) (hy : X.env.scope.names.lookup y = some .local) (ha : DA X F T [a, b] ta)
    (hw : swappedStores [.Tuple [.Name x px, .Name y py] kt pt] (.Tuple [a, b] k2 pt2) X.env = pure (some [x, y]))
    (hs : swapsWithSole [.Tuple [.Name x px, .Name y py] kt pt] (.Tuple [a, b] k2 pt2) pos.line X.env = pure false := by rfl) :
    DS X F T (.Assign [.Tuple [.Name x px, .Name y py] kt pt] (.Tuple [a, b] k2 pt2) pos) (dPar i j ta) := PS.cons (ps_par hc hN hi hj hij hx hy ha hw hs) fun D σ H ⟨Φ, W, ρ, P, iv, hΦ, st, h, kn, kr, kb, kc⟩ =>
  ⟨W, ρ, _, st, h, fun xs H1 ds g r q => by
    cases r with
    | nil => exact q.elim
    | cons a r =>
      cases r with
      | nil => exact q.elim
      | cons b r =>
        cases r with
        | cons => exact q.elim
        | nil => exact ⟨_, _, rfl, kn W _ _ H1 rfl rfl (iv.go _ _ _ hΦ g) (((st.go g).set (srp_of a) (rp_notmut a)).set (srp_of b) (rp_notmut b)) q⟩⟩
end
end DL
/-! Defs, loops, comprehensions over data. -/
namespace DL
open PySem PySem.Spec PyProof.Rows L2 LamX
/-! ### a def -/
def startD (n : Nat) (ds : List Dt) : Rho := ds.map some ++ List.replicate (n - ds.length) none
section
variable {K : PySem.W.Frag} {F : FAT} {T : List (Addr × Str)} {W W0 W1 : Md} {σ : L2.St} {ρ : Rho} {H H' H0 H1 : Hp}
/-- what stands in a def that was entered with W0 over H0 -/
def Inner (T : List (Addr × Str)) (W0 : Md) (H0 : Hp) (W : Md) (H : Hp) : Prop := W.s = W0.s ∧ W.o = W0.m ∧ Go T W0.s H0 H ∧ ∀ b, W.m b → W0.m b ∨ H0 b = none
theorem Inner.inva (hs : ∀ b, W0.s b → W0.m b) : Inva T (Inner T W0 H0) := by
  refine ⟨fun W H H' ⟨a, b, c, d⟩ g => ⟨a, b, c.trans (by rw [← a]; exact g), d⟩, fun W H l u o ⟨a, b, c, d⟩ m no e ce co => ⟨a, b, ?_, d⟩, fun W H l o ⟨a, b, c, d⟩ e co => ⟨a, b, c.trans (Go.new e), fun z q => ?_⟩⟩
  · have n0 : H0 l = none := by
      rcases d l m with q | q
      · rw [b] at no; exact absurd q no
      · exact q
    exact c.own n0 e ce fun z => no (by rw [b]; exact hs l z)
  · rcases q with q | q
    · exact d z q
    · subst q
      refine .inr ?_
      cases q : H0 z with
      | none => rfl
      | some o => exact absurd e (c.there z (by rw [q]; exact fun z => nomatch z))
theorem Rp.ms {W' : Md} (hF : FOk F) (hm : W'.m = W.m) (hs : W'.s = W.s) {v : V} {d : Dt} (r : Rp K F W H v d) : Rp K F W' H v d :=
  Rp.cells hF (fun b z => .inl (by rw [← hm]; exact z)) (fun b z => by rw [hs]; exact z) (fun _ _ z => z) (fun _ _ z _ _ => z) (fun _ _ z _ => z) d v r
theorem RpAll.ms {W' : Md} (hF : FOk F) (hm : W'.m = W.m) (hs : W'.s = W.s) {v : List V} {d : List Dt} (r : RpAll K F W H v d) : RpAll K F W' H v d :=
  RpAll.cells hF (fun b z => .inl (by rw [← hm]; exact z)) (fun b z => by rw [hs]; exact z) (fun _ _ z => z) (fun _ _ z _ _ => z) (fun _ _ z _ => z) d v r
theorem startD_get {n i : Nat} {ds : List Dt} {d : Dt} (h : (startD n ds)[i]? = some (some d)) : ds[i]? = some d := by
  unfold startD at h
  by_cases hi : i < ds.length
  · rw [List.getElem?_append_left (by simpa using hi), List.getElem?_map] at h
    cases q : ds[i]? with
    | none => rw [q] at h; cases h
    | some e => rw [q] at h; exact Option.some.inj h
  · rw [List.getElem?_append_right (by simpa using hi)] at h
    rw [List.getElem?_replicate] at h
    split at h
    · cases h
    · cases h
theorem Stt.enter (st : Stt K F T W [] [] H) {vs : List V} {ds : List Dt} (r : RpAll K F W H vs ds) (N : List Str) : Stt K F T W.enter (L2.start N vs) (startD N.length ds) H := by
  refine ⟨?_, fun i d e => ?_, fun i j d e hn q1 q2 m1 m2 => ?_, st.mok, st.sm, fun _ z => z, st.tabs, st.hF⟩
  · unfold L2.start startD
    simp only [List.length_append, List.length_map, List.length_replicate, r.len]
    omega
  · have e' := startD_get e
    obtain ⟨v, e1, r1⟩ := r.get e'
    refine ⟨v, ?_, srp_of (r1.ms (W := W) (W' := W.enter) st.hF rfl rfl)⟩
    unfold L2.start
    have hi : i < vs.length := (List.getElem?_eq_some_iff.mp e1).1
    rw [List.getElem?_append_left (by simpa using hi), List.getElem?_map, e1]
    rfl
  · obtain ⟨v, e1, r1⟩ := r.get (startD_get q1)
    rw [rp_notmut r1] at m1
    cases m1
end
theorem fn_data {P : Program} {w : World} {K : PySem.W.Frag} {mg : Str → Option Value} {base : Heap} {F : FAT} {T : List (Addr × Str)} {x qual : Str} {params : Arguments} {body : List Stmt} {scope : Scope} {f : Addr} {fd : FuncData} {N ps : List Str} {k : Nat} {sp : DSp} {db : DTS}
    (Fd : FunD K x qual params body scope [] [] f fd) (S : FnScope N ps scope)
    (hb : ∀ (cdv : Value) (A : Around) (outer : List Env) (s : Shared) (H : Hp) (E : XK), Room k (A.deeper (envOfC qual scope s.heap.objs.size f cdv)) → DSs (cxOf CX0 P w K mg base N qual scope f cdv A outer s H E).nox F T body db)
    (hsp : ∀ (ds : List Dt) (Q : Dt → Prop), ds.length = ps.length → sp ds Q → db { nx := fun _ => Q .none, rt := Q } (startD N.length ds)) : FnOk P w K mg base CX0 (k + 1) f fd ps (spD K F T ps.length sp) := by
  refine Fd.ok S (fun vs H Q E h => h.1) fun cdv A outer s H vs Q E hr ⟨hl, W, ds, Pd, st, r, h, k⟩ => ⟨liftS K F T db, (hb cdv A outer s H E hr).nox, ?_⟩
  refine ⟨Inner T W H, W.enter, _, _, Inner.inva st.sm, ⟨rfl, rfl, Go.refl T W.s H, fun b z => .inl z⟩, st.enter r N, hsp ds Pd (by rw [← r.len]; exact hl) h, ?_, ?_, ?_, ?_⟩
  · intro W' σ' ρ' H' _ _ hi _ q
    exact k .non H' .none hi.2.2.1 .non q
  · intro W' v H' d _ _ hi r q
    exact k v H' d hi.2.2.1 (r.ms (W := W.enter.leave) (W' := W) st.hF rfl rfl) q
  · intro W' σ' ρ' H' _ _ hi _ q
    exact q.elim
  · intro W' σ' ρ' H' _ _ hi _ q
    exact q.elim

/-! ### what is walked -/
structure Kept (W1 : Md) (H1 : Hp) (W : Md) (H : Hp) : Prop where
  ws : W.s = W1.s
  wo : W.o = W1.o
  fix : ∀ b o, H1 b = some o → fixd o = true → H b = some o
  keep : ∀ b o, H1 b = some o → notTbl o = true → ¬ W1.m b → H b = some o
  src : ∀ b, W1.s b → SrcAt H1 b → SrcAt H b
  there : ∀ b, H1 b ≠ none → H b ≠ none
  new : ∀ b, W.m b → W1.m b ∨ H1 b = none
section
variable {K : PySem.W.Frag} {F : FAT} {T : List (Addr × Str)} {W W0 W1 : Md} {σ : L2.St} {ρ : Rho} {H H' H0 H1 : Hp} {Φ : Md → Hp → Prop}
theorem Kept.refl : Kept W H W H := ⟨rfl, rfl, fun _ _ h _ => h, fun _ _ h _ _ => h, fun _ _ h => h, fun _ h => h, fun _ h => .inl h⟩
theorem Kept.go (st : Stt K F T W1 σ ρ H1) (k : Kept W1 H1 W H) (g : Go T W.s H H') : Kept W1 H1 W H' :=
  ⟨k.ws, k.wo, fun b o e f => g.fix b o (k.fix b o e f) f, fun b o e f m => g.keep b o (k.keep b o e f m) f fun z => m (st.sm b (by rw [← k.ws]; exact z)), fun b s e => g.src b (by rw [k.ws]; exact s) (k.src b s e), fun b e => g.there b (k.there b e), k.new⟩
theorem Kept.inva (st : Stt K F T W1 σ ρ H1) (iv : Inva T Φ) : Inva T (fun W H => Φ W H ∧ Kept W1 H1 W H) := by
  refine ⟨fun W H H' ⟨a, k⟩ g => ⟨iv.go _ _ _ a g, k.go st g⟩, fun W H l u o ⟨a, k⟩ m no e ce co => ⟨iv.cell _ _ _ _ _ a m no e ce co, ?_⟩, fun W H l o ⟨a, k⟩ e co => ⟨iv.grow _ _ _ _ a e co, ?_⟩⟩
  · have ne : ∀ b o', H1 b = some o' → ¬ W1.m b → b ≠ l := fun b o' e' m' z => by
      rcases k.new l m with q | q
      · rw [← z] at q; exact m' q
      · rw [← z, e'] at q; cases q
    refine ⟨k.ws, k.wo, fun b o' e' f => ?_, fun b o' e' f m' => by rw [upd_ne (ne b o' e' m')]; exact k.keep b o' e' f m', fun b s e' => ?_, fun b e' => ?_, k.new⟩
    · have nb : b ≠ l := fun z => by
        have q := k.fix b o' e' f
        rw [z, e] at q
        cases q
        cases u <;> first | (cases f; done) | (cases ce; done)
      rw [upd_ne nb]; exact k.fix b o' e' f
    · obtain ⟨x, y, e2, r⟩ := k.src b s e'
      have nb : b ≠ l := fun z => no (by rw [k.wo]; rw [← z]; exact st.so b s)
      exact ⟨x, y, by rw [upd_ne nb]; exact e2, r⟩
    · by_cases z : b = l
      · rw [z, upd_same]; exact fun q => nomatch q
      · rw [upd_ne z]; exact k.there b e'
  · have ne : ∀ b, H1 b ≠ none → b ≠ l := fun b e' z => k.there b e' (by rw [z]; exact e)
    refine ⟨k.ws, k.wo, fun b o' e' f => by rw [upd_ne (ne b (by rw [e']; exact fun z => nomatch z))]; exact k.fix b o' e' f, fun b o' e' f m' => by rw [upd_ne (ne b (by rw [e']; exact fun z => nomatch z))]; exact k.keep b o' e' f m', fun b s e' => ?_, fun b e' => by rw [upd_ne (ne b e')]; exact k.there b e', fun b z => ?_⟩
    · obtain ⟨x, y, e2, r⟩ := k.src b s e'
      have nb : b ≠ l := fun z => by rw [z, e] at e2; cases e2
      exact ⟨x, y, by rw [upd_ne nb]; exact e2, r⟩
    · rcases z with z | z
      · exact k.new b z
      · subst z
        cases q : H1 b with
        | none => exact .inr rfl
        | some o => exact absurd e (k.there b (by rw [q]; exact fun z => nomatch z))
theorem Kept.rp (hF : FOk F) (k : Kept W1 H1 W H) {v : V} {d : Dt} (r : Rp K F W1 H1 v d) : Rp K F W H v d :=
  Rp.cells hF k.new (fun b z => by rw [k.ws]; exact z) k.src k.keep k.fix d v r
theorem Kept.tup (k : Kept W1 H1 W H) {a : Addr} {xs : List V} (h : SqT K H1 a xs) : SqT K H a xs := sqt_fix k.fix h
theorem Kept.trans {W2 : Md} {H2 : Hp} (a : Kept W1 H1 W H) (b : Kept W H W2 H2) : Kept W1 H1 W2 H2 := by
  have m1 : ∀ z, H1 z ≠ none → W.m z → W1.m z := fun z e q => (a.new z q).elim id fun e' => absurd e' e
  refine ⟨b.ws.trans a.ws, b.wo.trans a.wo, fun c o e f => b.fix c o (a.fix c o e f) f, fun c o e f m => b.keep c o (a.keep c o e f m) f fun z => m (m1 c (by rw [e]; exact fun z => nomatch z) z), fun c s e => b.src c (by rw [a.ws]; exact s) (a.src c s e), fun c e => b.there c (a.there c e), fun c z => ?_⟩
  rcases b.new c z with q | q
  · exact a.new c q
  · refine .inr ?_
    cases e : H1 c with
    | none => rfl
    | some o => exact absurd q (a.there c (by rw [e]; exact fun z => nomatch z))
/-- items that are data -/
structure WalkD (K : PySem.W.Frag) (F : FAT) (T : List (Addr × Str)) (J : It) (W1 : Md) (H1 : Hp) (items : List Dt) : Prop where
  goes : ∀ i W H, Kept W1 H1 W H → i < items.length → J.go i H
  stops : ∀ W H, Kept W1 H1 W H → J.stop items.length H
  yields : ∀ i W σ ρ H x H', Kept W1 H1 W H → Stt K F T W σ ρ H → i < items.length → J.yld i H x H' → Go T W.s H H' ∧ ∃ d, items[i]? = some d ∧ Rp K F W H' x d
theorem walkd_list {a : Addr} {xs : List V} {ds : List Dt} (m : ¬ W1.m a) (e : H1 a = some (.lst xs)) (r : RpAll K F W1 H1 xs ds) : WalkD K F T (Itl K a) W1 H1 ds where
  goes := fun i W H k hi => ⟨xs, xs[i]'(by rw [r.len]; exact hi), SqL.of (k.keep a _ e rfl m), by simp⟩
  stops := fun W H k => ⟨xs, SqL.of (k.keep a _ e rfl m), by rw [r.len]; exact Nat.le_refl _⟩
  yields := fun i W σ ρ H x H' k st hi y => by
    obtain ⟨rfl, hx⟩ := y
    have e1 := hx xs (SqL.of (k.keep a _ e rfl m))
    obtain ⟨d, e2, r2⟩ := r.getV e1
    exact ⟨Go.refl T W.s _, d, e2, k.rp st.hF r2⟩
theorem walkd_tup {a : Addr} {xs : List V} {ds : List Dt} (e : SqT K H1 a xs) (r : RpAll K F W1 H1 xs ds) : WalkD K F T (Itt K a) W1 H1 ds where
  goes := fun i W H k hi => ⟨xs, xs[i]'(by rw [r.len]; exact hi), k.tup e, by simp⟩
  stops := fun W H k => ⟨xs, k.tup e, by rw [r.len]; exact Nat.le_refl _⟩
  yields := fun i W σ ρ H x H' k st hi y => by
    obtain ⟨rfl, hx⟩ := y
    have e1 := hx xs (k.tup e)
    obtain ⟨d, e2, r2⟩ := r.getV e1
    exact ⟨Go.refl T W.s _, d, e2, k.rp st.hF r2⟩
def rngD (lo : Int) (n : Nat) : List Dt := (List.range n).map fun (i : Nat) => PyData.int (lo + (i : Int))
theorem rngD_len (lo : Int) (n : Nat) : (rngD lo n).length = n := by unfold rngD; rw [List.length_map, List.length_range]
theorem rngD_get {lo : Int} {n i : Nat} (h : i < n) : (rngD lo n)[i]? = some (.int (lo + (i : Int))) := by unfold rngD; rw [List.getElem?_map, List.getElem?_range h]; rfl
theorem walkd_rng {lo : Int} {n : Nat} : WalkD K F T (Itr lo n) W1 H1 (rngD lo n) where
  goes := fun i W H k hi => by rw [rngD_len] at hi; exact hi
  stops := fun W H k => by rw [rngD_len]; exact Nat.le_refl _
  yields := fun i W σ ρ H x H' k st hi y => by
    obtain ⟨rfl, rfl⟩ := y
    rw [rngD_len] at hi
    exact ⟨Go.refl T W.s _, _, rngD_get hi, .int _⟩
def zipD (xs ys : List Dt) : List Dt := (xs.zip ys).map fun p => PyData.tuple [p.1, p.2]
theorem zipD_get {xs ys : List Dt} {i : Nat} {x y : Dt} (h : xs[i]? = some x) (g : ys[i]? = some y) : (zipD xs ys)[i]? = some (.tuple [x, y]) := by
  unfold zipD
  rw [List.getElem?_map, (List.getElem?_zip_eq_some (z := (x, y))).mpr ⟨h, g⟩]
  rfl
theorem zipD_len (xs ys : List Dt) : (zipD xs ys).length = min xs.length ys.length := by unfold zipD; rw [List.length_map, List.length_zip]
theorem pair_new {x y : V} {d e : Dt} {p : Addr} (st : Stt K F T W σ ρ H) (hp : H p = none) (r1 : Rp K F W H x d) (r2 : Rp K F W H y e) : Rp K F W (upd H p (.tup [x, y])) (.ref p) (.tuple [d, e]) :=
  .tup (SqT.of upd_same) (.cons (st.rp (Go.new hp) r1) (.cons (st.rp (Go.new hp) r2) .nil))
theorem walkd_zipL {a b : Addr} {xs ys : List V} {ds es : List Dt} (m : ¬ W1.m a) (e : H1 a = some (.lst xs)) (r : RpAll K F W1 H1 xs ds) (m2 : ¬ W1.m b) (e2 : H1 b = some (.lst ys)) (r2 : RpAll K F W1 H1 ys es) : WalkD K F T (Itz K a b) W1 H1 (zipD ds es) where
  goes := fun i W H k hi => by
    rw [zipD_len] at hi
    exact ⟨xs, ys, xs[i]'(by rw [r.len]; omega), ys[i]'(by rw [r2.len]; omega), SqL.of (k.keep a _ e rfl m), SqL.of (k.keep b _ e2 rfl m2), by simp, by simp⟩
  stops := fun W H k => ⟨xs, ys, SqL.of (k.keep a _ e rfl m), SqL.of (k.keep b _ e2 rfl m2), by rw [zipD_len, r.len, r2.len]; omega⟩
  yields := fun i W σ ρ H x H' k st hi y => by
    obtain ⟨p, u, v, rfl, hp, rfl, h1, h2⟩ := y
    obtain ⟨d, q1, z1⟩ := r.getV (h1 xs (SqL.of (k.keep a _ e rfl m)))
    obtain ⟨d2, q2, z2⟩ := r2.getV (h2 ys (SqL.of (k.keep b _ e2 rfl m2)))
    exact ⟨Go.new hp, _, zipD_get q1 q2, pair_new st hp (k.rp st.hF z1) (k.rp st.hF z2)⟩
theorem walkd_zipT {a b : Addr} {xs ys : List V} {ds es : List Dt} (e : SqT K H1 a xs) (r : RpAll K F W1 H1 xs ds) (e2 : SqT K H1 b ys) (r2 : RpAll K F W1 H1 ys es) : WalkD K F T (RZ.ItzT K a b) W1 H1 (zipD ds es) where
  goes := fun i W H k hi => by
    rw [zipD_len] at hi
    exact ⟨xs, ys, xs[i]'(by rw [r.len]; omega), ys[i]'(by rw [r2.len]; omega), k.tup e, k.tup e2, by simp, by simp⟩
  stops := fun W H k => ⟨xs, ys, k.tup e, k.tup e2, by rw [zipD_len, r.len, r2.len]; omega⟩
  yields := fun i W σ ρ H x H' k st hi y => by
    obtain ⟨p, u, v, rfl, hp, rfl, h1, h2⟩ := y
    obtain ⟨d, q1, z1⟩ := r.getV (h1 xs (k.tup e))
    obtain ⟨d2, q2, z2⟩ := r2.getV (h2 ys (k.tup e2))
    exact ⟨Go.new hp, _, zipD_get q1 q2, pair_new st hp (k.rp st.hF z1) (k.rp st.hF z2)⟩
end
abbrev DTI := Rho → (List Dt → Prop) → Prop
def liftI (K : PySem.W.Frag) (F : FAT) (T : List (Addr × Str)) (it : DTI) : TI := fun σ H R => ∃ (W : Md) (ρ : Rho) (P : List Dt → Prop), Stt K F T W σ ρ H ∧ it ρ P ∧ ∀ J H' items, Go T W.s H H' → WalkD K F T J W H' items → P items → R J H'
def onL (d : Dt) (P : List Dt → Prop) : Prop := match d with
  | .list xs => P xs
  | _ => False
def onT (d : Dt) (P : List Dt → Prop) : Prop := match d with
  | .tuple xs => P xs
  | _ => False
def iL (t : DTE) : DTI := fun ρ P => t ρ fun d => onL d P
def iT (t : DTE) : DTI := fun ρ P => t ρ fun d => onT d P
def big (i : Int) : Prop := -(2 ^ 62) ≤ i ∧ i < 2 ^ 62
def iR1 (t : DTA) : DTI := fun ρ P => t ρ fun ds => match ds with
  | [.int n] => big n ∧ P (rngD 0 n.toNat)
  | _ => False
def iR2 (t : DTA) : DTI := fun ρ P => t ρ fun ds => match ds with
  | [.int a, .int b] => big a ∧ big b ∧ P (rngD a (b - a).toNat)
  | _ => False
def iZL (t : DTA) : DTI := fun ρ P => t ρ fun ds => match ds with
  | [.list xs, .list ys] => P (zipD xs ys)
  | _ => False
def iZT (t : DTA) : DTI := fun ρ P => t ρ fun ds => match ds with
  | [.tuple xs, .tuple ys] => P (zipD xs ys)
  | _ => False
section
variable {X : Cx} {F : FAT} {T : List (Addr × Str)} {tg e : Expr} {t : DTE} {ta : DTA} {p pos : Pos}
abbrev DI (X : Cx) (F : FAT) (T : List (Addr × Str)) (tg e : Expr) (t : DTI) : Prop := PI X tg e (liftI X.K F T t)
theorem PI.cons {t t' : TI} (h : PI X tg e t) (w : ∀ σ H R, t' σ H R → t σ H R) : PI X tg e t' := ⟨fun pins s σ H R I q => h.run pins s σ H R I (w σ H R q)⟩
theorem di_list (he : DE X F T e t) : DI X F T tg e (iL t) := PI.cons (pi_list he) fun σ H R ⟨W, ρ, P, st, h, k⟩ =>
  ⟨W, ρ, _, st, h, fun v H1 d g r q => by
    cases r with
    | lst m e r => exact ⟨_, rfl, ⟨_, SqL.of e⟩, k _ _ _ g (walkd_list m e r) q⟩
    | _ => exact False.elim q⟩
theorem di_tup (he : DE X F T e t) : DI X F T tg e (iT t) := PI.cons (pi_tup he) fun σ H R ⟨W, ρ, P, st, h, k⟩ =>
  ⟨W, ρ, _, st, h, fun v H1 d g r q => by
    cases r with
    | tup e r => exact ⟨_, rfl, ⟨_, e⟩, k _ _ _ g (walkd_tup e r) q⟩
    | _ => exact False.elim q⟩
theorem di_rng1 {a : Expr} (hg : Gl X "range") (hm : X.mg "range" = none) (ha : DA X F T [a] ta) (hs : starEach [a] X.env = [(false, eval a X.env)] := by rfl) : DI X F T tg (.Call (.Name "range" p) [a] [] pos) (iR1 ta) := PI.cons (pi_range1 hg hm ha hs) fun σ H R ⟨W, ρ, P, st, h, k⟩ =>
  ⟨W, ρ, _, st, h, fun vs H1 ds g r q => by
    cases r with
    | nil => exact q.elim
    | cons a r =>
      cases r with
      | cons => cases a <;> exact q.elim
      | nil =>
        cases a with
        | int n => exact ⟨n, rfl, q.1.1, q.1.2, k _ _ _ g walkd_rng q.2⟩
        | _ => exact False.elim q⟩
theorem di_rng2 {a b : Expr} (hg : Gl X "range") (hm : X.mg "range" = none) (ha : DA X F T [a, b] ta) (hs : starEach [a, b] X.env = [(false, eval a X.env), (false, eval b X.env)] := by rfl) (hs2 : starEach [b] X.env = [(false, eval b X.env)] := by rfl) : DI X F T tg (.Call (.Name "range" p) [a, b] [] pos) (iR2 ta) := PI.cons (pi_range2 hg hm ha hs hs2) fun σ H R ⟨W, ρ, P, st, h, k⟩ =>
  ⟨W, ρ, _, st, h, fun vs H1 ds g r q => by
    cases r with
    | nil => exact q.elim
    | cons a r =>
      cases r with
      | nil => cases a <;> exact q.elim
      | cons b r =>
        cases r with
        | cons => cases a <;> cases b <;> exact q.elim
        | nil =>
          cases a with
          | int n =>
            cases b with
            | int m => exact ⟨n, m, rfl, ⟨q.1.1, q.1.2, q.2.1.1, q.2.1.2⟩, k _ _ _ g walkd_rng q.2.2⟩
            | _ => exact False.elim q
          | _ => cases b <;> exact False.elim q⟩
theorem di_zipL {a b : Expr} {elts : List Expr} {kk : Nat} {tpos : Pos} (hg : Gl X "zip") (hm : X.mg "zip" = none) (ha : DA X F T [a, b] ta)
    (hs : starEach [a, b] X.env = (false, eval a X.env) :: starEach [b] X.env := by rfl) (hpl : (backTo pos (starEach [b] X.env)).any (·.1) = false := by rfl) : DI X F T (.Tuple elts kk tpos) (.Call (.Name "zip" p) [a, b] [] pos) (iZL ta) := PI.cons (pi_zip hg hm ha hs hpl) fun σ H R ⟨W, ρ, P, st, h, k⟩ =>
  ⟨W, ρ, _, st, h, fun vs H1 ds g r q => by
    cases r with
    | nil => exact q.elim
    | cons a r =>
      cases r with
      | nil => cases a <;> exact q.elim
      | cons b r =>
        cases r with
        | cons => cases a <;> cases b <;> exact q.elim
        | nil =>
          cases a with
          | lst m e r =>
            cases b with
            | lst m2 e2 r2 => exact ⟨_, _, _, _, rfl, SqL.of e, SqL.of e2, k _ _ _ g (walkd_zipL m e r m2 e2 r2) q⟩
            | _ => exact False.elim q
          | _ => cases b <;> exact False.elim q⟩
theorem di_zipT {a b : Expr} {elts : List Expr} {kk : Nat} {tpos : Pos} (hg : Gl X "zip") (hm : X.mg "zip" = none) (ha : DA X F T [a, b] ta)
    (hs : starEach [a, b] X.env = (false, eval a X.env) :: starEach [b] X.env := by rfl) (hpl : (backTo pos (starEach [b] X.env)).any (·.1) = false := by rfl) : DI X F T (.Tuple elts kk tpos) (.Call (.Name "zip" p) [a, b] [] pos) (iZT ta) := PI.cons (RZ.pi_zipA hg hm ha hs hpl) fun σ H R ⟨W, ρ, P, st, h, k⟩ =>
  ⟨W, ρ, _, st, h, fun vs H1 ds g r q => by
    cases r with
    | nil => exact q.elim
    | cons a r =>
      cases r with
      | nil => cases a <;> exact q.elim
      | cons b r =>
        cases r with
        | cons => cases a <;> cases b <;> exact q.elim
        | nil =>
          cases a with
          | tup e r =>
            cases b with
            | tup e2 r2 => exact ⟨_, _, _, _, rfl, .inr ⟨e, e2, k _ _ _ g (walkd_zipT e r e2 r2) q⟩⟩
            | _ => exact False.elim q
          | _ => cases b <;> exact False.elim q⟩
end
/-! ### for, while -/
def forW (g : DTG) (b : DTS) : List Dt → DTS
  | [], D, ρ => D.nx ρ
  | d :: r, D, ρ => g d ρ fun ρ' => b { nx := forW g b r D, rt := D.rt, bk := D.nx, ct := forW g b r D } ρ'
def dFor (it : DTI) (g : DTG) (b : DTS) : DTS := fun D ρ => it ρ fun items => forW g b items D ρ
def dWhile (c : DTT) (b : DTS) : DTS := fun D ρ => ∃ Wf : Nat → Rho → Prop, (∃ m, Wf m ρ) ∧ ∀ m ρ', Wf m ρ' → c ρ' fun t => if t = true then b { nx := fun ρ2 => ∃ m', m' < m ∧ Wf m' ρ2, rt := D.rt, bk := D.nx, ct := fun ρ2 => ∃ m', m' < m ∧ Wf m' ρ2 } ρ' else D.nx ρ'
section
variable {X : Cx} {F : FAT} {T : List (Addr × Str)} {tg e : Expr} {it : DTI} {g : DTG} {b : DTS} {body : List Stmt} {pos : Pos} {vs : List Nat}
theorem ds_for (hp : PassesOwn (model X.prog X.w) X.A X.env X.xe) (hc : X.calm = true) (hi : DI X F T tg e it) (hg : DG X F T vs tg g) (hb : DSs X F T body b)
    (hs : ∀ x, foldedSetIterable e X.env x = pure x := by intro _; rfl) : DS X F T (.For tg e body [] pos) (dFor it g b) := PS.cons (ps_for hp hc hi hg hb hs) fun D σ H ⟨Φ, W, ρ, P, iv, hΦ, st, h, kn, kr, kb, kc⟩ => by
  refine ⟨W, ρ, _, st, h, fun J H1 items g1 wk q => ?_⟩
  have st1 := st.go g1
  refine ⟨fun i m σ' H' => m = items.length - i ∧ i ≤ items.length ∧ ∃ (W' : Md) (ρ' : Rho), W'.s = W.s ∧ W'.o = W.o ∧ Φ W' H' ∧ Kept W H1 W' H' ∧ Stt X.K F T W' σ' ρ' H' ∧ forW g b (items.drop i) P ρ', ⟨items.length, by simp, Nat.zero_le _, W, ρ, rfl, rfl, iv.go _ _ _ hΦ g1, Kept.refl, st1, q⟩, ?_⟩
  rintro i m σ' H' ⟨rfl, hi, W', ρ', es, eo, hΦ', kp, st', q⟩
  by_cases hlt : i < items.length
  · refine .inr ⟨wk.goes i W' H' kp hlt, fun σ2 H2 => ∃ (W' : Md) (ρ' : Rho), W'.s = W.s ∧ W'.o = W.o ∧ Φ W' H2 ∧ Kept W H1 W' H2 ∧ Stt X.K F T W' σ2 ρ' H2 ∧ forW g b (items.drop (i + 1)) P ρ', fun σ2 H2 ⟨W2, ρ2, a1, a2, a3, a4, a5, a6⟩ => ⟨items.length - (i + 1), by omega, rfl, hlt, W2, ρ2, a1, a2, a3, a4, a5, a6⟩, fun x H2 y => ?_⟩
    obtain ⟨g2, d, e2, r2⟩ := wk.yields i W' σ' ρ' H' x H2 kp st' hlt y
    have ed : items.drop i = d :: items.drop (i + 1) := by
      rw [List.drop_eq_getElem_cons hlt]
      congr 1
      rw [List.getElem?_eq_getElem hlt] at e2
      exact Option.some.inj e2
    rw [ed] at q
    refine ⟨W', ρ', d, _, st'.go g2, r2, q, fun σ3 ρ3 H3 _ g3 st3 q3 => ?_⟩
    have g4 := g2.trans g3
    refine ⟨fun W H => Φ W H ∧ Kept W' H3 W H ∧ Kept W' H' W H, W', ρ3, _, ?_, ⟨iv.go _ _ _ hΦ' g4, Kept.refl, Kept.refl.go st' g4⟩, st3, q3, ?_, ?_, ?_, ?_⟩
    · have i1 := Kept.inva (W1 := W') (H1 := H') st' iv
      have i2 := Kept.inva (W1 := W') (H1 := H3) st3 i1
      exact ⟨fun W H H' ⟨a, b, c⟩ g => let z := i2.go W H H' ⟨⟨a, c⟩, b⟩ g; ⟨z.1.1, z.2, z.1.2⟩, fun W H l u o ⟨a, b, c⟩ m no e ce co => let z := i2.cell W H l u o ⟨⟨a, c⟩, b⟩ m no e ce co; ⟨z.1.1, z.2, z.1.2⟩, fun W H l o ⟨a, b, c⟩ e co => let z := i2.grow W H l o ⟨⟨a, c⟩, b⟩ e co; ⟨z.1.1, z.2, z.1.2⟩⟩
    · intro W4 σ4 ρ4 H4 s4 o4 ⟨p4, _, k4⟩ st4 q4
      exact ⟨W4, ρ4, s4.trans es, o4.trans eo, p4, kp.trans k4, st4, q4⟩
    · intro W4 v H4 d4 s4 o4 ⟨p4, _, k4⟩ r4 q4
      refine kr W4 v H4 d4 (s4.trans es) (o4.trans eo) p4 ?_ q4
      unfold Md.leave at r4 ⊢
      rw [es, eo] at r4
      exact r4
    · intro W4 σ4 ρ4 H4 s4 o4 ⟨p4, _, k4⟩ st4 q4
      exact kn W4 σ4 ρ4 H4 (s4.trans es) (o4.trans eo) p4 st4 q4
    · intro W4 σ4 ρ4 H4 s4 o4 ⟨p4, _, k4⟩ st4 q4
      exact ⟨W4, ρ4, s4.trans es, o4.trans eo, p4, kp.trans k4, st4, q4⟩
  · have ei : i = items.length := by omega
    subst ei
    rw [List.drop_length] at q
    exact .inl ⟨wk.stops W' H' kp, kn W' σ' ρ' H' es eo hΦ' st' q⟩
theorem ds_while {c : Expr} {tc : DTT} (hp : PassesOwn (model X.prog X.w) X.A X.env X.xe) (hc : DTs X F T c tc) (hb : DSs X F T body b) : DS X F T (.While c body [] pos) (dWhile tc b) := PS.cons (ps_while hp hc hb) fun D σ H ⟨Φ, W, ρ, P, iv, hΦ, st, ⟨Wf, ⟨m0, w0⟩, turn⟩, kn, kr, kb, kc⟩ => by
  refine ⟨fun m σ' H' => ∃ (W' : Md) (ρ' : Rho), W'.s = W.s ∧ W'.o = W.o ∧ Φ W' H' ∧ Stt X.K F T W' σ' ρ' H' ∧ Wf m ρ', ⟨m0, W, ρ, rfl, rfl, hΦ, st, w0⟩, ?_⟩
  rintro m σ' H' ⟨W', ρ', es, eo, hΦ', st', q⟩
  refine ⟨W', ρ', _, st', turn m ρ' q, fun t H1 g1 q1 => ?_⟩
  cases t with
  | false =>
    rw [if_neg Bool.false_ne_true]
    exact kn W' σ' ρ' H1 es eo (iv.go _ _ _ hΦ' g1) (st'.go g1) q1
  | true =>
    rw [if_pos rfl]
    refine ⟨fun σ2 H2 => ∃ m', m' < m ∧ ∃ (W' : Md) (ρ' : Rho), W'.s = W.s ∧ W'.o = W.o ∧ Φ W' H2 ∧ Stt X.K F T W' σ2 ρ' H2 ∧ Wf m' ρ', fun σ2 H2 h => h, Φ, W', ρ', _, iv, iv.go _ _ _ hΦ' g1, st'.go g1, q1, ?_, ?_, ?_, ?_⟩
    · intro W4 σ4 ρ4 H4 s4 o4 p4 st4 ⟨m', hm, q4⟩
      exact ⟨m', hm, W4, ρ4, s4.trans es, o4.trans eo, p4, st4, q4⟩
    · intro W4 v H4 d4 s4 o4 p4 r4 q4
      refine kr W4 v H4 d4 (s4.trans es) (o4.trans eo) p4 ?_ q4
      unfold Md.leave at r4 ⊢
      rw [es, eo] at r4
      exact r4
    · intro W4 σ4 ρ4 H4 s4 o4 p4 st4 q4
      exact kn W4 σ4 ρ4 H4 (s4.trans es) (o4.trans eo) p4 st4 q4
    · intro W4 σ4 ρ4 H4 s4 o4 p4 st4 ⟨m', hm, q4⟩
      exact ⟨m', hm, W4, ρ4, s4.trans es, o4.trans eo, p4, st4, q4⟩
end
end DL
/-! Comprehensions; a def's own lists over data. -/
namespace DL
open PySem PySem.Spec PyProof.Rows L2 LamX
def wipeR (ρ : Rho) : List Nat → Rho
  | [] => ρ
  | v :: vs => (wipeR ρ vs).set v none
def lcW (g : DTG) (tt : DTT) (te : DTE) : List Dt → List Dt → Rho → (List Dt → Prop) → Prop
  | [], acc, _, P => P acc
  | d :: r, acc, ρ, P => g d ρ fun ρ2 => tt ρ2 fun b => if b = true then te ρ2 fun y => acc.length < line ∧ lcW g tt te r (acc ++ [y]) ρ P else lcW g tt te r acc ρ P
def dYes : DTT := fun _ P => P true
def dLc (it : DTI) (g : DTG) (tt : DTT) (te : DTE) (vs : List Nat) : DTE := fun ρ P => it ρ fun items => lcW g tt te items [] (wipeR ρ vs) fun ys => P (.list ys)
theorem PTs.cons {X : Cx} {e : List Expr} {t t' : TT} (h : PTs X e t) (w : ∀ σ H Q, t' σ H Q → t σ H Q) : PTs X e t' := ⟨fun pins s σ H Q I q => h.run pins s σ H Q I (w σ H Q q)⟩
section
variable {K : PySem.W.Frag} {F : FAT} {T : List (Addr × Str)} {W W0 W1 : Md} {σ : L2.St} {ρ : Rho} {H H' H0 H1 : Hp}
theorem Stt.unset (h : Stt K F T W σ ρ H) (i : Nat) : Stt K F T W (σ.set i none) (ρ.set i none) H := by
  have nj : ∀ {j : Nat} {d : Dt}, (ρ.set i none)[j]? = some (some d) → i ≠ j := fun {j d} q c => by
    subst c
    by_cases hr : i < ρ.length
    · rw [List.getElem?_set_self hr] at q; cases q
    · rw [List.getElem?_eq_none (by simpa using hr)] at q; cases q
  refine ⟨by rw [List.length_set, List.length_set]; exact h.len, fun j e q => ?_, fun j k d1 e1 hn q1 q2 m1 m2 => ?_, h.mok, h.so, h.om, h.tabs, h.hF⟩
  · have n := nj q
    rw [List.getElem?_set_ne n] at q ⊢
    exact h.env j e q
  · have n1 := nj q1
    have n2 := nj q2
    rw [List.getElem?_set_ne n1] at q1 ⊢
    rw [List.getElem?_set_ne n2] at q2 ⊢
    exact h.uniq j k d1 e1 hn q1 q2 m1 m2
theorem Stt.wipe (h : Stt K F T W σ ρ H) : ∀ vs : List Nat, Stt K F T W (wipe σ vs) (wipeR ρ vs) H
  | [] => h
  | v :: vs => (Stt.wipe h vs).unset v
theorem wipe_wipe {vs : List Nat} : L2.wipe (L2.wipe σ vs) vs = L2.wipe σ vs := by
  apply List.ext_getElem?
  intro j
  rw [wipe_get, wipe_get, wipe_length]
  split <;> rfl
/-- from before a cell was laid to behind -/
theorem Rp.over {D : Addr} (hF : FOk F) (hs : ∀ b, W.s b → W.m b) (hD : H D = none) (g : Go T W.s H H') {v : V} {d : Dt} (r : Rp K F W H v d) : Rp K F (W.add D) H' v d :=
  Rp.cells (W := W) (W' := W.add D) hF (fun b z => by
    rcases z with z | z
    · exact .inl z
    · exact .inr (by rw [z]; exact hD)) (fun _ z => z) g.src (fun b o e f m => g.keep b o e f fun z => m (hs b z)) g.fix d v r
theorem RpAll.over {D : Addr} (hF : FOk F) (hs : ∀ b, W.s b → W.m b) (hD : H D = none) (g : Go T W.s H H') {v : List V} {d : List Dt} (r : RpAll K F W H v d) : RpAll K F (W.add D) H' v d :=
  RpAll.cells (W := W) (W' := W.add D) hF (fun b z => by
    rcases z with z | z
    · exact .inl z
    · exact .inr (by rw [z]; exact hD)) (fun _ z => z) g.src (fun b o e f m => g.keep b o e f fun z => m (hs b z)) g.fix d v r
theorem Stt.over (h : Stt K F T W σ ρ H) {D : Addr} (hD : H D = none) (g : Go T W.s H H') (hD' : H' D ≠ none) : Stt K F T (W.add D) σ ρ H' := by
  refine ⟨h.len, fun i d e => ?_, h.uniq, fun b z => ?_, h.so, fun b z => Or.inl (h.om b z), g.tabs h.tabs, h.hF⟩
  · obtain ⟨v, e1, r⟩ := h.env i d e
    refine ⟨v, e1, ?_⟩
    unfold SRp at r ⊢
    split at r
    · obtain ⟨a, xs, q, m, no, e2, r⟩ := r
      exact ⟨a, xs, q, Or.inl m, no, g.keep _ _ e2 rfl fun z => no (h.so _ z), r.over h.hF h.sm hD g⟩
    · obtain ⟨a, xs, l, el, q, m, no, e2, r⟩ := r
      exact ⟨a, xs, l, el, q, Or.inl m, no, g.keep _ _ e2 rfl fun z => no (h.so _ z), r.go g.fix⟩
    · exact Rp.over h.hF h.sm hD g r
  · rcases z with z | z
    · exact g.there b (h.mok b z)
    · rw [z]; exact hD'
theorem Rp.shrink {D : Addr} (hF : FOk F) {v : V} {d : Dt} (r : Rp K F (W.add D) H v d) : Rp K F W H v d :=
  Rp.cells (W := W.add D) (W' := W) hF (fun b z => .inl (Or.inl z)) (fun _ z => z) (fun _ _ z => z) (fun _ _ z _ _ => z) (fun _ _ z _ => z) d v r
theorem RpAll.shrink {D : Addr} (hF : FOk F) {v : List V} {d : List Dt} (r : RpAll K F (W.add D) H v d) : RpAll K F W H v d :=
  RpAll.cells (W := W.add D) (W' := W) hF (fun b z => .inl (Or.inl z)) (fun _ z => z) (fun _ _ z => z) (fun _ _ z _ _ => z) (fun _ _ z _ => z) d v r
/-- a cell's content changes: data stay -/
theorem RpAll.cellch {D : Addr} {u o : HO} (hF : FOk F) (hD : W.m D) (hn : ¬ W.s D) (e : H D = some u) (c : cellO u = true) {v : List V} {d : List Dt} (r : RpAll K F W H v d) : RpAll K F W (upd H D o) v d :=
  RpAll.cells hF (fun b z => .inl z) (fun _ z => z) (fun b s ⟨x, y, q, r⟩ => ⟨x, y, by rw [upd_ne (fun z => hn (by rw [← z]; exact s))]; exact q, r⟩) (fun b w q _ m => by rw [upd_ne (fun z => m (by rw [z]; exact hD))]; exact q)
    (fun b w q f => by
      have nb : b ≠ D := fun z => by
        rw [z, e] at q
        cases q
        cases u <;> first | (cases f; done) | (cases c; done)
      rw [upd_ne nb]; exact q) d v r
theorem Rp.cellch {D : Addr} {u o : HO} (hF : FOk F) (hD : W.m D) (hn : ¬ W.s D) (e : H D = some u) (c : cellO u = true) {v : V} {d : Dt} (r : Rp K F W H v d) : Rp K F W (upd H D o) v d := by
  have q := RpAll.cellch (o := o) hF hD hn e c (.cons r .nil)
  cases q with
  | cons a _ => exact a
theorem kv_cellch {D : Addr} {u o : HO} {kvs : List (Key × V)} {l : List (Int × Int × Int)} (e : H D = some u) (c : cellO u = true) (r : KvAt K H kvs l) : KvAt K (upd H D o) kvs l :=
  r.go fun b w q f => by
    have nb : b ≠ D := fun z => by
      rw [z, e] at q
      cases q
      cases u <;> first | (cases f; done) | (cases c; done)
    rw [upd_ne nb]; exact q
end
section
variable {X : Cx} {F : FAT} {T : List (Addr × Str)}
theorem dts_nil : PTs X [] (liftT X.K F T dYes) := PTs.cons pts_nil fun σ H Q ⟨W, ρ, P, st, h, k⟩ => k true H (Go.refl T W.s H) h
theorem dts_one {c : Expr} {t : DTT} (h : DTs X F T c t) : PTs X [c] (liftT X.K F T t) := pts_one h
theorem lift_lc {K : PySem.W.Frag} {it : DTI} {g : DTG} {tt : DTT} {te : DTE} {vs : List Nat} {σ : L2.St} {H : Hp} {Q : VK} (h : liftE K F T (dLc it g tt te vs) σ H Q) : tLc (liftI K F T it) (liftG K F T vs g) (liftT K F T tt) (liftE K F T te) vs σ H Q := by
  obtain ⟨W, ρ, P, st, h, k⟩ := h
  refine ⟨W, ρ, _, st, h, fun J H1 items g1 wk q D hD => ?_⟩
  have st1 := st.go g1
  have nm : ¬ W.m D := st1.free hD
  have ns : ¬ W.s D := fun z => nm (st1.sm D z)
  have kept : ∀ H', Go T W.s H1 H' → Kept W H1 (W.add D) H' := fun H' g => ⟨rfl, rfl, g.fix, fun b o e f m => g.keep b o e f fun z => m (st1.sm b z), g.src, g.there, fun b z => by
    rcases z with z | z
    · exact .inl z
    · exact .inr (by rw [z]; exact hD)⟩
  refine ⟨fun i m H' => m = items.length - i ∧ i ≤ items.length ∧ ∃ acc accD, H' D = some (.lst acc) ∧ RpAll K F (W.add D) H' acc accD ∧ Go T W.s H1 H' ∧ lcW g tt te (items.drop i) accD (wipeR ρ vs) (fun ys => P (.list ys)),
    ⟨items.length, by simp, Nat.zero_le _, [], [], upd_same, .nil, Go.new hD, q⟩, ?_⟩
  rintro i m H' ⟨rfl, hi, acc, accD, eD, ra, gg, q⟩
  have ne' : H' D ≠ none := by rw [eD]; exact fun z => nomatch z
  have st' := st1.over hD gg ne'
  by_cases hlt : i < items.length
  · refine .inr ⟨wk.goes i _ H' (kept H' gg) hlt, fun H' => ∃ acc accD, H' D = some (.lst acc) ∧ RpAll K F (W.add D) H' acc accD ∧ Go T W.s H1 H' ∧ lcW g tt te (items.drop (i + 1)) accD (wipeR ρ vs) (fun ys => P (.list ys)), fun H2 ⟨a1, a2, a3, a4, a5, a6⟩ => ⟨items.length - (i + 1), by omega, rfl, hlt, a1, a2, a3, a4, a5, a6⟩, fun x H2 y => ?_⟩
    obtain ⟨g2, d, e2, r2⟩ := wk.yields i _ σ ρ H' x H2 (kept H' gg) st' hlt y
    have ed : items.drop i = d :: items.drop (i + 1) := by
      rw [List.drop_eq_getElem_cons hlt]
      congr 1
      rw [List.getElem?_eq_getElem hlt] at e2
      exact Option.some.inj e2
    rw [ed] at q
    refine ⟨W.add D, wipeR ρ vs, d, _, (st'.go g2).wipe vs, r2, q, fun σ3 ρ3 H3 w g3 st3 q3 => ⟨w.trans wipe_wipe, W.add D, ρ3, _, st3, q3, fun b H4 g4 q4 => ?_⟩⟩
    cases b with
    | false =>
      rw [if_neg Bool.false_ne_true]
      have gt : Go T W.s H' H4 := (g2.trans g3).trans g4
      exact ⟨acc, accD, gt.keep D _ eD rfl ns, st'.rps gt ra, gg.trans gt, q4⟩
    | true =>
      rw [if_pos rfl]
      refine ⟨W.add D, ρ3, _, st3.go g4, q4, fun y H5 d5 g5 r5 q5 => ?_⟩
      have gt : Go T W.s H' H5 := ((g2.trans g3).trans g4).trans g5
      have eD5 := gt.keep D _ eD rfl ns
      have ra5 := st'.rps gt ra
      refine ⟨acc, eD5, Nat.lt_of_lt_of_le (by rw [ra.len]; exact q5.1) line_le, acc ++ [y], accD ++ [d5], upd_same, ?_, ?_, q5.2⟩
      · exact RpAll.cellch (W := W.add D) st.hF (Or.inr rfl) ns eD5 rfl (ra5.append (.cons r5 .nil))
      · exact (gg.trans gt).own hD eD5 rfl ns
  · have ei : i = items.length := by omega
    subst ei
    rw [List.drop_length] at q
    exact .inl ⟨wk.stops _ H' (kept H' gg), k (.ref D) H' _ (g1.trans gg) (.lst nm eD (RpAll.shrink st.hF ra)) q⟩
theorem de_lc {elt tg iter : Expr} {ifs : List Expr} {scope : Scope} {own : List (Str × Nat)} {pos : Pos} {it : DTI} {g : DTG} {tt : DTT} {te : DTE} (hc : X.calm = true) (hN : X.N.Nodup) (hi : DI X F T tg iter it) (ok : BlkOk X.N X.env.scope scope own)
    (hg : ∀ (s : Shared) (H : Hp) (C : Addr) (cl : List (Str × Addr)) (fp : List Addr), DG (X.blk s H scope (compEnvC scope cl C X.env) fp) F T (own.map (·.2)) tg g) (ht : ∀ (s : Shared) (H : Hp) (C : Addr) (cl : List (Str × Addr)) (fp : List Addr), PTs (X.blk s H scope (compEnvC scope cl C X.env) fp) ifs (liftT X.K F T tt))
    (he : ∀ (s : Shared) (H : Hp) (C : Addr) (cl : List (Str × Addr)) (fp : List Addr), DE (X.blk s H scope (compEnvC scope cl C X.env) fp) F T elt te) (hs : ∀ x, foldedSetIterable iter X.env x = pure x := by intro _; rfl) :
    DE X F T (.ListComp elt [⟨tg, iter, ifs, 0⟩] scope pos) (dLc it g tt te (own.map (·.2))) := PE.cons (pe_lc hc hN hi ok hg ht he hs) fun _ _ _ h => lift_lc h
theorem ds_setLc {i : Nat} {y : Str} {py : Pos} {elt tg iter : Expr} {ifs : List Expr} {scope : Scope} {own : List (Str × Nat)} {pos spos : Pos} {it : DTI} {g : DTG} {tt : DTT} {te : DTE} (hc : X.calm = true) (hN : X.N.Nodup) (hy : X.N[i]? = some y) (hyl : X.env.scope.names.lookup y = some .local)
    (hsw : swapsWith (.ListComp elt [⟨tg, iter, ifs, 0⟩] scope pos) (some (.Name y py)) spos.line X.env = pure true) (hi : DI X F T tg iter it) (ok : BlkOk X.N X.env.scope scope own)
    (hg : ∀ (s : Shared) (H : Hp) (C : Addr) (cl : List (Str × Addr)) (fp : List Addr), DG (X.blk s H scope (compEnvC scope cl C X.env) fp) F T (own.map (·.2)) tg g) (ht : ∀ (s : Shared) (H : Hp) (C : Addr) (cl : List (Str × Addr)) (fp : List Addr), PTs (X.blk s H scope (compEnvC scope cl C X.env) fp) ifs (liftT X.K F T tt))
    (he : ∀ (s : Shared) (H : Hp) (C : Addr) (cl : List (Str × Addr)) (fp : List Addr), DE (X.blk s H scope (compEnvC scope cl C X.env) fp) F T elt te) (hs : ∀ x, foldedSetIterable iter X.env x = pure x := by intro _; rfl) :
    DS X F T (.Assign [.Name y py] (.ListComp elt [⟨tg, iter, ifs, 0⟩] scope pos) spos) (dAsg (dLc it g tt te (own.map (·.2))) (gN i)) := PS.cons (ps_setLc hc hN hy hyl hsw hi ok hg ht he hs) fun D σ H ⟨Φ, W, ρ, P, iv, hΦ, st, h, kn, kr, kb, kc⟩ => by
  have h' : liftE X.K F T (dLc it g tt te (own.map (·.2))) σ H (fun v H1 => D.nx (σ.set i (some v)) H1) := ⟨W, ρ, _, st, h, fun v H1 d g r q => kn W _ _ H1 rfl rfl (iv.go _ _ _ hΦ g) ((st.go g).set (srp_of r) (rp_notmut r)) q⟩
  exact lift_lc h'
/-! ### reads of a def's own lists -/
def dFrz (t : DTE) : DTE := fun ρ P => t (thawR ρ) fun d => nolst d = true ∧ P d
def dFrzT (t : DTT) : DTT := fun ρ P => t (thawR ρ) P
variable {e : Expr} {pos : Pos}
theorem de_frz {t : DTE} (h : DE X F T e t) : DE X F T e (dFrz t) := PE.cons h fun σ H Q ⟨W, ρ, P, st, h, k⟩ =>
  ⟨W.thawed σ ρ, thawR ρ, _, st.thaw, h, fun v H1 d g r q => k v H1 d g (Rp.free (W := W.thawed σ ρ) (W' := W) d v q.1 r) q.2⟩
theorem dt_frz {t : DTT} (h : DTs X F T e t) : DTs X F T e (dFrzT t) := PT.cons h fun σ H Q ⟨W, ρ, P, st, h, k⟩ =>
  ⟨W.thawed σ ρ, thawR ρ, _, st.thaw, h, fun b H1 g q => k b H1 g q⟩
/-- x = [..], to be lengthened -/
def dNew (i : Nat) (t : DTA) : DTS := fun D ρ => t ρ fun ds => ds.length ≤ line ∧ D.nx (ρ.set i (some (mutD ds)))
/-- x.append(e) -/
def dApp (i : Nat) (t : DTE) : DTS := fun D ρ => ∃ ds, ρ[i]? = some (some (mutD ds)) ∧ t ρ fun d => ds.length < line ∧ D.nx (ρ.set i (some (mutD (ds ++ [d]))))
theorem Stt.laid {K : PySem.W.Frag} {W : Md} {σ : L2.St} {ρ : Rho} {H : Hp} (st : Stt K F T W σ ρ H) {p : Addr} {o : HO} (hp : H p = none) {i : Nat} {d : Dt} (r : SRp K F (W.add p) (upd H p o) (.ref p) d) : Stt K F T (W.add p) (σ.set i (some (.ref p))) (ρ.set i (some d)) (upd H p o) := by
  have st2 : Stt K F T (W.add p) σ ρ (upd H p o) := st.over hp (Go.new hp) (by rw [upd_same]; exact fun z => nomatch z)
  have nm : ∀ (j : Nat) (e : Dt), ρ[j]? = some (some e) → isMut e = true → σ[j]? ≠ some (some (.ref p)) := fun j e q m z => by
    obtain ⟨v, e1, r⟩ := st.env j e q
    rw [e1] at z
    cases z
    unfold SRp at r
    split at r
    · obtain ⟨a, xs, q, _, _, e2, _⟩ := r
      cases q; rw [hp] at e2; cases e2
    · obtain ⟨a, xs, l, _, q, _, _, e2, _⟩ := r
      cases q; rw [hp] at e2; cases e2
    · rw [rp_notmut r] at m; cases m
  refine ⟨by rw [List.length_set, List.length_set]; exact st.len, fun j e q => ?_, fun j k d1 e1 hn q1 q2 m1 m2 => ?_, st2.mok, st2.so, st2.om, st2.tabs, st2.hF⟩
  · by_cases c : i = j
    · subst c
      by_cases hr : i < ρ.length
      · rw [List.getElem?_set_self hr] at q
        cases q
        exact ⟨_, List.getElem?_set_self (Nat.lt_of_lt_of_le hr st.len), r⟩
      · rw [List.getElem?_eq_none (by simpa using hr)] at q
        cases q
    · rw [List.getElem?_set_ne c] at q ⊢
      exact st2.env j e q
  · have hi : ∀ {a : Nat} {b : Dt}, (ρ.set i (some d))[a]? = some (some b) → a = i → σ.length > i := fun {a b} q z => by
      subst z
      have : a < (ρ.set a (some d)).length := (List.getElem?_eq_some_iff.mp q).1
      rw [List.length_set] at this
      exact Nat.lt_of_lt_of_le this st.len
    by_cases cj : i = j
    · by_cases ck : i = k
      · exact absurd (cj.symm.trans ck) hn
      · rw [← cj, List.getElem?_set_self (hi q1 cj.symm), List.getElem?_set_ne ck]
        rw [List.getElem?_set_ne ck] at q2
        exact fun z => nm k e1 q2 m2 z.symm
    · rw [List.getElem?_set_ne cj] at q1 ⊢
      by_cases ck : i = k
      · rw [← ck, List.getElem?_set_self (hi q2 ck.symm)]
        exact nm j d1 q1 m1
      · rw [List.getElem?_set_ne ck] at q2 ⊢
        exact st.uniq j k d1 e1 hn q1 q2 m1 m2
theorem Stt.celled {K : PySem.W.Frag} {W : Md} {σ : L2.St} {ρ : Rho} {H : Hp} (st : Stt K F T W σ ρ H) {l : Addr} {u o : HO} (hl : H l = some u) (cu : cellO u = true) {i : Nat} {d0 d : Dt} (h0 : ρ[i]? = some (some d0)) (m0 : isMut d0 = true) (hi : σ[i]? = some (some (.ref l))) (hm : W.m l) (ho : ¬ W.o l)
    (md : isMut d = true) (r : SRp K F W (upd H l o) (.ref l) d) : Stt K F T W σ (ρ.set i (some d)) (upd H l o) := by
  have ns : ¬ W.s l := fun z => ho (st.so l z)
  refine ⟨by rw [List.length_set]; exact st.len, fun j e q => ?_, fun j k d1 e1 hn q1 q2 m1 m2 => ?_, fun b z => ?_, st.so, st.om, tabs_cell st.tabs hl cu, st.hF⟩
  · by_cases c : i = j
    · subst c
      have hr : i < ρ.length := (List.getElem?_eq_some_iff.mp h0).1
      rw [List.getElem?_set_self hr] at q
      cases q
      exact ⟨_, hi, r⟩
    · rw [List.getElem?_set_ne c] at q
      obtain ⟨v, e1, r'⟩ := st.env j e q
      refine ⟨v, e1, ?_⟩
      by_cases me : isMut e = true
      · have nv : v ≠ .ref l := fun z => st.uniq i j d0 e c h0 q m0 me (by rw [hi, e1, z])
        unfold SRp at r' ⊢
        split at r'
        · obtain ⟨a, xs, rfl, m, no, e2, r'⟩ := r'
          exact ⟨a, xs, rfl, m, no, by rw [upd_ne (fun z => nv (by rw [z]))]; exact e2, r'.cellch st.hF hm ns hl cu⟩
        · obtain ⟨a, xs, ll, el, rfl, m, no, e2, r'⟩ := r'
          exact ⟨a, xs, ll, el, rfl, m, no, by rw [upd_ne (fun z => nv (by rw [z]))]; exact e2, kv_cellch hl cu r'⟩
        · exact Rp.cellch st.hF hm ns hl cu r'
      · exact srp_of ((srp_rp r' (by simpa using me)).cellch st.hF hm ns hl cu)
  · have nj : ∀ {a : Nat} {b : Dt}, (ρ.set i (some d))[a]? = some (some b) → isMut b = true → ∃ b', ρ[a]? = some (some b') ∧ isMut b' = true := fun {a b} q m => by
      by_cases c : i = a
      · subst c; exact ⟨d0, h0, m0⟩
      · rw [List.getElem?_set_ne c] at q; exact ⟨b, q, m⟩
    obtain ⟨b1, x1, y1⟩ := nj q1 m1
    obtain ⟨b2, x2, y2⟩ := nj q2 m2
    exact st.uniq j k b1 b2 hn x1 x2 y1 y2
  · by_cases c : b = l
    · rw [c, upd_same]; exact fun z => nomatch z
    · rw [upd_ne c]; exact st.mok b z
theorem ds_new {i : Nat} {x : Str} {es : List Expr} {ta : DTA} {pos' p2 : Pos} (hN : X.N.Nodup) (hi : X.N[i]? = some x) (hx : Loc X.env.scope x) (ha : DA X F T es ta) (hs : swapsWith (.List es p2) (some (.Name x pos')) pos.line X.env = pure false := by rfl) (hf : X.fn x = true ∨ X.env.scope.names.lookup x = some .local := by first | exact .inl rfl | exact .inr rfl | assumption) :
    DS X F T (.Assign [.Name x pos'] (.List es p2) pos) (dNew i ta) := PS.cons (ps_set hN hi hx (pe_lst ha) hs hf) fun D σ H ⟨Φ, W, ρ, P, iv, hΦ, st, h, kn, kr, kb, kc⟩ =>
  ⟨W, ρ, _, st, h, fun xs H1 ds g r q => ⟨by rw [r.len]; exact Nat.le_trans q.1 line_le, fun p hp => by
    have st1 := st.go g
    refine kn (W.add p) _ _ _ rfl rfl (iv.grow _ _ _ _ (iv.go _ _ _ hΦ g) hp rfl) (st1.laid hp ?_) q.2
    exact ⟨p, xs, rfl, Or.inr rfl, fun z => st1.free hp (st1.om p z), upd_same, r.over (T := T) st.hF st.sm hp (Go.new hp)⟩⟩⟩
theorem ds_app {i : Nat} {o : Expr} {t : DTE} {apos cpos : Pos} (ho : PE X o (tVar i)) (he : DE X F T e t) (hbase : attributeBase o "append" X.env (eval o X.env) = eval o X.env := by rfl)
    (hfew : ((backTo cpos (starEach [e] X.env)).all (fun x => !x.1) && (backToKw cpos (keywordEach [] X.env)).all (fun x => x.1.isSome) && decide (([e] : List Expr).length + ([] : List Keyword).length + (if ([] : List Keyword).isEmpty then 0 else 1) < 30)) = true := by rfl)
    (hline : (apos.endLine == cpos.line) = true := by rfl) (hs : starEach [e] X.env = (false, eval e X.env) :: starEach [] X.env := by rfl) (hplain : (backTo cpos (starEach [] X.env)).any (·.1) = false := by rfl)
    (hsw : swapsWith (.Call (.Attribute o "append" apos) [e] [] cpos) none pos.line X.env = pure false := by rfl) :
    DS X F T (.Expr (.Call (.Attribute o "append" apos) [e] [] cpos) pos) (dApp i t) :=
  PS.cons (ps_expr (pe_bm PySem.F.plainAttrs_list PySem.F.slot_list_append PySem.F.type_list_append mt_append ho (pa_cons he pa_nil hs) hbase hfew hline hs hplain) hsw) fun D σ H ⟨Φ, W, ρ, P, iv, hΦ, st, ⟨ds, h0, h⟩, kn, kr, kb, kc⟩ => by
  obtain ⟨v, e1, r0⟩ := st.env i _ h0
  obtain ⟨l, xs, rfl, m, no, e2, r0⟩ := r0
  refine ⟨.ref l, e1, .inl ⟨rfl, _, SqL.of e2⟩, W, ρ, _, st, h, fun y H1 d g r q => ?_⟩
  have st1 := st.go g
  have e3 := g.keep l _ e2 rfl fun z => no (st.so l z)
  have r1 := st.rps g r0
  refine ⟨l, xs, y, rfl, rfl, e3, Nat.lt_of_lt_of_le (by rw [r0.len]; exact q.1) line_le, ?_⟩
  refine kn W _ _ _ rfl rfl (iv.cell _ _ _ _ _ (iv.go _ _ _ hΦ g) m no e3 rfl rfl) (st1.celled e3 rfl h0 rfl e1 m no rfl ?_) q.2
  exact ⟨l, _, rfl, m, no, upd_same, (r1.append (.cons r .nil)).cellch st.hF m (fun z => no (st.so l z)) e3 rfl⟩
end
end DL
/-! Built-ins over data. -/
namespace DL
open PySem PySem.Spec PyProof.Rows L2 LamX
def sLen : DSp := fun ds P => match ds with
  | [.list xs] => P (.int xs.length)
  | [.tuple xs] => P (.int xs.length)
  | [.dict [(.none, .list xs)]] => P (.int xs.length)
  | _ => False
def sInt : DSp := fun ds P => match ds with
  | [.int i] => P (.int i)
  | [.bool b] => P (.int (if b then 1 else 0))
  | _ => False
def sAbs : DSp := fun ds P => match ds with
  | [.int i] => P (.int (if i < 0 then -i else i))
  | _ => False
def sMin2 : DSp := fun ds P => match ds with
  | [.int i, .int j] => P (.int (if j < i then j else i))
  | _ => False
def sMax2 : DSp := fun ds P => match ds with
  | [.int i, .int j] => P (.int (if j > i then j else i))
  | _ => False
def sMinI : DSp := fun ds P => ∃ ns : List Int, ds = [.list (ns.map .int)] ∧ ns ≠ [] ∧ ∀ m, m ∈ ns → (∀ y, y ∈ ns → m ≤ y) → P (.int m)
def sMaxI : DSp := fun ds P => ∃ ns : List Int, ds = [.list (ns.map .int)] ∧ ns ≠ [] ∧ ∀ m, m ∈ ns → (∀ y, y ∈ ns → y ≤ m) → P (.int m)
def sAll : DSp := fun ds P => ∃ bs : List Bool, ds = [.list (bs.map .bool)] ∧ P (.bool (bs.all id))
def sTuple : DSp := fun ds P => match ds with
  | [.list xs] => P (.tuple xs)
  | [.tuple xs] => P (.tuple xs)
  | _ => False
/-- min of alike data -/
def onMin : List Dt → (Dt → Prop) → Prop
  | x :: xs, P => PySem.W.AlikeAll (x :: xs) ∧ PyData.canLayAll0 (x :: xs) = true ∧ PyData.depthAll (x :: xs) ≤ 50 ∧ P (PySem.W.minD x xs)
  | [], _ => False
def sMinD : DSp := fun ds P => match ds with
  | [.list xs] => onMin xs P
  | _ => False
/-- sorted of alike data -/
def sSort : DSp := fun ds P => match ds with
  | [.list xs] => PyData.canLayAll0 xs = true ∧ PySem.W.AllAlike xs ∧ PySem.W.Sortable xs ∧ (∀ x ∈ xs, x.depth ≤ 50) ∧ xs.length ≤ line ∧ P (.list (xs.mergeSort (PySem.W.dataLe false id)))
  | _ => False
def isTy (n : String) : Dt → Option Bool
  | .int _ => some (n == "int")
  | .bool _ => some (n == "bool" || n == "int")
  | .str _ => some (n == "str")
  | .none => some false
  | .list _ => some (n == "list")
  | .tuple _ => some (n == "tuple")
  | .dict _ => none
def dIsi (n : String) (t : DTE) : DTE := fun ρ P => t ρ fun d => match isTy n d with
  | some b => P (.bool b)
  | none => False
section
variable {X : Cx} {F : FAT} {T : List (Addr × Str)}
theorem cd_len : CallR X (.builtin "len") (liftC X.K F T sLen) := by
  refine CallR.cons call_len_seq fun vs H Q ⟨W, ds, P, st, r, h, k⟩ => ?_
  cases r with
  | nil => exact h.elim
  | cons a r =>
    cases r with
    | cons => cases a <;> exact h.elim
    | nil =>
      cases a with
      | lst m e r => exact ⟨_, _, rfl, .inl (SqL.of e), by rw [r.len]; exact k _ _ _ (Go.refl T W.s H) (.int _) h⟩
      | tup e r => exact ⟨_, _, rfl, .inr e, by rw [r.len]; exact k _ _ _ (Go.refl T W.s H) (.int _) h⟩
      | @scr a ns e => exact ⟨_, _, rfl, .inl e.sq, by
          have h' : P (.int (ns.map PyData.int).length) := h
          rw [List.length_map] at h' ⊢
          exact k _ _ _ (Go.refl T W.s H) (.int _) h'⟩
      | _ => exact False.elim h
theorem cd_int : CallR X (.type "int") (liftC X.K F T sInt) := by
  refine CallR.cons call_int1 fun vs H Q ⟨W, ds, P, st, r, h, k⟩ => ?_
  cases r with
  | nil => exact h.elim
  | cons a r =>
    cases r with
    | cons => cases a <;> exact h.elim
    | nil =>
      cases a with
      | int i => exact .inl ⟨_, rfl, k _ _ _ (Go.refl T W.s H) (.int _) h⟩
      | bl b => exact .inr ⟨_, rfl, k _ _ _ (Go.refl T W.s H) (.int _) h⟩
      | _ => exact False.elim h
theorem cd_abs : CallR X (.builtin "abs") (liftC X.K F T sAbs) := by
  refine CallR.cons call_abs fun vs H Q ⟨W, ds, P, st, r, h, k⟩ => ?_
  cases r with
  | nil => exact h.elim
  | cons a r =>
    cases r with
    | cons => cases a <;> exact h.elim
    | nil =>
      cases a with
      | int i => exact ⟨_, rfl, k _ _ _ (Go.refl T W.s H) (.int _) h⟩
      | _ => exact False.elim h
theorem cd_min2 (hc : X.calm = true) : CallR X (.builtin "min") (liftC X.K F T sMin2) := by
  refine CallR.cons (call_min2 hc) fun vs H Q ⟨W, ds, P, st, r, h, k⟩ => ?_
  cases r with
  | nil => exact h.elim
  | cons a r =>
    cases r with
    | nil => cases a <;> exact h.elim
    | cons b r =>
      cases r with
      | cons => cases a <;> cases b <;> exact h.elim
      | nil =>
        cases a with
        | int i =>
          cases b with
          | int j => exact ⟨_, _, rfl, k _ _ _ (Go.refl T W.s H) (.int _) h⟩
          | _ => exact False.elim h
        | _ => cases b <;> exact False.elim h
theorem cd_max2 (hc : X.calm = true) : CallR X (.builtin "max") (liftC X.K F T sMax2) := by
  refine CallR.cons (call_max2 hc) fun vs H Q ⟨W, ds, P, st, r, h, k⟩ => ?_
  cases r with
  | nil => exact h.elim
  | cons a r =>
    cases r with
    | nil => cases a <;> exact h.elim
    | cons b r =>
      cases r with
      | cons => cases a <;> cases b <;> exact h.elim
      | nil =>
        cases a with
        | int i =>
          cases b with
          | int j => exact ⟨_, _, rfl, k _ _ _ (Go.refl T W.s H) (.int _) h⟩
          | _ => exact False.elim h
        | _ => cases b <;> exact False.elim h
theorem ints_of {K : PySem.W.Frag} {W : Md} {H : Hp} : ∀ {vs : List V} {ns : List Int}, RpAll K F W H vs (ns.map .int) → vs = ns.map V.int
  | _, [], h => by cases h; rfl
  | _, n :: ns, h => by
    cases h with
    | cons a b => rw [rp_int a, ints_of b]; rfl
theorem bools_of {K : PySem.W.Frag} {W : Md} {H : Hp} : ∀ {vs : List V} {ns : List Bool}, RpAll K F W H vs (ns.map .bool) → vs = ns.map V.bl
  | _, [], h => by cases h; rfl
  | _, n :: ns, h => by
    cases h with
    | cons a b => rw [rp_bool a, bools_of b]; rfl
theorem cd_minI (hc : X.calm = true) : CallR X (.builtin "min") (liftC X.K F T sMinI) := by
  refine CallR.cons (cr_min hc) fun vs H Q ⟨W, ds, P, st, r, hh, k⟩ => ?_
  obtain ⟨ns, rfl, ne, h⟩ := hh
  cases r with
  | cons a r =>
    cases r
    cases a with
    | lst m e r =>
      rw [ints_of r] at e
      exact ⟨_, ns, rfl, SqL.of e, List.length_pos_iff.mpr ne, fun m h1 h2 => k _ _ _ (Go.refl T W.s H) (.int _) (h m h1 h2)⟩
theorem cd_maxI (hc : X.calm = true) : CallR X (.builtin "max") (liftC X.K F T sMaxI) := by
  refine CallR.cons (cr_max hc) fun vs H Q ⟨W, ds, P, st, r, hh, k⟩ => ?_
  obtain ⟨ns, rfl, ne, h⟩ := hh
  cases r with
  | cons a r =>
    cases r
    cases a with
    | lst m e r =>
      rw [ints_of r] at e
      exact ⟨_, ns, rfl, SqL.of e, List.length_pos_iff.mpr ne, fun m h1 h2 => k _ _ _ (Go.refl T W.s H) (.int _) (h m h1 h2)⟩
theorem cd_all (hc : X.calm = true) : CallR X (.builtin "all") (liftC X.K F T sAll) := by
  refine CallR.cons (cr_all hc) fun vs H Q ⟨W, ds, P, st, r, hh, k⟩ => ?_
  obtain ⟨ns, rfl, h⟩ := hh
  cases r with
  | cons a r =>
    cases r
    cases a with
    | lst m e r =>
      rw [bools_of r] at e
      exact ⟨_, ns, rfl, SqL.of e, k _ _ _ (Go.refl T W.s H) (.bl _) h⟩
theorem cd_tuple : CallR X (.type "tuple") (liftC X.K F T sTuple) := by
  refine CallR.cons call_tuple_of fun vs H Q ⟨W, ds, P, st, r, h, k⟩ => ?_
  cases r with
  | nil => exact h.elim
  | cons a r =>
    cases r with
    | cons => cases a <;> exact h.elim
    | nil =>
      cases a with
      | lst m e r => exact ⟨_, _, rfl, .inl ⟨SqL.of e, fun l hl => k _ _ _ (Go.new hl) (.tup (SqT.of upd_same) (st.rps (Go.new hl) r)) h⟩⟩
      | tup e r => exact ⟨_, _, rfl, .inr ⟨e, k _ _ _ (Go.refl T W.s H) (.tup e r) h⟩⟩
      | _ => exact False.elim h
theorem ty_of {K : PySem.W.Frag} {W : Md} {H : Hp} {n : String} {v : V} {d : Dt} {b : Bool} (hn : n = "int" ∨ n = "bool" ∨ n = "str" ∨ n = "tuple" ∨ n = "list") (r : Rp K F W H v d) (h : isTy n d = some b) : ∃ t, TyX K H v t ∧ PySem.W.kitOne K t (.type n) = some b := by
  cases r with
  | non => refine ⟨_, .base .non, ?_⟩; cases h; rcases hn with rfl | rfl | rfl | rfl | rfl <;> exact kit_ty (by decide +kernel)
  | bl x => refine ⟨_, .base (.bl x), ?_⟩; cases h; rcases hn with rfl | rfl | rfl | rfl | rfl <;> exact kit_ty (by decide +kernel)
  | int x => refine ⟨_, .base (.int x), ?_⟩; cases h; rcases hn with rfl | rfl | rfl | rfl | rfl <;> exact kit_ty (by decide +kernel)
  | str x => refine ⟨_, .base (.str x), ?_⟩; cases h; rcases hn with rfl | rfl | rfl | rfl | rfl <;> exact kit_ty (by decide +kernel)
  | lst m e r => refine ⟨_, .base (.lst e), ?_⟩; cases h; rcases hn with rfl | rfl | rfl | rfl | rfl <;> exact kit_ty (by decide +kernel)
  | tup e r =>
    cases h
    have q : PySem.W.kitOne K (.type "tuple") (.type n) = some (n == "tuple") := by rcases hn with rfl | rfl | rfl | rfl | rfl <;> exact kit_ty (by decide +kernel)
    rcases e with (e | ⟨o, e⟩) | ⟨o, its, m, e, c, _⟩
    · exact ⟨_, .base (.tup e), q⟩
    · exact ⟨_, .fTuple e, q⟩
    · exact ⟨_, .kTuple e c, q⟩
  | _ => cases h
theorem de_isi {n : String} {e : Expr} {t : DTE} {pos p p2 : Pos} {x : Str} (hn : n = "int" ∨ n = "bool" ∨ n = "str" ∨ n = "tuple" ∨ n = "list") (hg : Gl X "isinstance") (hm : X.mg "isinstance" = none) (hx : Gl X x) (hmx : X.mg x = none) (hv : bootBuiltins x = some (.type n)) (he : DE X F T e t)
    (hv0 : bootBuiltins "isinstance" = some (.builtin "isinstance") := by decide +kernel) (hnn : x ≠ "__name__" := by decide) (hdb : (x == ("__debug__" : Str)) = false := by decide)
    (hs : starEach [e, .Name x p2] X.env = (false, eval e X.env) :: starEach [.Name x p2] X.env := by rfl) (hs2 : starEach [.Name x p2] X.env = (false, eval (.Name x p2) X.env) :: starEach [] X.env := by rfl) (hpl : (backTo pos (starEach [.Name x p2] X.env)).any (·.1) = false := by rfl) :
    DE X F T (.Call (.Name "isinstance" p) [e, .Name x p2] [] pos) (dIsi n t) :=
  PE.cons (pe_callB call_isi hg hm hv0 (pa_cons he (pa_cons (pe_bltn (v := .ty n) hx hmx hv rfl hnn hdb) pa_nil hs2) hs) (by decide) (by decide) hs hpl) fun σ H Q ⟨W, ρ, P, st, h, k⟩ => ⟨W, ρ, _, st, h, fun v H1 d g r q => by
    show rIsi X.K [v, .ty n] H1 Q
    split at q
    · rename_i b hb
      obtain ⟨t, ty, hk⟩ := ty_of hn r hb
      exact ⟨v, _, t, _, b, rfl, .ty n, ty, hk, k _ _ _ g (.bl b) q⟩
    · exact q.elim⟩
theorem cd_minD (hc : X.calm = true) (hu : X.A.units + 64 < cLine) : CallR X (.builtin "min") (liftC X.K F T sMinD) := by
  intro pins s σ H vs us Q I rv ⟨W, ds, P, st, r, h, k⟩
  cases r with
  | nil => exact h.elim
  | cons a r =>
    cases r with
    | cons => cases a <;> exact h.elim
    | nil =>
      cases a with
      | @lst a xs ds m e r =>
        cases ds with
        | nil => exact h.elim
        | cons d ds =>
          obtain ⟨h1, h2, h3, h4⟩ := h
          obtain ⟨its, rv2, hl, _⟩ := I.list (SqL.of (K := X.K) e)
          rw [Vals.ref1 rv]
          obtain ⟨as, hr⟩ := Dp.readsAll I (d :: ds) xs its (RpAll.dp _ _ h2 r) rv2
          refine PySem.W.min_list_data (I.ok.hd hc) hl.isList (by simpa using hr) h1 (by omega) fun i v h' tk bs hv hrd hk => ?_
          have hv' : its[i]? = some v := by simpa using hv
          have hlen : i < xs.length := by
            have := (List.getElem?_eq_some_iff.mp hv').1
            rw [rv2.length]; exact this
          obtain ⟨u, hu1, ru⟩ := rv2.get (List.getElem?_eq_getElem hlen)
          rw [hv'] at hu1
          cases hu1
          obtain ⟨d0, hd0, rd⟩ := r.getV (List.getElem?_eq_getElem hlen)
          have cl : d0.canLay0 = true := by
            have q := h2
            have : ∀ (l : List Dt) (i : Nat) (z : Dt), PyData.canLayAll0 l = true → l[i]? = some z → z.canLay0 = true := by
              intro l
              induction l with
              | nil => intro i z _ e; simp at e
              | cons y l ih =>
                intro i z c e
                have c' : y.canLay0 = true ∧ PyData.canLayAll0 l = true := by simpa [PyData.canLayAll0] using c
                cases i with
                | zero => simp at e; subst e; exact c'.1
                | succ i => exact ih i z c'.2 (by simpa using e)
            exact this _ i d0 q hd0
          obtain ⟨as2, rd2⟩ := Dp.reads I d0 _ v (rd.dp _ _ cl) ru
          have ed : d0 = PySem.W.minD d ds := SeqAt.Reads.unique d0 _ v _ _ cl (PyProof.Rows.Reads.keeps hk rd2) hrd
          rw [← ed] at h4
          exact ⟨_, H, I.kept (t' := tk) hk, ru, k _ _ _ (Go.refl T W.s H) rd h4⟩
      | _ => exact False.elim h
theorem each_reads {K : PySem.W.Frag} {W : Md} {pins : List (Addr × Obj)} {σ : L2.St} {H : Hp} {s : Shared} (I : Inv X pins σ H s) : ∀ {vs : List V} {ds : List Dt} {its : List Value}, PyData.canLayAll0 ds = true → RpAll X.K F W H vs ds → Vals vs its →
    PySem.W.EachIs (fun v b => ∃ as, Reads s.heap v (id b) as) its ds ∧ PySem.W.EachIs (fun v d => ∃ x, RelV x v ∧ Rp X.K F W H x d) its ds
  | _, _, _, _, .nil, .nil => ⟨.nil, .nil⟩
  | _, d :: ds, _, c, .cons a r, .cons b t => by
    have c' : d.canLay0 = true ∧ PyData.canLayAll0 ds = true := by simpa [PyData.canLayAll0] using c
    obtain ⟨h1, h2⟩ := each_reads (K := K) I c'.2 r t
    exact ⟨.cons (Dp.reads I d _ _ (a.dp _ _ c'.1) b) h1, .cons ⟨_, b, a⟩ h2⟩
theorem each_back {K : PySem.W.Frag} {W : Md} {H : Hp} : ∀ {out : List Value} {ds : List Dt}, PySem.W.EachIs (fun v d => ∃ x, RelV x v ∧ Rp K F W H x d) out ds → ∃ vs, Vals vs out ∧ RpAll K F W H vs ds
  | _, _, .nil => ⟨[], .nil, .nil⟩
  | _, _, .cons ⟨x, r, a⟩ t => by
    obtain ⟨vs, h1, h2⟩ := each_back t
    exact ⟨x :: vs, .cons r h1, .cons a h2⟩
theorem cd_sort (hu : X.A.units + 64 < cLine) : CallR X (.builtin "sorted") (liftC X.K F T sSort) := by
  intro pins s σ H vs us Q I rv ⟨W, ds, P, st, r, h, k⟩
  cases r with
  | nil => exact h.elim
  | cons a r =>
    cases r with
    | cons => cases a <;> exact h.elim
    | nil =>
      cases a with
      | @lst a xs ds m e r =>
        obtain ⟨h1, h2, h3, h4, h5, h6⟩ := h
        obtain ⟨its, rv2, hl, _⟩ := I.list (SqL.of (K := X.K) e)
        rw [Vals.ref1 rv]
        obtain ⟨er, eR⟩ := each_reads (K := X.K) I h1 r rv2
        refine PySem.W.sorted_data (enc := id) (R := fun v d => ∃ x, RelV x v ∧ Rp X.K F W H x d) hl.isList eR er (by rw [List.map_id]; exact h2) (by rw [List.map_id]; exact h3) (Nat.le_trans h5 line_le) (fun b hb => by
          have := h4 b hb
          show X.A.units + 2 + b.depth < cLine
          omega) fun out hlen hout => ?_
        obtain ⟨vs', v1, v2⟩ := each_back hout
        obtain ⟨ep, he'⟩ := PyProof.Rows.sortedAll_at s.heap its out.toArray
        have hlen2 : vs'.length ≤ sizeLine := by rw [v1.length, hlen]; exact Nat.le_trans h5 line_le
        have hp : H (s.heap.objs.size + 1) = none := I.hok.fresh (Nat.le_succ _)
        refine ⟨.ref _, upd H (s.heap.objs.size + 1) (.lst vs'), I.laid (t' := s.toks) (fun _ _ => PyProof.Rows.sortedAll_old) (Nat.le_succ _) ⟨hlen2, out, ep, v1, by simpa using he'⟩, rfl, ?_⟩
        exact k _ _ _ (Go.new hp) (.lst (st.free hp) upd_same (st.rps (Go.new hp) v2)) h6
      | _ => exact False.elim h
end
end DL
/-! sorted(zip(t, u)) of two tuples. -/
namespace DL
open PySem PySem.Spec PyProof.Rows L2 LamX
section
variable {prog : Program} {w : World} {A : Around} {E : Value → Shared → Prop} {s : Shared}
theorem zipT_next_item_held {z TI TO T i1 i2 l1 l2 : Addr} {f : Bool} {oT : Obj} {k1 k2 : Nat} {xs ys : Array Value} {x y : Value} {Q : Value → Shared → Prop} (D : ZipApart z TI TO i1 i2 l1 l2)
    (hz : IsZipHeld s.heap z TI TO T f) (hT : s.heap.get? T = some oT) (hTI : IsPair s.heap TI (.ref i1) (.ref i2))
    (h1 : s.heap.IsTupleIter i1 l1 k1) (h2 : s.heap.IsTupleIter i2 l2 k2) (hl1 : s.heap.IsTuple l1 xs) (hl2 : s.heap.IsTuple l2 ys) (hx : xs[k1]? = some x) (hy : ys[k2]? = some y)
    (hQ : ∀ h', IsZipHeld h' z TI TO T true → h'.IsTupleIter i1 l1 (k1 + 1) → h'.IsTupleIter i2 l2 (k2 + 1) → IsPair h' s.heap.objs.size x y → h'.objs.size = s.heap.objs.size + 1 →
      (∀ c o, c ≠ z → c ≠ i1 → c ≠ i2 → s.heap.get? c = some o → h'.get? c = some o) → Q (.ref s.heap.objs.size) { s with heap := h' }) :
    wpAny (model prog w) A (Builtin.«zip.__next__» ⟨[.ref z], []⟩) (fun fin s' => ∃ v, fin = .done (.ret v) ∧ Q v s') E s := by
  show wpAny _ _ (field (.ref z) 2 >>= _) _ _ _
  refine wpAny_bind (wpAny_field hz rfl (x := .bool false) rfl ?_)
  show wpAny _ _ (field (.ref z) 3 >>= _) _ _ _
  refine wpAny_bind (wpAny_field hz rfl (x := .ref TI) rfl ?_)
  refine wpAny_bind (wpAny_seqItems hTI rfl ?_)
  show wpAny _ _ (Builtin.SmallTypes.ownedTupleIsFree (.ref z) >>= _) _ _ _
  refine wpAny_bind (wpAny_tupleHeld_zip hz hT fun h₁ hz₁ hs₁ => ?_)
  simp only [Bool.false_eq_true, if_false]
  refine wpAny_bind ?_
  rw [← Array.forIn_toList]
  simp only [List.forIn_cons, List.forIn_nil]
  refine wpAny_bind (wpAny_bind (wpAny_holding ?_))
  show wpAny _ _ (Builtin.SmallTypes.nextOf (.ref i1) >>= _) _ _ _
  refine wpAny_bind (RZ.nextOf_tuple_item (s := { s with heap := h₁ }) (h1.extBut hs₁.extBut D.i1z) (hl1.extBut hs₁.extBut D.l1z) hx fun h₂ h1₂ hs₂ => wpAny_pure ?_)
  refine wpAny_pure ?_
  refine wpAny_bind (wpAny_bind (wpAny_holding ?_))
  show wpAny _ _ (Builtin.SmallTypes.nextOf (.ref i2) >>= _) _ _ _
  refine wpAny_bind (RZ.nextOf_tuple_item (s := { s with heap := h₂ }) ((h2.extBut hs₁.extBut D.i2z).extBut hs₂.extBut D.i12.symm) ((hl2.extBut hs₁.extBut D.l2z).extBut hs₂.extBut D.l2i1) hy fun h₃ h2₃ hs₃ => wpAny_pure ?_)
  refine wpAny_pure (wpAny_pure ?_)
  show wpAny _ _ (newTuple [x, y] >>= _) _ _ _
  refine wpAny_bind (wpAny_newTuple ?_)
  have hsz : h₃.objs.size = s.heap.objs.size := by rw [hs₃.1, hs₂.1, hs₁.1]
  have hz₃ : IsZipHeld h₃ z TI TO T true := hs₃.extBut _ _ D.i2z.symm (hs₂.extBut _ _ D.i1z.symm hz₁)
  have hk : ∀ c o, c ≠ z → c ≠ i1 → c ≠ i2 → s.heap.get? c = some o → h₃.get? c = some o := fun c o c1 c2 c3 e => hs₃.extBut _ _ c3 (hs₂.extBut _ _ c2 (hs₁.extBut _ _ c1 e))
  have h1₃ : h₃.IsTupleIter i1 l1 (k1 + 1) := h1₂.extBut hs₃.extBut D.i12
  refine wpAny_pure ⟨_, rfl, ?_⟩
  show Q (.ref h₃.objs.size) _
  have hp : IsPair (h₃.push { cls := .type "tuple", data := .seq #[x, y] }) h₃.objs.size x y := Heap.get?_push_size _ rfl
  have hz4 : (h₃.push { cls := .type "tuple", data := .seq #[x, y] }).objs.size = h₃.objs.size + 1 := Heap.size_push ..
  rw [hsz] at hp hz4 ⊢
  exact hQ _ (Heap.get?_push_of_some _ hz₃) (h1₃.at fun o e => Heap.get?_push_of_some _ e) (h2₃.at fun o e => Heap.get?_push_of_some _ e) hp hz4 fun c o c1 c2 c3 e => Heap.get?_push_of_some _ (hk c o c1 c2 c3 e)
theorem zipT_next_end_held {z TI TO T i1 i2 l1 l2 : Addr} {f : Bool} {oT : Obj} {k1 k2 : Nat} {xs ys : Array Value} {Q : Fin → Shared → Prop} (hh : A.handled = none) (D : ZipApart z TI TO i1 i2 l1 l2)
    (hz : IsZipHeld s.heap z TI TO T f) (hT : s.heap.get? T = some oT) (hTI : IsPair s.heap TI (.ref i1) (.ref i2))
    (h1 : s.heap.IsTupleIter i1 l1 k1) (h2 : s.heap.IsTupleIter i2 l2 k2) (hl1 : s.heap.IsTuple l1 xs) (hl2 : s.heap.IsTuple l2 ys) (hend : xs[k1]? = none ∨ ys[k2]? = none)
    (hE : ∀ h' e, (∀ c o, c ≠ z → c ≠ i1 → c ≠ i2 → s.heap.get? c = some o → h'.get? c = some o) → (∃ o, h'.get? e = some o ∧ o.cls = .type "StopIteration") → E (.ref e) { s with heap := h' }) :
    wpAny (model prog w) A (Builtin.«zip.__next__» ⟨[.ref z], []⟩) Q E s := by
  show wpAny _ _ (field (.ref z) 2 >>= _) _ _ _
  refine wpAny_bind (wpAny_field hz rfl (x := .bool false) rfl ?_)
  show wpAny _ _ (field (.ref z) 3 >>= _) _ _ _
  refine wpAny_bind (wpAny_field hz rfl (x := .ref TI) rfl ?_)
  refine wpAny_bind (wpAny_seqItems hTI rfl ?_)
  show wpAny _ _ (Builtin.SmallTypes.ownedTupleIsFree (.ref z) >>= _) _ _ _
  refine wpAny_bind (wpAny_tupleHeld_zip hz hT fun h₁ hz₁ hs₁ => ?_)
  simp only [Bool.false_eq_true, if_false]
  refine wpAny_bind ?_
  rw [← Array.forIn_toList]
  simp only [List.forIn_cons, List.forIn_nil]
  refine wpAny_bind (wpAny_bind (wpAny_holding ?_))
  show wpAny _ _ (Builtin.SmallTypes.nextOf (.ref i1) >>= _) _ _ _
  cases hx : xs[k1]? with
  | none =>
    refine wpAny_bind (RZ.nextOf_tuple_end (s := { s with heap := h₁ }) hh (h1.extBut hs₁.extBut D.i1z) (hl1.extBut hs₁.extBut D.l1z) hx fun h₂ e hs₂ he => ?_)
    exact hE h₂ e (fun c o c1 c2 _ x => hs₂ _ _ c2 (hs₁.extBut _ _ c1 x)) he
  | some x =>
    have hy : ys[k2]? = none := by rcases hend with h | h; rw [hx] at h; cases h; exact h
    refine wpAny_bind (RZ.nextOf_tuple_item (s := { s with heap := h₁ }) (h1.extBut hs₁.extBut D.i1z) (hl1.extBut hs₁.extBut D.l1z) hx fun h₂ h1₂ hs₂ => wpAny_pure ?_)
    refine wpAny_pure ?_
    refine wpAny_bind (wpAny_bind (wpAny_holding ?_))
    show wpAny _ _ (Builtin.SmallTypes.nextOf (.ref i2) >>= _) _ _ _
    refine wpAny_bind (RZ.nextOf_tuple_end (s := { s with heap := h₂ }) hh ((h2.extBut hs₁.extBut D.i2z).extBut hs₂.extBut D.i12.symm) ((hl2.extBut hs₁.extBut D.l2z).extBut hs₂.extBut D.l2i1) hy fun h₃ e hs₃ he => ?_)
    exact hE h₃ e (fun c o c1 c2 c3 x => hs₃ _ _ c3 (hs₂.extBut _ _ c2 (hs₁.extBut _ _ c1 x))) he
theorem pyNext_zipT_item_held {z TI TO T i1 i2 l1 l2 : Addr} {f : Bool} {oT : Obj} {k1 k2 : Nat} {xs ys : Array Value} {x y : Value} {Q : Option Value → Shared → Prop} (D : ZipApart z TI TO i1 i2 l1 l2)
    (hz : IsZipHeld s.heap z TI TO T f) (hT : s.heap.get? T = some oT) (hTI : IsPair s.heap TI (.ref i1) (.ref i2))
    (h1 : s.heap.IsTupleIter i1 l1 k1) (h2 : s.heap.IsTupleIter i2 l2 k2) (hl1 : s.heap.IsTuple l1 xs) (hl2 : s.heap.IsTuple l2 ys) (hx : xs[k1]? = some x) (hy : ys[k2]? = some y)
    (hQ : ∀ h', IsZipHeld h' z TI TO T true → h'.IsTupleIter i1 l1 (k1 + 1) → h'.IsTupleIter i2 l2 (k2 + 1) → IsPair h' s.heap.objs.size x y → h'.objs.size = s.heap.objs.size + 1 →
      (∀ c o, c ≠ z → c ≠ i1 → c ≠ i2 → s.heap.get? c = some o → h'.get? c = some o) → Q (some (.ref s.heap.objs.size)) { s with heap := h' }) :
    wpAny (model prog w) A (pyNext (.ref z)) Q E s := by
  have hTy : s.TypeIs (.ref z) "zip" := ⟨_, hz, rfl⟩
  unfold pyNext
  exact wpAny_bind (wpAny_attempt (wpAny_callSpecial?_slot (name := Str.ofString "__next__") hTy F.slot_zip_next
    (wpAny_call_entry F.slot_zip_next hTy F.entry_zip_next
      (zipT_next_item_held D hz hT hTI h1 h2 hl1 hl2 hx hy fun h' a1 a3 a4 a5 a6 a7 => wpAny_pure (hQ h' a1 a3 a4 a5 a6 a7)) (F.args_zip_next_1 _))))
theorem pyNext_zipT_end_held {z TI TO T i1 i2 l1 l2 : Addr} {f : Bool} {oT : Obj} {k1 k2 : Nat} {xs ys : Array Value} {Q : Option Value → Shared → Prop} (hh : A.handled = none) (D : ZipApart z TI TO i1 i2 l1 l2)
    (hz : IsZipHeld s.heap z TI TO T f) (hT : s.heap.get? T = some oT) (hTI : IsPair s.heap TI (.ref i1) (.ref i2))
    (h1 : s.heap.IsTupleIter i1 l1 k1) (h2 : s.heap.IsTupleIter i2 l2 k2) (hl1 : s.heap.IsTuple l1 xs) (hl2 : s.heap.IsTuple l2 ys) (hend : xs[k1]? = none ∨ ys[k2]? = none)
    (hQ : ∀ h', (∀ c o, c ≠ z → c ≠ i1 → c ≠ i2 → s.heap.get? c = some o → h'.get? c = some o) → Q none { s with heap := h' }) : wpAny (model prog w) A (pyNext (.ref z)) Q E s := by
  have hTy : s.TypeIs (.ref z) "zip" := ⟨_, hz, rfl⟩
  unfold pyNext
  refine wpAny_bind (wpAny_attempt (wpAny_callSpecial?_slot (name := Str.ofString "__next__") hTy F.slot_zip_next
    (wpAny_call_entry F.slot_zip_next hTy F.entry_zip_next (zipT_next_end_held hh D hz hT hTI h1 h2 hl1 hl2 hend fun h' e hk he => ?_) (F.args_zip_next_1 _))))
  obtain ⟨o, ho, hc⟩ := he
  refine wpAny_bind (wpAny_isInstance (T := "StopIteration") (b := true) ⟨o, ho, hc⟩ isSubtype_stop ?_)
  exact wpAny_pure (hQ _ hk)
end
/-- the pairs given out so far -/
def PairsOut (h : Heap) (base : Nat) (bad : List Addr) (xs ys : Array Value) (acc : Array Value) (i : Nat) : Prop :=
  acc.size = i ∧ ∀ (j : Nat) (v : Value), acc[j]? = some v → ∃ (T : Addr) (x y : Value), v = .ref T ∧ xs[j]? = some x ∧ ys[j]? = some y ∧ IsPair h T x y ∧ base ≤ T ∧ T ∉ bad
/-- the zip between two turns: S, the list that takes -/
def ZipSt (h : Heap) (z TI TO i1 i2 l1 l2 S : Addr) (xs ys : Array Value) (i : Nat) : Prop :=
  IsPair h TI (.ref i1) (.ref i2) ∧ h.IsTupleIter i1 l1 i ∧ h.IsTupleIter i2 l2 i ∧ h.IsTuple l1 xs ∧ h.IsTuple l2 ys ∧
    ((IsZip h z TI TO .none ∧ ∃ a b, IsPair h TO a b) ∨ ∃ T f oT, IsZipHeld h z TI TO T f ∧ h.get? T = some oT ∧ T ≠ z ∧ T ≠ i1 ∧ T ≠ i2 ∧ T ≠ S ∧ ∃ oO, h.get? TO = some oO)
section
variable {prog : Program} {w : World} {A : Around} {z TI TO i1 i2 l1 l2 S : Addr} {xs ys : Array Value}
theorem ZipSt.frame {h h' : Heap} {i : Nat} (st : ZipSt h z TI TO i1 i2 l1 l2 S xs ys i) (nS : S ∉ [z, TI, TO, i1, i2, l1, l2]) (hk : ∀ b o, b ≠ S → h.get? b = some o → h'.get? b = some o) : ZipSt h' z TI TO i1 i2 l1 l2 S xs ys i := by
  simp only [List.mem_cons, List.not_mem_nil, or_false, not_or] at nS
  obtain ⟨dz, dTI, dTO, di1, di2, dl1, dl2⟩ := nS
  obtain ⟨hTI, h1, h2, hl1, hl2, hz⟩ := st
  refine ⟨hk _ _ (Ne.symm dTI) hTI, h1.at fun o e => hk _ o (Ne.symm di1) e, h2.at fun o e => hk _ o (Ne.symm di2) e, hl1.at fun o e => hk _ o (Ne.symm dl1) e, hl2.at fun o e => hk _ o (Ne.symm dl2) e, ?_⟩
  rcases hz with ⟨hz, a, b, hTO⟩ | ⟨T, f, oT, hz, hT, r1, r2, r3, r4, oO, hO⟩
  · exact .inl ⟨hk _ _ (Ne.symm dz) hz, a, b, hk _ _ (Ne.symm dTO) hTO⟩
  · exact .inr ⟨T, f, oT, hk _ _ (Ne.symm dz) hz, hk _ _ r4 hT, r1, r2, r3, r4, oO, hk _ _ (Ne.symm dTO) hO⟩
theorem PairsOut.keep {h h' : Heap} {base : Nat} {bad : List Addr} {acc : Array Value} {i : Nat} (p : PairsOut h base bad xs ys acc i) (hk : ∀ b o, b ∉ bad → h.get? b = some o → h'.get? b = some o) : PairsOut h' base bad xs ys acc i :=
  ⟨p.1, fun j v e => let ⟨T, x, y, a, b, c, d, q, f⟩ := p.2 j v e; ⟨T, x, y, a, b, c, hk _ _ f d, q, f⟩⟩
theorem extend_zipT (hh : A.handled = none) (D : ZipApart z TI TO i1 i2 l1 l2) (nS : S ∉ [z, TI, TO, i1, i2, l1, l2]) (hsz : xs.size = ys.size) (hn : xs.size ≤ sizeLine) (base : Nat) (res : Value) {R : Result → Shared → Prop} :
    ∀ (k i : Nat) (s : Shared) (acc : Array Value) (c : Nat), xs.size - i = k → i ≤ xs.size → ZipSt s.heap z TI TO i1 i2 l1 l2 S xs ys i → s.heap.get? S = some { cls := .type "list", dict := none, data := .seq acc c, slots := #[] } → base ≤ s.heap.objs.size → PairsOut s.heap base [z, TO, i1, i2, S] xs ys acc i →
    (∀ h' tk acc' c', (∀ b o, b ∉ [z, TO, i1, i2, S] → s.heap.get? b = some o → h'.get? b = some o) → h'.get? S = some { cls := .type "list", dict := none, data := .seq acc' c', slots := #[] } → PairsOut h' base [z, TO, i1, i2, S] xs ys acc' xs.size → R (.ok (.ret res)) { s with heap := h', toks := tk }) →
    codeAny (model prog w) A (.builtin "list.extend.loop" ⟨[.ref S, .ref z, res], []⟩) R s := by
  have nS' := nS
  simp only [List.mem_cons, List.not_mem_nil, or_false, not_or] at nS'
  obtain ⟨dz, dTI, dTO, di1, di2, dl1, dl2⟩ := nS'
  have hh1 : A.in1.handled = none := hh
  intro k
  induction k with
  | zero =>
    intro i s acc c hk hi hst hS hbs hacc hR
    have hin : i = xs.size := by omega
    subst hin
    obtain ⟨hTI, h1, h2, hl1, hl2, hz⟩ := hst
    refine codeAny_builtin F.entry_extend_loop ?_
    rw [Around.under_plainId F.plain_extend_loop _]
    show wpAny _ A.in1 (pyNext (.ref z) >>= _) _ _ s
    have hend : xs[xs.size]? = none ∨ ys[xs.size]? = none := .inl (Array.getElem?_eq_none (Nat.le_refl _))
    rcases hz with ⟨hz, a, b, hTO⟩ | ⟨T, f, oT, hz, hT, r1, r2, r3, r4, oO, hO⟩
    · refine wpAny_bind (RZ.pyNext_zipT_end hh1 D hz hTI hTO h1 h2 hl1 hl2 hend fun h' hk => wpAny_pure (hR h' s.toks acc c (fun b o hb e => hk b o (fun q => hb (by simp [q])) (fun q => hb (by simp [q])) (fun q => hb (by simp [q])) (fun q => hb (by simp [q])) e) (hk S _ dz dTO di1 di2 hS) (hacc.keep fun b o hb e => hk b o (fun q => hb (by simp [q])) (fun q => hb (by simp [q])) (fun q => hb (by simp [q])) (fun q => hb (by simp [q])) e)))
    · refine wpAny_bind (pyNext_zipT_end_held hh1 D hz hT hTI h1 h2 hl1 hl2 hend fun h' hk => wpAny_pure (hR h' s.toks acc c (fun b o hb e => hk b o (fun q => hb (by simp [q])) (fun q => hb (by simp [q])) (fun q => hb (by simp [q])) e) (hk S _ dz di1 di2 hS) (hacc.keep fun b o hb e => hk b o (fun q => hb (by simp [q])) (fun q => hb (by simp [q])) (fun q => hb (by simp [q])) e)))
  | succ k ih =>
    intro i s acc c hk hi hst hS hbs hacc hR
    have hlt : i < xs.size := by omega
    obtain ⟨hTI, h1, h2, hl1, hl2, hz⟩ := hst
    have ex := Array.getElem?_eq_getElem hlt
    have ey := Array.getElem?_eq_getElem (hsz ▸ hlt : i < ys.size)
    have lt : ∀ {c o}, s.heap.get? c = some o → s.heap.objs.size ≠ c := fun e => Nat.ne_of_gt (Heap.lt_size e)
    have n1 : s.heap.objs.size ≠ i1 := let ⟨_, e, _⟩ := h1; lt e
    have n2 : s.heap.objs.size ≠ i2 := let ⟨_, e, _⟩ := h2; lt e
    have nT : s.heap.objs.size ≠ S := lt hS
    refine codeAny_builtin F.entry_extend_loop ?_
    rw [Around.under_plainId F.plain_extend_loop _]
    show wpAny _ A.in1 (pyNext (.ref z) >>= _) _ _ s
    rcases hz with ⟨hz, a, b, hTO⟩ | ⟨T, f, oT, hz, hT, r1, r2, r3, r4, oO, hO⟩
    · have nz : s.heap.objs.size ≠ z := lt hz
      have nTO : s.heap.objs.size ≠ TO := lt hTO
      refine wpAny_bind (RZ.pyNext_zipT_item D hz hTI hTO h1 h2 hl1 hl2 ex ey fun h' a1 a2 a3 a4 a5 a6 hk => ?_)
      have hS' : h'.get? S = some { cls := .type "list", dict := none, data := .seq acc c, slots := #[] } := hk S _ dz dTO di1 di2 hS
      show wpAny _ A.in1 (updateSeq S (·.push (.ref s.heap.objs.size)) >>= _) _ _ _
      refine wpAny_bind ?_
      have oth : ∀ b o, b ≠ S → h'.get? b = some o → (h'.update S (Obj.mapSeq (·.push (.ref s.heap.objs.size)))).get? b = some o := fun b o hb e => (Heap.get?_update_other _ _ (Ne.symm hb)).trans e
      have bad' : ∀ b o, b ∉ [z, TO, i1, i2, S] → s.heap.get? b = some o → (h'.update S (Obj.mapSeq (·.push (.ref s.heap.objs.size)))).get? b = some o := fun b o hb e => oth b o (fun q => hb (by simp [q])) (hk b o (fun q => hb (by simp [q])) (fun q => hb (by simp [q])) (fun q => hb (by simp [q])) (fun q => hb (by simp [q])) e)
      refine wpAny_updateSeq hS' rfl (wpAny_pure ⟨plainId_quiet F.plain_extend_loop _, ih (i + 1) _ (acc.push (.ref s.heap.objs.size)) _ (by omega) hlt (ZipSt.frame ⟨hk _ _ D.TIz D.TITO D.TIi1 D.TIi2 hTI, a3, a4, hl1.at fun o e => hk _ o D.l1z D.l1TO D.l1i1 D.l1i2 e, hl2.at fun o e => hk _ o D.l2z D.l2TO D.l2i1 D.l2i2 e, .inr ⟨s.heap.objs.size, false, _, a1, a5, nz, n1, n2, nT, _, a2⟩⟩ nS oth) (Heap.get?_update_self _ hS' rfl) (by show base ≤ (h'.update S _).objs.size; rw [Heap.size_update, a6]; omega) ?_ fun h'' tk acc' c' hm'' hS'' hacc' => ?_⟩)
        (by rw [hacc.1]; omega) (by show (acc.push (.ref s.heap.objs.size)).size ≤ sizeLine + 1; rw [Array.size_push, hacc.1]; omega)
      · have keep := hacc.keep bad'
        refine ⟨by rw [Array.size_push, hacc.1], fun j v hj => ?_⟩
        rw [Array.getElem?_push] at hj
        split at hj
        · rename_i hjj
          cases hj
          rw [hacc.1] at hjj
          subst hjj
          exact ⟨_, _, _, rfl, ex, ey, oth _ _ nT a5, hbs, by simp only [List.mem_cons, List.not_mem_nil, or_false, not_or]; exact ⟨nz, nTO, n1, n2, nT⟩⟩
        · exact keep.2 j v hj
      · exact hR h'' tk acc' c' (fun b o hb e => hm'' b o hb (bad' b o hb e)) hS'' hacc'
    · have nz : s.heap.objs.size ≠ z := lt hz
      have nTO : s.heap.objs.size ≠ TO := lt hO
      refine wpAny_bind (pyNext_zipT_item_held D hz hT hTI h1 h2 hl1 hl2 ex ey fun h' a1 a3 a4 a5 a6 hk => ?_)
      have hS' : h'.get? S = some { cls := .type "list", dict := none, data := .seq acc c, slots := #[] } := hk S _ dz di1 di2 hS
      show wpAny _ A.in1 (updateSeq S (·.push (.ref s.heap.objs.size)) >>= _) _ _ _
      refine wpAny_bind ?_
      have oth : ∀ b o, b ≠ S → h'.get? b = some o → (h'.update S (Obj.mapSeq (·.push (.ref s.heap.objs.size)))).get? b = some o := fun b o hb e => (Heap.get?_update_other _ _ (Ne.symm hb)).trans e
      have bad' : ∀ b o, b ∉ [z, TO, i1, i2, S] → s.heap.get? b = some o → (h'.update S (Obj.mapSeq (·.push (.ref s.heap.objs.size)))).get? b = some o := fun b o hb e => oth b o (fun q => hb (by simp [q])) (hk b o (fun q => hb (by simp [q])) (fun q => hb (by simp [q])) (fun q => hb (by simp [q])) e)
      refine wpAny_updateSeq hS' rfl (wpAny_pure ⟨plainId_quiet F.plain_extend_loop _, ih (i + 1) _ (acc.push (.ref s.heap.objs.size)) _ (by omega) hlt (ZipSt.frame ⟨hk _ _ D.TIz D.TIi1 D.TIi2 hTI, a3, a4, hl1.at fun o e => hk _ o D.l1z D.l1i1 D.l1i2 e, hl2.at fun o e => hk _ o D.l2z D.l2i1 D.l2i2 e, .inr ⟨T, true, oT, a1, hk _ _ r1 r2 r3 hT, r1, r2, r3, r4, oO, hk _ _ D.TOz D.TOi1 D.TOi2 hO⟩⟩ nS oth) (Heap.get?_update_self _ hS' rfl) (by show base ≤ (h'.update S _).objs.size; rw [Heap.size_update, a6]; omega) ?_ fun h'' tk acc' c' hm'' hS'' hacc' => ?_⟩)
        (by rw [hacc.1]; omega) (by show (acc.push (.ref s.heap.objs.size)).size ≤ sizeLine + 1; rw [Array.size_push, hacc.1]; omega)
      · have keep := hacc.keep bad'
        refine ⟨by rw [Array.size_push, hacc.1], fun j v hj => ?_⟩
        rw [Array.getElem?_push] at hj
        split at hj
        · rename_i hjj
          cases hj
          rw [hacc.1] at hjj
          subst hjj
          exact ⟨_, _, _, rfl, ex, ey, oth _ _ nT a5, hbs, by simp only [List.mem_cons, List.not_mem_nil, or_false, not_or]; exact ⟨nz, nTO, n1, n2, nT⟩⟩
        · exact keep.2 j v hj
      · exact hR h'' tk acc' c' (fun b o hb e => hm'' b o hb (bad' b o hb e)) hS'' hacc'
theorem nolen_zip : typeLookup (.type "zip") "__len__" = pure none := by rw [typeLookup_type, builtinLookup_eq_fast]; kernel_rfl
theorem nohint_zip : typeLookup (.type "zip") "__length_hint__" = pure none := by rw [typeLookup_type, builtinLookup_eq_fast]; kernel_rfl
theorem collect_zipT {E : Value → Shared → Prop} {s : Shared} {Q : List Value → Shared → Prop} (hh : A.handled = none) (D : ZipApart z TI TO i1 i2 l1 l2) (hz : IsZip s.heap z TI TO .none) (hTI : IsPair s.heap TI (.ref i1) (.ref i2)) (hTO : ∃ a b, IsPair s.heap TO a b)
    (h1 : s.heap.IsTupleIter i1 l1 0) (h2 : s.heap.IsTupleIter i2 l2 0) (hl1 : s.heap.IsTuple l1 xs) (hl2 : s.heap.IsTuple l2 ys) (hsz : xs.size = ys.size) (hn : xs.size ≤ sizeLine) (base : Nat) (hb : base ≤ s.heap.objs.size)
    (hQ : ∀ h' tk acc, (∀ b o, b ∉ [z, TO, i1, i2] → s.heap.get? b = some o → h'.get? b = some o) → PairsOut h' base [z, TO, i1, i2] xs ys acc xs.size → Q acc.toList { s with heap := h', toks := tk }) : wpAny (model prog w) A (collect (.ref z)) Q E s := by
  have lt : ∀ {c o}, s.heap.get? c = some o → s.heap.objs.size ≠ c := fun e => Nat.ne_of_gt (Heap.lt_size e)
  have nS : s.heap.objs.size ∉ [z, TI, TO, i1, i2, l1, l2] := by
    obtain ⟨a, b, hTO⟩ := hTO
    simp only [List.mem_cons, List.not_mem_nil, or_false, not_or]
    exact ⟨lt hz, lt hTI, lt hTO, let ⟨_, e, _⟩ := h1; lt e, let ⟨_, e, _⟩ := h2; lt e, let ⟨_, e, _⟩ := hl1; lt e, let ⟨_, e, _⟩ := hl2; lt e⟩
  have hSI : s.heap.objs.size ≠ z := lt hz
  have st0 : ZipSt s.heap z TI TO i1 i2 l1 l2 s.heap.objs.size xs ys 0 := ⟨hTI, h1, h2, hl1, hl2, .inl ⟨hz, hTO⟩⟩
  have hT : ∀ {h : Heap}, IsZip h z TI TO .none → (∀ (t : Nat), ({ s with heap := h, toks := t } : Shared).TypeIs (.ref z) "zip") := fun h t => ⟨_, h, rfl⟩
  unfold collect
  refine wpAny_bind (wpAny_runValue (codeAny_builtin F.entry_proto_collect ?_))
  rw [Around.under_plainId F.plain_proto_collect _]
  show wpAny _ A.in1 (newList [] >>= fun l => again (.builtin "list.__iadd__" ⟨[l, .ref z], []⟩)) _ _ s
  refine wpAny_bind (wpAny_newObj_type ?_)
  refine wpAny_pure ⟨plainId_quiet F.plain_list_iadd _, codeAny_builtin F.entry_list_iadd ?_⟩
  rw [Around.under_plainId F.plain_list_iadd _]
  have hz₁ : IsZip (s.heap.push { cls := .type "list", data := .seq ([] : List Value).toArray }) z TI TO .none := Heap.get?_push_of_some _ hz
  show wpAny _ A.in1 (Builtin.List.listExtendWith (.ref s.heap.objs.size) (.ref z) (.ref s.heap.objs.size)) _ _ _
  unfold Builtin.List.listExtendWith
  refine wpAny_bind (wpAny_typeOf (T := "zip") ⟨_, hz₁, rfl⟩ ?_)
  have g1 : Builtin.List.listSameRef (.ref s.heap.objs.size) (.ref z) = false := by simp [Builtin.List.listSameRef, hSI]
  have g2 : (Value.type "zip" == Value.type "list") = false := by decide
  have g3 : (Value.type "zip" == Value.type "tuple") = false := by decide
  simp only [g1, g2, g3, Bool.or_false, Bool.false_eq_true, if_false]
  refine wpAny_bind (wpAny_pyIter_zip hz₁ ?_)
  refine wpAny_bind (wpAny_holding ?_)
  unfold Builtin.List.listLengthHint
  refine wpAny_bind (wpAny_specialOf (T := "zip") ⟨_, hz₁, rfl⟩ nolen_zip ?_)
  show wpAny _ A.in1 (specialOf (Value.ref z) (Str.ofString "__length_hint__") >>= _) _ _ _
  refine wpAny_bind (wpAny_specialOf (T := "zip") ⟨_, hz₁, rfl⟩ nohint_zip ?_)
  refine wpAny_pure ?_
  show wpAny _ A.in1 (rule "list.extend.makes-room" >>= fun _ => Builtin.List.listTouch (.ref s.heap.objs.size) >>= fun _ =>
    again (.builtin "list.extend.loop" ⟨[.ref s.heap.objs.size, .ref z, .ref s.heap.objs.size], []⟩)) _ _ _
  refine wpAny_bind (wpAny_rule ?_)
  have hS₁ : (s.heap.push { cls := .type "list", data := .seq ([] : List Value).toArray }).get? s.heap.objs.size = some { cls := .type "list", data := .seq ([] : List Value).toArray } := Heap.get?_push_size _ rfl
  refine wpAny_bind ?_
  show wpAny _ A.in1 (updateSeq s.heap.objs.size (·.push .none) >>= fun _ => updateSeq s.heap.objs.size (·.pop)) _ _ _
  refine wpAny_bind (wpAny_updateSeq hS₁ rfl ?_)
  have hS₂ := Heap.get?_update_self (Obj.mapSeq (·.push Value.none)) hS₁ rfl
  refine wpAny_updateSeq hS₂ rfl ?_
  have hS₃ := Heap.get?_update_self (Obj.mapSeq (·.pop)) hS₂ rfl
  have oth : ∀ b o, b ≠ s.heap.objs.size → s.heap.get? b = some o →
      (((s.heap.push { cls := .type "list", data := .seq ([] : List Value).toArray }).update s.heap.objs.size (Obj.mapSeq (·.push Value.none))).update s.heap.objs.size (Obj.mapSeq (·.pop))).get? b = some o :=
    fun b o hb e => (Heap.get?_update_other _ _ (Ne.symm hb)).trans ((Heap.get?_update_other _ _ (Ne.symm hb)).trans (Heap.get?_push_of_some _ e))
  refine wpAny_pure ⟨plainId_quiet F.plain_extend_loop _, extend_zipT hh D nS hsz hn base _ xs.size 0 _ _ _ rfl (Nat.zero_le _) (st0.frame nS oth) hS₃ ?_ ⟨rfl, fun j v hj => by simp at hj⟩ fun h' tk acc' c' hk hS' hacc => ?_⟩
  · show base ≤ (((s.heap.push _).update _ _).update _ _).objs.size
    rw [Heap.size_update, Heap.size_update, Heap.size_push]
    omega
  · show wpAny _ A (load s.heap.objs.size >>= _) _ _ _
    refine wpAny_bind (wpAny_load hS' ?_)
    refine wpAny_pure (hQ h' tk acc' (fun b o hb e => hk b o (fun q => ?_) (oth b o (Nat.ne_of_lt (Heap.lt_size e)) e)) ⟨hacc.1, fun j v hj => ?_⟩)
    · simp only [List.mem_cons, List.not_mem_nil, or_false, not_or] at hb q
      rcases q with q | q | q | q | q
      · exact hb.1 q
      · exact hb.2.1 q
      · exact hb.2.2.1 q
      · exact hb.2.2.2 q
      · exact absurd q (Nat.ne_of_lt (Heap.lt_size e))
    · obtain ⟨T, x, y, a, b, c, d, e, f⟩ := hacc.2 j v hj
      refine ⟨T, x, y, a, b, c, d, e, fun q => f ?_⟩
      simp only [List.mem_cons, List.not_mem_nil, or_false] at q ⊢
      rcases q with q | q | q | q
      · exact .inl q
      · exact .inr (.inl q)
      · exact .inr (.inr (.inl q))
      · exact .inr (.inr (.inr (.inl q)))
end
end DL
/-! sorted(zip(t, u)): the rule. -/
namespace DL
open PySem PySem.Spec PyProof.Rows L2 LamX
mutual
theorem reads_nil {h : Heap} : ∀ (d : Dt) (v : Value) (as : List Addr), nolst d = true → Reads h v d as → as = []
  | .none, _, _, _, r => by cases r; rfl
  | .bool _, _, _, _, r => by cases r; rfl
  | .int _, _, _, _, r => by cases r; rfl
  | .str _, _, _, _, r => by cases r; rfl
  | .list _, _, _, c, _ => by simp [nolst] at c
  | .tuple ds, _, _, c, r => by
    cases r with
    | tuple h1 h2 h3 h4 => exact readsAll_nil ds _ _ (by simpa [nolst] using c) h4
  | .dict _, _, _, c, _ => by simp [nolst] at c
theorem readsAll_nil {h : Heap} : ∀ (ds : List Dt) (vs : List Value) (as : List Addr), nolstAll ds = true → ReadsAll h vs ds as → as = []
  | [], _, _, _, r => by cases r; rfl
  | d :: ds, _, _, c, r => by
    have c' : nolst d = true ∧ nolstAll ds = true := by simpa [nolstAll] using c
    cases r with
    | cons a b => rw [reads_nil d _ _ c'.1 a, readsAll_nil ds _ _ c'.2 b]; rfl
end
section
variable {X : Cx} {pins : List (Addr × Obj)} {σ : L2.St} {H H' : Hp} {s : Shared} {h' : Heap}
/-- several new objects tracked at once -/
theorem inv_grow {t' : Nat} (I : Inv X pins σ H s) (k : ∀ b u, s.heap.get? b = some u → h'.get? b = some u) (old : ∀ b o, H b = some o → H' b = some o) (lt : ∀ b, b < s.heap.objs.size → H b = none → H' b = none)
    (new : ∀ b o, H' b = some o → H b = none → ObjOk X.prog X.w H' h' b o) : Inv X pins σ H' { s with heap := h', toks := t' } := by
  refine I.un (h' := h') ⟨fun b o e _ _ _ => k b o e, fun b o e _ _ _ => ⟨o.slots, k b o e⟩, fun b o e n _ => lt b (Heap.lt_size e) n, fun b o e _ => ⟨o, k b o e⟩, fun b xs e => old b _ e, fun b o u e => old b _ e, fun b ps e => ⟨#[], by rw [old b _ e]; simp⟩⟩ fun b o e => ?_
  cases q : H b with
  | none => exact new b o e q
  | some u =>
    have e2 := old b u q
    rw [e] at e2
    cases e2
    exact (I.hok b o q).stay (fun c v _ z => k c v z) (fun c z => old c _ z) fun c xs z => old c _ z
end
/-- a call of sorted on a zip of two tuples, by values -/
def rSortZ (K : PySem.W.Frag) (F : FAT) (T : List (Addr × Str)) : List V → Hp → VK → Prop := fun vs H Q => ∃ (a b : Addr) (xs ys : List V) (W : Md) (ds es : List Dt), vs = [.ref a, .ref b] ∧ SqT K H a xs ∧ SqT K H b ys ∧ Stt K F T W [] [] H ∧ RpAll K F W H xs ds ∧ RpAll K F W H ys es ∧ ds.length = es.length ∧ ds.length ≤ line ∧
  PyData.canLayAll0 (zipD ds es) = true ∧ nolstAll (zipD ds es) = true ∧ PySem.W.AllAlike (zipD ds es) ∧ (∀ x ∈ zipD ds es, x.depth ≤ 50) ∧
  ∀ v H', Go T W.s H H' → Rp K F W H' v (.list ((zipD ds es).mergeSort (PySem.W.dataLe false id))) → Q v H'
theorem zipD_get' {xs ys : List Dt} {i : Nat} {d : Dt} (h : (zipD xs ys)[i]? = some d) : ∃ x y, xs[i]? = some x ∧ ys[i]? = some y ∧ d = .tuple [x, y] := by
  unfold zipD at h
  rw [List.getElem?_map] at h
  cases q : (xs.zip ys)[i]? with
  | none => rw [q] at h; cases h
  | some p =>
    rw [q] at h
    obtain ⟨h1, h2⟩ := List.getElem?_zip_eq_some.mp q
    exact ⟨p.1, p.2, h1, h2, (Option.some.inj h).symm⟩
theorem zipD_sortable (xs ys : List Dt) : PySem.W.Sortable (zipD xs ys) := by
  unfold zipD
  exact PySem.W.Sortable.tuples fun p => ⟨_, _, rfl⟩
theorem each_of_get {α β : Type} {R : α → β → Prop} : ∀ {l : List α} {m : List β}, l.length = m.length → (∀ (i : Nat) a b, l[i]? = some a → m[i]? = some b → R a b) → PySem.W.EachIs R l m
  | [], [], _, _ => .nil
  | a :: l, b :: m, h, f => .cons (f 0 a b rfl rfl) (each_of_get (by simpa using h) fun i x y p q => f (i + 1) x y (by simpa using p) (by simpa using q))
open Classical in
theorem run_sortZ {X : Cx} {F : FAT} {T : List (Addr × Str)} {pins : List (Addr × Obj)} {σ : L2.St} {H : Hp} {s : Shared} {a b : Addr} {Q : VK} (hc : X.calm = true) (hu : X.A.units + 64 < cLine) (I : Inv X pins σ H s) (h : rSortZ X.K F T [.ref a, .ref b] H Q) :
    wpAny (model X.prog X.w) X.A (call (.type "zip") [.ref a, .ref b]) (fun v s1 => wpAny (model X.prog X.w) X.A (call (.builtin "sorted") [v]) (EP X pins σ Q) X.xe s1) X.xe s := by
  obtain ⟨a', b', xs, ys, W, ds, es, e0, ha, hb, st, rx, ry, hl, hz, c1, c2, c3, c4, k⟩ := h
  obtain ⟨rfl, rfl⟩ : a = a' ∧ b = b' := by
    injection e0 with p q
    injection q with q r
    injection p with p
    injection q with q
    exact ⟨p, q⟩
  obtain ⟨its, rv, p1, z1⟩ := I.tuple ha
  obtain ⟨its2, rv2, p2, z2⟩ := I.tuple hb
  obtain ⟨o1, ho1, _⟩ := id p1
  obtain ⟨o2, ho2, _⟩ := id p2
  have hh := I.ok.hd hc
  refine RZ.call_zipT (show s.heap.IsTuple a its.toArray from p1) (show s.heap.IsTuple b its2.toArray from p2) fun h' hz' hTI hTO h1 h2 hsz hk => ?_
  have D := PySem.W.ktu_apart s.heap.objs.size a b (Heap.lt_size ho1) (Heap.lt_size ho2)
  have len1 := rv.length
  have len2 := rv2.length
  have lx := rx.len
  have ly := ry.len
  refine call_function_entry_kw kind_sorted plain_sorted entry_sorted (args_sorted1 _) ?_
  unfold Builtin.«sorted»
  refine wpAny_bind (m := checkCount "sorted" 1 1 _) (wpAny_pure ?_)
  refine wpAny_bind (collect_zipT (xs := its.toArray) (ys := its2.toArray) (A := X.A.in1) hh D hz' hTI ⟨_, _, hTO⟩ h1 h2 ((show s.heap.IsTuple a its.toArray from p1).at fun o e => hk _ _ e) ((show s.heap.IsTuple b its2.toArray from p2).at fun o e => hk _ _ e) (by simp only [List.size_toArray]; omega) (by simp only [List.size_toArray]; omega) s.heap.objs.size (by show s.heap.objs.size ≤ h'.objs.size; omega) fun h3 tk acc hk3 hacc => ?_)
  have accL : acc.toList.length = ds.length := by
    have := hacc.1
    simp only [List.size_toArray] at this
    rw [Array.length_toList]
    omega
  have kS : ∀ b o, s.heap.get? b = some o → h3.get? b = some o := fun c o e => hk3 c o (fun q => by
    have lt := Heap.lt_size e
    simp only [List.mem_cons, List.not_mem_nil, or_false] at q
    rcases q with q | q | q | q
    · rw [q] at lt; exact absurd lt (Nat.not_lt.mpr (Nat.le_add_right _ _))
    · rw [q] at lt; exact absurd lt (Nat.not_lt.mpr (Nat.le_add_right _ _))
    · rw [q] at lt; exact absurd lt (Nat.lt_irrefl _)
    · rw [q] at lt; exact absurd lt (Nat.not_lt.mpr (Nat.le_add_right _ _))) (hk c o e)
  refine wpAny_bind (wpAny_newList ?_ (by rw [accL]; exact Nat.le_trans hz line_le))
  show wpAny _ _ _ _ _ { s with heap := h3.push { cls := .type "list", data := .seq acc.toList.toArray }, toks := tk }
  -- what the pairs are
  let PairAt : Addr → V × V → Prop := fun c p => ∃ j : Nat, acc[j]? = some (.ref c) ∧ xs[j]? = some p.1 ∧ ys[j]? = some p.2
  have pairO : ∀ c p, PairAt c p → ∃ u v, IsPair h3 c u v ∧ RelV p.1 u ∧ RelV p.2 v ∧ s.heap.objs.size ≤ c := by
    rintro c p ⟨j, e1, e2, e3⟩
    obtain ⟨c', u, v, ec, q1, q2, q3, q4, _⟩ := hacc.2 j _ e1
    cases ec
    obtain ⟨u', f1, r1⟩ := rv.get e2
    obtain ⟨v', f2, r2⟩ := rv2.get e3
    have g1 : its[j]? = some u := by simpa using q1
    have g2 : its2[j]? = some v := by simpa using q2
    rw [f1] at g1
    rw [f2] at g2
    cases g1
    cases g2
    exact ⟨_, _, q3, r1, r2, q4⟩
  have pairU : ∀ c p q, PairAt c p → PairAt c q → p = q := by
    intro c p q hp hq
    obtain ⟨u, v, i1, r1, r2, _⟩ := pairO c p hp
    obtain ⟨uu, vv, i2, r3, r4, _⟩ := pairO c q hq
    have e : some _ = some _ := (show h3.get? c = _ from i1).symm.trans (show h3.get? c = _ from i2)
    injection e with e
    injection e with _ _ e _
    injection e with e _
    have e1 : [u, v] = [uu, vv] := by simpa using congrArg Array.toList e
    injection e1 with e1 e2
    injection e2 with e2 _
    subst e1; subst e2
    exact Prod.ext (r1.inj r3) (r2.inj r4)
  let H2 : Hp := fun c => if hp : ∃ p, PairAt c p then some (.tup [hp.choose.1, hp.choose.2]) else H c
  have H2at : ∀ c p, PairAt c p → H2 c = some (.tup [p.1, p.2]) := by
    intro c p hp
    have ex : ∃ p, PairAt c p := ⟨p, hp⟩
    show (if hp : ∃ p, PairAt c p then some (HO.tup [hp.choose.1, hp.choose.2]) else H c) = _
    rw [dif_pos ex]
    rw [pairU c _ _ ex.choose_spec hp]
  have H2no : ∀ c, (¬ ∃ p, PairAt c p) → H2 c = H c := fun c hn => by
    show (if hp : ∃ p, PairAt c p then some (HO.tup [hp.choose.1, hp.choose.2]) else H c) = _
    rw [dif_neg hn]
  have H2old : ∀ c o, H c = some o → H2 c = some o := fun c o e => by
    rw [H2no c fun ⟨p, hp⟩ => ?_]
    · exact e
    · obtain ⟨_, _, _, _, _, q⟩ := pairO c p hp
      rw [I.hok.fresh q] at e
      cases e
  have H2lt : ∀ c, c < s.heap.objs.size → H c = none → H2 c = none := fun c lt e => by
    rw [H2no c fun ⟨p, hp⟩ => ?_]
    · exact e
    · obtain ⟨_, _, _, _, _, q⟩ := pairO c p hp
      exact absurd (Nat.lt_of_lt_of_le lt q) (Nat.lt_irrefl _)
  have H2new : ∀ c o, H2 c = some o → H c = none → ∃ p, PairAt c p ∧ o = .tup [p.1, p.2] := fun c o e n => by
    by_cases q : ∃ p, PairAt c p
    · obtain ⟨p, hp⟩ := q
      rw [H2at c p hp] at e
      exact ⟨p, hp, (Option.some.inj e).symm⟩
    · rw [H2no c q, n] at e
      cases e
  have gH : Go T W.s H H2 := Go.same H2old
  have objNew : ∀ (h4 : Heap), (∀ c o, s.heap.objs.size ≤ c → h3.get? c = some o → (∃ p, PairAt c p) → h4.get? c = some o) → ∀ c o, H2 c = some o → H c = none → ∀ Hx : Hp, ObjOk X.prog X.w Hx h4 c o := fun h4 k4 c o e n Hx => by
    obtain ⟨p, hp, rfl⟩ := H2new c o e n
    obtain ⟨u, v, i1, r1, r2, q⟩ := pairO c p hp
    exact ⟨by show 2 ≤ sizeLine; decide, [u, v], .cons r1 (.cons r2 .nil), ⟨_, k4 c _ q i1 ⟨p, hp⟩, rfl, _, rfl⟩⟩
  -- the data of what was collected
  have eR : PySem.W.EachIs (fun v d => ∃ x, RelV x v ∧ Rp X.K F W H2 x d) acc.toList (zipD ds es) := by
    refine each_of_get (by rw [accL, zipD_len]; omega) fun i v d e1 e2 => ?_
    obtain ⟨x, y, f1, f2, rfl⟩ := zipD_get' e2
    have e1' : acc[i]? = some v := by simpa using e1
    obtain ⟨c, _, _, rfl, _, _, _, _, _⟩ := hacc.2 i v e1'
    obtain ⟨vx, g1, q1⟩ := rx.get f1
    obtain ⟨vy, g2, q2⟩ := ry.get f2
    exact ⟨.ref c, rfl, .tup (SqT.of (H2at c (vx, vy) ⟨i, e1', g1, g2⟩)) (.cons (st.rp gH q1) (.cons (st.rp gH q2) .nil))⟩
  have s3 : Inv X pins σ H2 { s with heap := h3.push { cls := .type "list", data := .seq acc.toList.toArray }, toks := tk } :=
    inv_grow I (fun c o e => Heap.get?_push_of_some _ (kS c o e)) H2old H2lt fun c o e n => objNew _ (fun c o _ e _ => Heap.get?_push_of_some _ e) c o e n H2
  have er : PySem.W.EachIs (fun v b => ∃ as, Reads (h3.push { cls := .type "list", data := .seq acc.toList.toArray }) v (id b) as ∧ h3.objs.size ∉ as) acc.toList (zipD ds es) := by
    refine each_of_get (by rw [accL, zipD_len]; omega) fun i v d e1 e2 => ?_
    have q1 : ∀ (l : List Dt) (i : Nat) (z : Dt), PyData.canLayAll0 l = true → nolstAll l = true → l[i]? = some z → z.canLay0 = true ∧ nolst z = true := by
      intro l
      induction l with
      | nil => intro i z _ _ e; simp at e
      | cons y l ih =>
        intro i z c d e
        have c' : y.canLay0 = true ∧ PyData.canLayAll0 l = true := by simpa [PyData.canLayAll0] using c
        have d' : nolst y = true ∧ nolstAll l = true := by simpa [nolstAll] using d
        cases i with
        | zero => simp at e; subst e; exact ⟨c'.1, d'.1⟩
        | succ i => exact ih i z c'.2 d'.2 (by simpa using e)
    obtain ⟨k1, k2⟩ := q1 _ i d c1 c2 e2
    have q2 : ∀ {l : List Value} {m : List Dt} {i : Nat} {a : Value} {b : Dt}, PySem.W.EachIs (fun v d => ∃ x, RelV x v ∧ Rp X.K F W H2 x d) l m → l[i]? = some a → m[i]? = some b → ∃ x, RelV x a ∧ Rp X.K F W H2 x b := by
      intro l m i a b e
      induction e generalizing i with
      | nil => intro p; simp at p
      | cons h t ih =>
        intro p q
        cases i with
        | zero => simp at p q; subst p; subst q; exact h
        | succ i => exact ih (by simpa using p) (by simpa using q)
    obtain ⟨x, r1, r2⟩ := q2 eR e1 e2
    obtain ⟨as, rd⟩ := Dp.reads s3 d x v (r2.dp _ _ k1) r1
    have := reads_nil d v as k2 rd
    subst this
    exact ⟨[], rd, by simp⟩
  have hL : (h3.push { cls := .type "list", data := .seq acc.toList.toArray }).get? h3.objs.size = some (seqObj "list" acc.toList.toArray 0) := Heap.get?_push_size _ rfl
  refine wpAny_bind (wpAny_holding ?_)
  refine PySem.W.list_sort_data (enc := id) (R := fun v d => ∃ x, RelV x v ∧ Rp X.K F W H2 x d) (s := { s with heap := h3.push { cls := .type "list", data := .seq acc.toList.toArray }, toks := tk }) hL eR er (by rw [List.map_id]; exact c3) (by rw [List.map_id]; exact zipD_sortable ds es) (by rw [zipD_len]; exact Nat.le_trans (by omega) line_le) (fun z hz => by
    have := c4 z hz
    show X.A.units + 1 + 1 + z.depth < cLine
    omega) fun out hlen hout => ?_
  obtain ⟨vs', v1, v2⟩ := each_back hout
  refine wpAny_pure ⟨_, rfl, ?_⟩
  have hsL : ∀ c o, c ≠ h3.objs.size → h3.get? c = some o → (sortedHeap (h3.push { cls := .type "list", data := .seq acc.toList.toArray }) h3.objs.size acc.toList out.toArray).get? c = some o := fun c o n e => by
    rw [sortedHeap_old n (by rw [Heap.size_push]; exact Nat.lt_succ_of_lt (Heap.lt_size e))]
    exact Heap.get?_push_of_some _ e
  obtain ⟨ep, he'⟩ := sortedHeap_at (vs := acc.toList) (out := out.toArray) hL
  have base3 : s.heap.objs.size < h3.objs.size := by
    have q : h3.get? (s.heap.objs.size + 2) = _ := hk3 _ _ (by
      simp only [List.mem_cons, List.not_mem_nil, or_false, not_or]
      exact ⟨fun z => by have : s.heap.objs.size + 2 = s.heap.objs.size + 4 := z; omega, fun z => by have : s.heap.objs.size + 2 = s.heap.objs.size + 3 := z; omega, fun z => by have : s.heap.objs.size + 2 = s.heap.objs.size := z; omega, fun z => by have : s.heap.objs.size + 2 = s.heap.objs.size + 1 := z; omega⟩) hTI
    exact Nat.lt_of_le_of_lt (Nat.le_add_right _ 2) (Heap.lt_size q)
  have HL : H2 h3.objs.size = none := by
    have hn : ¬ ∃ p, PairAt h3.objs.size p := fun ⟨p, hp⟩ => by
      obtain ⟨_, _, q, _⟩ := pairO _ p hp
      exact absurd (Heap.lt_size q) (Nat.lt_irrefl _)
    rw [H2no _ hn]
    exact I.hok.fresh (Nat.le_of_lt base3)
  have hlen2 : vs'.length ≤ sizeLine := by
    rw [v1.length, hlen, zipD_len]
    exact Nat.le_trans (by omega) line_le
  have J : Inv X pins σ (upd H2 h3.objs.size (.lst vs')) { s with heap := sortedHeap (h3.push { cls := .type "list", data := .seq acc.toList.toArray }) h3.objs.size acc.toList out.toArray, toks := tk } := by
   refine inv_grow I (fun c o e => hsL c o (Nat.ne_of_lt (Nat.lt_trans (Heap.lt_size e) base3)) (kS c o e)) (fun c o e => ?_) (fun c lt e => ?_) (fun c o e n => ?_)
   · rw [upd_ne (ne_of_none (H2old c o e) HL)]
     exact H2old c o e
   · rw [upd_ne (Nat.ne_of_lt (Nat.lt_trans lt base3))]
     exact H2lt c lt e
   · by_cases q : c = h3.objs.size
     · subst q
       rw [upd_same] at e
       cases e
       exact ⟨hlen2, out, ep, v1, he'⟩
     · rw [upd_ne q] at e
       exact objNew _ (fun c o lc e ⟨p, hp⟩ => hsL c o (fun z => by
         obtain ⟨_, _, q, _⟩ := pairO _ p hp
         rw [z] at q
         exact absurd (Heap.lt_size q) (Nat.lt_irrefl _)) e) c o e n _
  exact ⟨.ref h3.objs.size, _, J, rfl, k _ _ (gH.trans (Go.new HL)) (.lst (fun z => (st.go gH).mok _ z HL) upd_same ((st.go gH).rps (Go.new HL) v2))⟩
/-- sorted(zip(t, u)) -/
def dSortZ (ta : DTA) : DTE := fun ρ P => ta ρ fun ds => match ds with
  | [.tuple xs, .tuple ys] => xs.length = ys.length ∧ xs.length ≤ line ∧ PyData.canLayAll0 (zipD xs ys) = true ∧ nolstAll (zipD xs ys) = true ∧ PySem.W.AllAlike (zipD xs ys) ∧ (∀ x ∈ zipD xs ys, x.depth ≤ 50) ∧ P (.list ((zipD xs ys).mergeSort (PySem.W.dataLe false id)))
  | _ => False
theorem de_sortZ {X : Cx} {F : FAT} {T : List (Addr × Str)} {a b : Expr} {ta : DTA} {p p2 pos pos2 : Pos} (hc : X.calm = true) (hu : X.A.units + 64 < cLine) (hg : Gl X "sorted") (hm : X.mg "sorted" = none) (hg2 : Gl X "zip") (hm2 : X.mg "zip" = none) (ha : DA X F T [a, b] ta)
    (hs : starEach [a, b] X.env = (false, eval a X.env) :: starEach [b] X.env := by rfl) (hpl : (backTo pos2 (starEach [b] X.env)).any (·.1) = false := by rfl)
    (hs2 : starEach [.Call (.Name "zip" p2) [a, b] [] pos2] X.env = (false, eval (.Call (.Name "zip" p2) [a, b] [] pos2) X.env) :: starEach [] X.env := by rfl) (hpl2 : (backTo pos (starEach [] X.env)).any (·.1) = false := by rfl) :
    DE X F T (.Call (.Name "sorted" p) [.Call (.Name "zip" p2) [a, b] [] pos2] [] pos) (dSortZ ta) := by
  refine ⟨fun pins s σ H Q I ⟨W, ρ, P, st, h, k⟩ => ?_⟩
  refine wpAny_Call_Name_kw (ld_blt I hg hm (u := .builtin "sorted") (by decide +kernel) ?_ (by decide) (by decide))
  refine PyProof.Rows.callWith_builtin1 ?_ hs2 hpl2
  rw [hs2]
  show wpAny _ _ (spliced ((false, eval (.Call (.Name "zip" p2) [a, b] [] pos2) X.env) :: backTo pos (starEach [] X.env))) _ _ s
  refine Calls.spliced_cons ?_
  refine Call_ (ld_blt I hg2 hm2 PyProof.Rows.boot_zip (PyProof.Rows.callWith_type1 (thn (ha.run pos2 pins s σ H (fun vs H1 => ∃ ds, Go T W.s H H1 ∧ RpAll X.K F W H1 vs ds ∧ (match ds with
    | [.tuple xs, .tuple ys] => xs.length = ys.length ∧ xs.length ≤ line ∧ PyData.canLayAll0 (zipD xs ys) = true ∧ nolstAll (zipD xs ys) = true ∧ PySem.W.AllAlike (zipD xs ys) ∧ (∀ x ∈ zipD xs ys, x.depth ≤ 50) ∧ P (.list ((zipD xs ys).mergeSort (PySem.W.dataLe false id)))
    | _ => False)) I ⟨W, ρ, _, st, h, fun vs H1 ds g r q => ⟨ds, g, r, q⟩⟩) fun us s1 ⟨vs, H1, I1, r1, ds, g, r, q⟩ => ?_) hs hpl))
  cases r with
  | nil => exact q.elim
  | cons ra r =>
    cases r with
    | nil => cases ra <;> exact q.elim
    | cons rb r =>
      cases r with
      | cons => cases ra <;> cases rb <;> exact q.elim
      | nil =>
        cases ra with
        | tup ea qa =>
          cases rb with
          | tup eb qb =>
            cases r1 with
            | cons v1 r1 =>
              cases r1 with
              | cons v2 r1 =>
                cases r1
                cases v1
                cases v2
                obtain ⟨l1, l2, c1, c2, c3, c4, hp⟩ := q
                refine thn (run_sortZ (F := F) (T := T) (Q := Q) hc hu I1 ⟨_, _, _, _, W, _, _, rfl, ea, eb, (st.go g).bare, qa, qb, l1, l2, c1, c2, c3, c4, fun v H' g' r' => k v H' _ (g.trans g') r' hp⟩) fun v s2 h2 => Calls.spliced_nil h2
          | _ => exact False.elim q
        | _ => cases rb <;> exact False.elim q
end DL
/-! Functions as values: lambdas, defs handed on; their calls. -/
namespace DL
open PySem PySem.Spec PyProof.Rows L2 LamX NdefX
/-! ### data without lists in any view -/
mutual
theorem Rp.fixn {K : PySem.W.Frag} {F F' : FAT} {W W' : Md} {H H' : Hp} (g : ∀ b o, H b = some o → fixd o = true → (∀ φ, o ≠ .ext φ) → H' b = some o) : ∀ (d : Dt) (v : V), nolst d = true → Rp K F W H v d → Rp K F' W' H' v d
  | .none, _, _, h => by cases h; exact .non
  | .bool b, _, _, h => by cases h; exact .bl b
  | .int i, _, _, h => by cases h; exact .int i
  | .str x, _, _, h => by cases h; exact .str x
  | .list ds, _, c, h => by simp [nolst] at c
  | .tuple ds, _, c, h => by
    cases h with
    | tup e r =>
      refine .tup ?_ (RpAll.fixn g ds _ (by simpa [nolst] using c) r)
      rcases e with (e | ⟨o, e⟩) | e
      · exact .inl (.inl (g _ _ e rfl fun φ z => nomatch z))
      · exact .inl (.inr ⟨o, g _ _ e rfl fun φ z => nomatch z⟩)
      · exact .inr e
  | .dict kvs, _, c, h => by simp [nolst] at c
theorem RpAll.fixn {K : PySem.W.Frag} {F F' : FAT} {W W' : Md} {H H' : Hp} (g : ∀ b o, H b = some o → fixd o = true → (∀ φ, o ≠ .ext φ) → H' b = some o) : ∀ (ds : List Dt) (vs : List V), nolstAll ds = true → RpAll K F W H vs ds → RpAll K F' W' H' vs ds
  | [], _, _, h => by cases h; exact .nil
  | d :: ds, _, c, h => by
    have c' : nolst d = true ∧ nolstAll ds = true := by simpa [nolstAll] using c
    cases h with
    | cons a b => exact .cons (Rp.fixn g d _ c'.1 a) (RpAll.fixn g ds _ c'.2 b)
end
/-! ### lambdas -/
structure LamD where
  q : Str
  params : Arguments
  body : Expr
  scope : Scope
  fr : List Str
def LamO (f : Addr) (L : LamD) (cl : List (Str × Addr)) (c' : Addr) : HO := .ext fun h => ∃ (od : Option Addr) (sl : Array (Option Value)) (pm ctv : Value), h.get? f = some (⟨.type "function", od, .func (PySem.W.kla_fn "<lambda>" L.q L.params L.body L.scope cl pm (.ref c') ctv), sl⟩ : Obj)
/-- the very object at c -/
def ExO (c : Addr) (o : Obj) : HO := .ext fun h => h.get? c = some o
def noF : FAT := fun _ _ _ _ => False
def noW : Md := ⟨fun _ => False, fun _ => False, fun _ => False⟩
structure CapAt (K : PySem.W.Frag) (H : Hp) (cl : List (Str × Addr)) (y : Str) (d : Dt) : Prop where
  no : nolst d = true
  ex : ∃ c o u v, cl.lookup y = some c ∧ H c = some (ExO c o) ∧ o.data = .cell (some u) ∧ RelV v u ∧ Rp K noF noW H v d
structure LamAt (K : PySem.W.Frag) (L : LamD) (ds : List Dt) (H : Hp) (f : Addr) (cl : List (Str × Addr)) (c' : Addr) : Prop where
  fn : H f = some (LamO f L cl c')
  code : H c' = some (CodeO c' L.q)
  inj : ∀ x y c, cl.lookup x = some c → cl.lookup y = some c → x = y
  fr : ∀ y c, cl.lookup y = some c → y ∈ L.fr
  len : ds.length = L.fr.length
  cap : ∀ (i : Nat) (y : Str) (d : Dt), L.fr[i]? = some y → ds[i]? = some d → CapAt K H cl y d
/-- Ls: the lambdas by their numbers; gs: the defs -/
def lamF (K : PySem.W.Frag) (Ls : List (Int × LamD)) (gs : List (Int × Addr)) : FAT := fun n ds H a => (∃ L cl c', Ls.lookup n = some L ∧ LamAt K L ds H a cl c') ∨ (ds = [] ∧ gs.lookup n = some a)
theorem CapAt.go {K : PySem.W.Frag} {H H' : Hp} {cl : List (Str × Addr)} {y : Str} {d : Dt} (x : CapAt K H cl y d) (g : ∀ b o, H b = some o → fixd o = true → H' b = some o) : CapAt K H' cl y d := by
  obtain ⟨c, o, u, v, h1, h2, h3, h4, h5⟩ := x.ex
  exact ⟨x.no, c, o, u, v, h1, g _ _ h2 rfl, h3, h4, Rp.fixn (fun b o e f _ => g b o e f) d v x.no h5⟩
theorem LamAt.go {K : PySem.W.Frag} {L : LamD} {ds : List Dt} {H H' : Hp} {f : Addr} {cl : List (Str × Addr)} {c' : Addr} (x : LamAt K L ds H f cl c') (g : ∀ b o, H b = some o → fixd o = true → H' b = some o) : LamAt K L ds H' f cl c' :=
  ⟨g _ _ x.fn rfl, g _ _ x.code rfl, x.inj, x.fr, x.len, fun i y d e1 e2 => (x.cap i y d e1 e2).go g⟩
theorem lamF_ok (K : PySem.W.Frag) (Ls : List (Int × LamD)) (gs : List (Int × Addr)) : FOk (lamF K Ls gs) := by
  intro n ds H H' a h g
  rcases h with ⟨L, cl, c', h1, h2⟩ | h
  · exact .inl ⟨L, cl, c', h1, h2.go g⟩
  · exact .inr h
/-! ### calls of function values -/
/-- what a function value promises, at level k -/
structure CallD (P : Program) (w : World) (K : PySem.W.Frag) (mg : Str → Option Value) (base : Heap) (F : FAT) (T : List (Addr × Str)) (k : Nat) (n : Int) (ds : List Dt) (sp : DSp) : Prop where
  fat : ∀ (h : Heap) (H : Hp) (f : Addr), HOk P w H h → K.In h → F n ds H f → PySem.W.FnAt f h
  run : ∀ (A : Around) (outer : List Env) (s : Shared) (H : Hp) (f : Addr) (us : List Value) (vs : List V) (Q : VK), Room k A → Env0 P w K mg base A outer s H → F n ds H f → Vals vs us → liftC K F T sp vs H Q →
    codeAny (model P w) A (.call (.ref f) ⟨us, []⟩) (CR CX0 outer P w H s Q E0) s
def dTold (i : Nat) (sp : Int → List Dt → DSp) (ta : DTA) : DTE := fun ρ P => ∃ n ds, ρ[i]? = some (some (fnD n ds)) ∧ ta ρ fun args => sp n ds args P
section
variable {X : Cx} {F : FAT} {T : List (Addr × Str)} {k j i : Nat} {x : Str} {e : Expr} {es : List Expr} {ta : DTA} {p pos : Pos} {sp : Int → List Dt → DSp}
theorem de_told (hC : ∀ n ds, CallD X.prog X.w X.K X.mg X.base F T k n ds (sp n ds)) (hr : Room j X.A) (hk : k ≤ j) (hN : X.N[i]? = some x) (hv : Vis X.env.scope x) (ha : DA X F T (e :: es) ta)
    (hd : (x == ("__debug__" : Str)) = false := by decide) (hcd : (x == ("__classdict__" : Str)) = false := by decide)
    (he : starEach (e :: es) X.env = (false, eval e X.env) :: starEach es X.env := by rfl) (hpl : (backTo pos (starEach es X.env)).any (·.1) = false := by rfl) :
    DE X F T (.Call (.Name x p) (e :: es) [] pos) (dTold i sp ta) := by
  refine ⟨fun pins s σ H Q I h => ?_⟩
  obtain ⟨W, ρ, Pd, st, ⟨n, ds, hn, ht⟩, kk⟩ := h
  obtain ⟨v, hs, r⟩ := st.env i _ hn
  have r' : Rp X.K F W H v (fnD n ds) := srp_rp r rfl
  have hf : ∃ f, v = .ref f ∧ F n ds H f := by
    generalize hd : fnD n ds = d at r'
    cases r' with
    | fn e =>
      unfold fnD at hd
      injection hd with hd
      injection hd with hd _
      injection hd with h1 h2
      injection h1 with h1
      injection h2 with h2
      subst h1; subst h2
      exact ⟨_, rfl, e⟩
    | src => unfold fnD srcD at hd; injection hd with hd; cases hd
    | scr => unfold fnD scrD at hd; injection hd with hd; injection hd with hd _; injection hd with h1 _; cases h1
    | dic => unfold fnD dicD at hd; injection hd with hd; injection hd with hd _; injection hd with h1 _; cases h1
    | _ => unfold fnD at hd; cases hd
  obtain ⟨f, rfl, hf⟩ := hf
  refine wpAny_Call_Name_kw (thn ((pe_var (pos := p) hN hv hd hcd).run pins s σ H (fun v H1 => v = .ref f ∧ H1 = H) I ⟨.ref f, hs, rfl, rfl⟩) fun u s1 ⟨v, H1, I1, r1, q1⟩ => ?_)
  obtain ⟨ev, eH⟩ := q1
  subst ev
  rw [eH] at I1
  obtain rfl : u = Value.ref f := r1
  refine PySem.W.callWith_F (first := []) ((hC n ds).fat _ _ _ I1.hok I1.kIn hf) (thn (ha.run pos pins s1 σ H (fun vs H1 => ∃ args, Go T W.s H H1 ∧ RpAll X.K F W H1 vs args ∧ sp n ds args Pd) I1 ⟨W, ρ, _, st, ht, fun vs H1 ds g r q => ⟨ds, g, r, q⟩⟩) fun us s2 ⟨vs, H2, I2, r, args, g, ra, q⟩ => ?_) he hpl
  have hf2 : F n ds H2 f := st.hF _ _ _ _ _ hf g.fix
  refine ⟨(hC n ds).fat _ _ _ I2.hok I2.kIn hf2, ?_⟩
  show wpAny _ _ (call (.ref f) us) _ _ _
  refine wpAny_call (codeAny_mono ((hC n ds).run X.A X.stack s2 H2 f us vs Q (hr.mono hk) I2.env0 hf2 r ⟨W, args, Pd, (st.go g).bare, ra, q, fun v H' d g' r' q' => kk v H' d (g.trans g') r' q'⟩) fun r s' hq => ?_)
  cases r with
  | error e => exact (show False from hq).elim
  | ok fl =>
    cases fl with
    | ret u => exact I2.after hq
    | next => exact False.elim hq
    | brk => exact False.elim hq
    | cont => exact False.elim hq
/-- a def as a value -/
theorem de_gfun {n : Int} {f : Addr} (hF : ∀ H, F n [] H f) (hg : Gl X x) (hm : X.mg x = some (.ref f)) (hd : (x == ("__debug__" : Str)) = false := by decide) : DE X F T (.Name x pos) (dC (fnD n [])) :=
  de_c (pe_glob hg hm (v := .ref f) rfl hd) fun W H => .fn (hF H)
end
/-- a def's promise, as a value's -/
theorem calld_fn {P : Program} {w : World} {K : PySem.W.Frag} {mg : Str → Option Value} {base : Heap} {T : List (Addr × Str)} {k : Nat} {f : Addr} {fd : FuncData} {ps : List Str} {sp : DSp} {Ls : List (Int × LamD)} {gs : List (Int × Addr)} {n : Int} {ds : List Dt} {oc : Value} {od : Option Addr} {osl : Array (Option Value)}
    (hL : Ls.lookup n = none) (hg : gs.lookup n = some f) (hlk : K.lookup f = some ⟨oc, od, .func fd, osl⟩) (G : FnOk P w K mg base CX0 k f fd ps (spD K (lamF K Ls gs) T ps.length sp)) (hb : Binds K fd ps []) (hl : ∀ args Q, sp args Q → args.length = ps.length) : CallD P w K mg base (lamF K Ls gs) T k n ds sp := by
  refine ⟨fun h H f' _ kin hf => ?_, fun A outer s H f' us vs Q hr e0 hf r q => ?_⟩
  · rcases hf with ⟨L, _, _, h1, _⟩ | ⟨_, h1⟩
    · rw [hL] at h1; cases h1
    · rw [hg] at h1; cases h1
      exact ⟨_, _, _, _, kin _ _ hlk⟩
  · rcases hf with ⟨L, _, _, h1, _⟩ | ⟨_, h1⟩
    · rw [hL] at h1; cases h1
    · rw [hg] at h1; cases h1
      obtain ⟨W, args, Pd, st, ra, hs, kk⟩ := q
      have hlen : vs.length = ps.length := by rw [ra.len]; exact hl _ _ hs
      have hb' := hb s us (e0.mod.kin.keeps fun b o e => (e0.bs b o e).1) (by rw [List.append_nil, ← r.length]; exact hlen)
      rw [List.append_nil] at hb'
      exact G.run A outer s H ⟨us, []⟩ us vs Q E0 hr e0 hb' r ⟨hlen, W, args, Pd, st, ra, hs, kk⟩
end DL
/-! Lambdas: what they promise, their making. -/
namespace DL
open PySem PySem.Spec PyProof.Rows L2 LamX NdefX
def startL (n : Nat) (args ds : List Dt) : Rho := args.map some ++ (ds.map some ++ List.replicate (n - args.length - ds.length) none)
abbrev LamD.nf (L : LamD) (cl : List (Str × Addr)) (c' : Addr) : NF := ⟨"<lambda>", L.q, L.params, [], L.scope, cl, c'⟩
section
variable {K : PySem.W.Frag} {P : Program} {w : World} {mg : Str → Option Value} {base : Heap} {H H' : Hp} {cl : List (Str × Addr)} {s s' : Shared} {F : FAT} {T : List (Addr × Str)} {W : Md}
open Classical in
noncomputable def dropC (H : Hp) (cl : List (Str × Addr)) : Hp := fun b => if (∃ y, cl.lookup y = some b) then none else H b
open Classical in
noncomputable def addC (H H' : Hp) (cl : List (Str × Addr)) : Hp := fun b => if (∃ y, cl.lookup y = some b) then H b else H' b
theorem drop_in {b : Addr} (h : ∃ y, cl.lookup y = some b) : dropC H cl b = none := by unfold dropC; rw [if_pos h]
theorem drop_out {b : Addr} (h : ¬ ∃ y, cl.lookup y = some b) : dropC H cl b = H b := by unfold dropC; rw [if_neg h]
theorem add_in {b : Addr} (h : ∃ y, cl.lookup y = some b) : addC H H' cl b = H b := by unfold addC; rw [if_pos h]
theorem add_out {b : Addr} (h : ¬ ∃ y, cl.lookup y = some b) : addC H H' cl b = H' b := by unfold addC; rw [if_neg h]
/-- every captured cell stands as the very object -/
def CapsIn (H : Hp) (cl : List (Str × Addr)) : Prop := ∀ y c, cl.lookup y = some c → ∃ o u v, H c = some (ExO c o) ∧ o.data = .cell (some u) ∧ RelV v u
theorem LamAt.caps {L : LamD} {ds : List Dt} {f c' : Addr} (x : LamAt K L ds H f cl c') : CapsIn H cl := by
  intro y c hc
  obtain ⟨i, hi⟩ := List.mem_iff_getElem?.mp (x.fr y c hc)
  have hl : i < ds.length := by rw [x.len]; exact (List.getElem?_eq_some_iff.mp hi).1
  obtain ⟨c2, o, u, v, h1, h2, h3, h4, _⟩ := (x.cap i y _ hi (List.getElem?_eq_getElem hl)).ex
  rw [hc] at h1
  cases h1
  exact ⟨o, u, v, h2, h3, h4⟩
theorem CapsIn.at_ (x : CapsIn H cl) {b : Addr} (h : ∃ y, cl.lookup y = some b) : ∃ o u v, H b = some (ExO b o) ∧ o.data = .cell (some u) ∧ RelV v u := let ⟨y, e⟩ := h; x y b e
theorem CapsIn.out (x : CapsIn H cl) {b : Addr} {o : HO} (e : H b = some o) (n : ∀ φ, o ≠ .ext φ) : ¬ ∃ y, cl.lookup y = some b := fun h => by
  obtain ⟨ob, u, v, h1, _⟩ := x.at_ h
  rw [e] at h1
  exact n _ (Option.some.inj h1)
theorem CapsIn.code (x : CapsIn H cl) (hok : HOk P w H s.heap) {b : Addr} {q : Str} (e : H b = some (CodeO b q)) : ¬ ∃ y, cl.lookup y = some b := fun h => by
  obtain ⟨ob, u, v, h1, h2, _⟩ := x.at_ h
  obtain ⟨⟨oc, vs, t, e1, e2, _⟩, _, _⟩ := hok b _ e
  obtain ⟨e3, _, _⟩ := hok b _ h1
  rw [e3] at e1
  cases e1
  rw [h2] at e2
  cases e2
theorem CapsIn.tabs (x : CapsIn H cl) (hok : HOk P w H s.heap) (t : Tabs T H) : Tabs T (dropC H cl) := by
  intro p hp
  obtain ⟨ps, h1, h2, h3⟩ := t p hp
  refine ⟨ps, by rw [drop_out (x.out h1 fun φ z => nomatch z)]; exact h1, h2, fun pos cv hc => ?_⟩
  obtain ⟨c, e1, e2⟩ := h3 pos cv hc
  exact ⟨c, e1, by rw [drop_out (x.code hok e2)]; exact e2⟩
theorem CapsIn.hok (x : CapsIn H cl) {h : Heap} (hok : HOk P w H h) : HOk P w (dropC H cl) h := by
  intro b o e
  by_cases hb : ∃ y, cl.lookup y = some b
  · rw [drop_in hb] at e; cases e
  · rw [drop_out hb] at e
    refine (hok b o e).stay (fun _ _ _ q => q) (fun c q => ?_) (fun c xs q => ?_)
    · rw [drop_out (x.out q fun φ z => nomatch z)]; exact q
    · rw [drop_out (x.out q fun φ z => nomatch z)]; exact q
theorem drop_none {b : Addr} (e : H b = none) : dropC H cl b = none := by
  by_cases hb : ∃ y, cl.lookup y = some b
  · exact drop_in hb
  · rw [drop_out hb]; exact e
theorem CapsIn.env0 (x : CapsIn H cl) {A : Around} {outer : List Env} (e : Env0 P w K mg base A outer s H) : Env0 P w K mg base A outer s (dropC H cl) :=
  ⟨e.frames, e.mod, fun b o h => ⟨(e.bs b o h).1, drop_none (e.bs b o h).2⟩, e.bsz, e.funs, fun b h => drop_none (e.frf b h), x.hok e.hok, e.bare⟩
/-- the captured cells come back -/
theorem CapsIn.back (x : CapsIn H cl) {A : Around} {outer : List Env} (e0 : Env0 P w K mg base A outer s H) {Q Q' : VK} {u : Value} (h : CE outer P w (dropC H cl) s Q' u s') (hq : ∀ v H', (∀ b, (∃ y, cl.lookup y = some b) → H' b = none) → Q' v H' → Q v (addC H H' cl)) : CE outer P w H s Q u s' := by
  obtain ⟨v, H', os, bare, un, hok, rv, q⟩ := h
  have hold : ∀ b, (∃ y, cl.lookup y = some b) → ∃ o u v, s.heap.get? b = some o ∧ H b = some (ExO b o) ∧ o.data = .cell (some u) ∧ RelV v u := fun b hb => by
    obtain ⟨o, u, v, h1, h2, h3⟩ := x.at_ hb
    obtain ⟨e3, _, _⟩ := e0.hok b _ h1
    exact ⟨o, u, v, e3, h1, h2, h3⟩
  have hn : ∀ b, (∃ y, cl.lookup y = some b) → H' b = none := fun b hb => by
    obtain ⟨o, u, v, h1, _⟩ := hold b hb
    exact un.free b o h1 (drop_in hb) (by simp)
  have no : ∀ b, H b = none → ¬ ∃ y, cl.lookup y = some b := fun b e hb => by
    obtain ⟨o, u, v, _, h1, _⟩ := hold b hb
    rw [e] at h1; cases h1
  refine ⟨v, addC H H' cl, os, bare, ⟨fun b o e n hf hx => ?_, fun b o e n hf hx => ?_, fun b o e n hx => ?_, un.there, fun b xs e => ?_, fun b o xs e => ?_, fun b ps e => ?_⟩, fun b o e => ?_, rv, hq v H' hn q⟩
  · exact un.keep b o e (drop_none n) hf hx
  · exact un.slot b o e (drop_none n) hf hx
  · rw [add_out (no b n)]; exact un.free b o e (drop_none n) hx
  · have c := x.out e fun φ z => nomatch z
    rw [add_out c]; exact un.tups b xs (by rw [drop_out c]; exact e)
  · have c := x.out e fun φ z => nomatch z
    rw [add_out c]; exact un.frzs b o xs (by rw [drop_out c]; exact e)
  · have c := x.out e fun φ z => nomatch z
    obtain ⟨more, z⟩ := un.tbls b ps (by rw [drop_out c]; exact e)
    exact ⟨more, by rw [add_out c]; exact z⟩
  · by_cases hb : ∃ y, cl.lookup y = some b
    · rw [add_in hb] at e
      obtain ⟨ob, u, v, h1, h2, _⟩ := hold b hb
      rw [h2] at e
      cases e
      have nf : b ∉ frs outer := fun z => by
        have := e0.frf b z
        rw [h2] at this; cases this
      have e4 := un.keep b ob h1 (drop_in hb) nf (by simp)
      exact ⟨e4, ⟨_, e4⟩, fun h1 h2 a st => st _ a⟩
    · rw [add_out hb] at e
      refine (hok b o e).stay (fun _ _ _ q => q) (fun c q => ?_) (fun c xs q => ?_)
      · rw [add_out (fun hc => by rw [hn c hc] at q; cases q)]; exact q
      · rw [add_out (fun hc => by rw [hn c hc] at q; cases q)]; exact q
/-- the view without the captured cells -/
def Md.less (W : Md) (cl : List (Str × Addr)) : Md := ⟨fun b => W.m b ∧ ¬ ∃ y, cl.lookup y = some b, fun b => W.s b ∧ ¬ ∃ y, cl.lookup y = some b, fun b => W.m b ∧ ¬ ∃ y, cl.lookup y = some b⟩
theorem CapsIn.goes (x : CapsIn H cl) (hn : ∀ b, (∃ y, cl.lookup y = some b) → H' b = none) (t : Tabs T H → Tabs T (dropC H cl)) (g : Go T (W.less cl).s (dropC H cl) H') : Go T W.s H (addC H H' cl) := by
  refine ⟨fun b o e f => ?_, fun b o e f n => ?_, fun b z ⟨i, j, e, r⟩ => ?_, fun b e => ?_, fun h => ?_⟩
  · by_cases hb : ∃ y, cl.lookup y = some b
    · rw [add_in hb]; exact e
    · rw [add_out hb]; exact g.fix b o (by rw [drop_out hb]; exact e) f
  · by_cases hb : ∃ y, cl.lookup y = some b
    · rw [add_in hb]; exact e
    · rw [add_out hb]; exact g.keep b o (by rw [drop_out hb]; exact e) f fun q => n q.1
  · have hb := x.out e fun φ z => nomatch z
    obtain ⟨i', j', e', r'⟩ := g.src b ⟨z, hb⟩ ⟨i, j, by rw [drop_out hb]; exact e, r⟩
    exact ⟨i', j', by rw [add_out hb]; exact e', r'⟩
  · by_cases hb : ∃ y, cl.lookup y = some b
    · rw [add_in hb]; exact e
    · rw [add_out hb]; exact g.there b (by rw [drop_out hb]; exact e)
  · refine (g.tabs (t h)).ext fun b o e => ?_
    rw [add_out (fun hc => by rw [hn b hc] at e; cases e)]; exact e
end
/-! ### what a lambda promises -/
theorem startL_get {n i : Nat} {args ds : List Dt} {d : Dt} (h : (startL n args ds)[i]? = some (some d)) : (i < args.length ∧ args[i]? = some d) ∨ (args.length ≤ i ∧ ds[i - args.length]? = some d) := by
  unfold startL at h
  by_cases hi : i < args.length
  · rw [List.getElem?_append_left (by simpa using hi), List.getElem?_map] at h
    cases q : args[i]? with
    | none => rw [q] at h; cases h
    | some e => rw [q] at h; exact .inl ⟨hi, Option.some.inj h⟩
  · rw [List.getElem?_append_right (by simpa using hi), List.length_map] at h
    by_cases hj : i - args.length < ds.length
    · rw [List.getElem?_append_left (by simpa using hj), List.getElem?_map] at h
      cases q : ds[i - args.length]? with
      | none => rw [q] at h; cases h
      | some e => rw [q] at h; exact .inr ⟨by omega, Option.some.inj h⟩
    · rw [List.getElem?_append_right (by simpa using hj), List.getElem?_replicate] at h
      split at h
      · cases h
      · cases h
theorem calld_lam {P : Program} {w : World} {K : PySem.W.Frag} {mg : Str → Option Value} {base : Heap} {T : List (Addr × Str)} {k : Nat} {Ls : List (Int × LamD)} {gs : List (Int × Addr)} {n : Int} {L : LamD} {N ps : List Str} {te : DTE} {ds : List Dt} {sp : DSp}
    (hL : Ls.lookup n = some L) (hg : gs.lookup n = none) (S : NScope N ps L.fr L.scope) (hbind : ∀ (cl : List (Str × Addr)) (pm cv ctv : Value) (us : List Value), us.length = ps.length → bindArgs (PySem.W.kla_fn "<lambda>" L.q L.params L.body L.scope cl pm cv ctv) ⟨us, []⟩ = pure (ps.zip us))
    (hb : ∀ (cl : List (Str × Addr)) (c' f : Addr) (A : Around) (outer : List Env) (s : Shared) (H : Hp), Room k (A.deeper (envF (L.nf cl c') f s.heap.objs.size)) → DE (ncx CX0 P w K mg base N (L.nf cl c') f A outer s H E0) (lamF K Ls gs) T L.body te)
    (hsp : ∀ (args : List Dt) (Q : Dt → Prop), ds.length = L.fr.length → sp args Q → args.length = ps.length ∧ nolstAll args = true ∧ te (startL N.length args ds) Q) : CallD P w K mg base (lamF K Ls gs) T (k + 1) n ds sp := by
  have at_ : ∀ {H : Hp} {f : Addr}, lamF K Ls gs n ds H f → ∃ cl c', LamAt K L ds H f cl c' := fun {H f} h => by
    rcases h with ⟨L', cl, c', h1, h2⟩ | ⟨_, h1⟩
    · rw [hL] at h1; cases h1
      exact ⟨cl, c', h2⟩
    · rw [hg] at h1; cases h1
  refine ⟨fun h H f hok _ hf => ?_, fun A outer s H f us vs Q hr e0 hf r q => ?_⟩
  · obtain ⟨cl, c', x⟩ := at_ hf
    obtain ⟨⟨od, sl, pm, ctv, e⟩, _, _⟩ := hok f _ x.fn
    exact ⟨_, _, _, _, e⟩
  · obtain ⟨cl, c', x⟩ := at_ hf
    obtain ⟨W, args, Pd, st, ra, hs, kk⟩ := q
    obtain ⟨la, na, ht⟩ := hsp args Pd x.len hs
    have hc := x.caps
    have e0d := hc.env0 e0
    have lim : s.heap.NoLimit := e0.mod.nolimit.keeps fun b o e => (e0.bs b o e).1
    obtain ⟨⟨od, sl, pm, ctv, ho⟩, _, _⟩ := e0.hok f _ x.fn
    obtain ⟨⟨oc, vs', t, hoc, hdc, hvc⟩, _, _⟩ := e0.hok c' _ x.code
    have hl : vs.length = ps.length := by rw [ra.len]; exact la
    -- the captured values
    have hcap : ∀ i : Fin L.fr.length, ∃ v, ∃ d, ds[i.1]? = some d ∧ ∃ c o u, cl.lookup (L.fr[i.1]) = some c ∧ H c = some (ExO c o) ∧ o.data = .cell (some u) ∧ RelV v u ∧ Rp K noF noW H v d ∧ nolst d = true := fun i => by
      have hi : i.1 < ds.length := by rw [x.len]; exact i.2
      have z := x.cap i.1 (L.fr[i.1]) ds[i.1] (List.getElem?_eq_getElem i.2) (List.getElem?_eq_getElem hi)
      obtain ⟨c, o, u, v, a1, a2, a3, a4, a5⟩ := z.ex
      exact ⟨v, _, List.getElem?_eq_getElem hi, c, o, u, a1, a2, a3, a4, a5, z.no⟩
    let ws : List (Option V) := (List.finRange L.fr.length).map fun i => some (Classical.choose (hcap i))
    have wlen : ws.length = L.fr.length := by simp [ws]
    have wget : ∀ (i : Nat) (hi : i < L.fr.length), ws[i]? = some (some (Classical.choose (hcap ⟨i, hi⟩))) := fun i hi => by
      show ((List.finRange L.fr.length).map _)[i]? = _
      rw [List.getElem?_map, List.getElem?_eq_getElem (by simpa using hi)]
      simp
    have C : CellsAt cl L.fr ws s.heap (dropC H cl) := by
      refine ⟨wlen, fun y c e => ?_, x.inj, fun i y e => ?_⟩
      · obtain ⟨o, u, v, h1, h2, h3⟩ := hc y c e
        obtain ⟨e3, _, _⟩ := e0.hok c _ h1
        exact ⟨drop_in ⟨y, e⟩, some u, o, e3, h2⟩
      · have hi : i < L.fr.length := (List.getElem?_eq_some_iff.mp e).1
        have ey : L.fr[i] = y := (List.getElem?_eq_some_iff.mp e).2
        obtain ⟨d, _, c, o, u, a1, a2, a3, a4, _⟩ := Classical.choose_spec (hcap ⟨i, hi⟩)
        refine ⟨c, by rw [← ey]; exact a1, fun v ev => ?_⟩
        rw [wget i hi] at ev
        cases ev
        obtain ⟨e3, _, _⟩ := e0.hok c _ a2
        exact ⟨u, a4, o, e3, a3⟩
    refine codeAny_mono (R := CR CX0 outer P w (dropC H cl) s (fun v H' => ∃ d, Go T (W.less cl).s (dropC H cl) H' ∧ Rp K (lamF K Ls gs) (W.less cl) H' v d ∧ Pd d) E0) ?_ fun r s' hq => ?_
    · refine PySem.W.kla_callFunE hr.depth ho rfl S.co S.gen rfl ⟨c', oc, vs', t, rfl, hoc, hdc, hvc⟩ ?_
      rw [hbind cl pm (.ref c') ctv us (by rw [← r.length]; exact hl)]
      refine wpAny_pure (wpAny_newFunctionEnv S.nocell (fun ⟨n, _⟩ hy => S.par n (List.of_mem_zip hy).1) (fun h₁ hns hsb => ⟨lim.fresh _ hsb, ?_⟩) S.kind)
      show codeAny _ _ (.expr L.body (envF (L.nf cl c') f s.heap.objs.size)) _ _
      have kp : ∀ b o, s.heap.get? b = some o → h₁.get? b = some o := fun b o e => hsb.extBut b o (Nat.ne_of_lt (Heap.lt_size e)) (Heap.get?_push_of_some _ e)
      have J : Inv (ncx CX0 P w K mg base N (L.nf cl c') f A outer s (dropC H cl) E0) [] (startF N vs ws) (dropC H cl) { s with heap := h₁, toks := s.toks + (ps.zip us).length } :=
        inv_startN (F := L.nf cl c') S hr.hd e0d hl r C hns kp
      have keepD : ∀ b o, H b = some o → fixd o = true → (∀ φ, o ≠ .ext φ) → dropC H cl b = some o := fun b o e _ n => by rw [drop_out (hc.out e n)]; exact e
      have pl : ps.length + L.fr.length ≤ N.length := by
        have q := congrArg List.length S.pre
        rw [List.length_take, List.length_append] at q
        omega
      have S0 : Stt K (lamF K Ls gs) T (W.less cl) (startF N vs ws) (startL N.length args ds) (dropC H cl) := by
        refine ⟨?_, fun i d e => ?_, fun i j d e hn q1 q2 m1 m2 => ?_, fun b z => by rw [drop_out z.2]; exact st.mok b z.1, fun b z => ⟨st.sm b z.1, z.2⟩, fun b z => z, hc.tabs e0.hok st.tabs, st.hF⟩
        · unfold startF startL
          simp only [List.length_append, List.length_map, List.length_replicate, wlen, x.len, hl, la]
          omega
        · rcases startL_get e with ⟨hi, e⟩ | ⟨hi, e⟩
          · have nd : nolst d = true := by
              have : ∀ (l : List Dt) (i : Nat) (z : Dt), nolstAll l = true → l[i]? = some z → nolst z = true := by
                intro l
                induction l with
                | nil => intro i z _ e; simp at e
                | cons y l ih =>
                  intro i z c e
                  have c' : nolst y = true ∧ nolstAll l = true := by simpa [nolstAll] using c
                  cases i with
                  | zero => simp at e; subst e; exact c'.1
                  | succ i => exact ih i z c'.2 (by simpa using e)
              exact this args i d na e
            obtain ⟨v, e1, r1⟩ := ra.get e
            refine ⟨v, ?_, srp_of (Rp.fixn keepD d v nd r1)⟩
            unfold startF
            rw [List.getElem?_append_left (by rw [List.length_map, hl, ← la]; exact hi), List.getElem?_map, e1]
            rfl
          · have hj : i - args.length < L.fr.length := by rw [← x.len]; exact (List.getElem?_eq_some_iff.mp e).1
            obtain ⟨d', e', c, o, u, a1, a2, a3, a4, a5, a6⟩ := Classical.choose_spec (hcap ⟨i - args.length, hj⟩)
            rw [e] at e'
            cases e'
            refine ⟨Classical.choose (hcap ⟨i - args.length, hj⟩), ?_, srp_of (Rp.fixn keepD d _ a6 a5)⟩
            unfold startF
            have q1 : (List.map some vs).length = args.length := by rw [List.length_map, hl, ← la]
            rw [List.getElem?_append_right (by rw [q1]; exact hi), q1, List.getElem?_append_left (by rw [wlen]; exact hj)]
            exact wget _ hj
        · have : isMut d = false := by
            rcases startL_get q1 with ⟨hi, e⟩ | ⟨hi, e⟩
            · obtain ⟨v, e1, r1⟩ := ra.get e
              exact rp_notmut r1
            · have hj : i - args.length < L.fr.length := by rw [← x.len]; exact (List.getElem?_eq_some_iff.mp e).1
              obtain ⟨d', e', c, o, u, a1, a2, a3, a4, a5, a6⟩ := Classical.choose_spec (hcap ⟨i - args.length, hj⟩)
              rw [e] at e'
              cases e'
              exact rp_notmut a5
          rw [this] at m1; cases m1
      refine PySem.W.kla_codeExpr (wpAny_mono ((hb cl c' f A outer s (dropC H cl) (hr.deeper _)).run [] _ (startF N vs ws) (dropC H cl) (fun v H' => ∃ d, Go T (W.less cl).s (dropC H cl) H' ∧ Rp K (lamF K Ls gs) (W.less cl) H' v d ∧ Pd d) J ⟨W.less cl, _, Pd, S0, ht, fun v H' d g r q => ⟨d, g, r, q⟩⟩) (fun v s' hq => ?_) fun e s' hq => hq)
      obtain ⟨w', H', J', rv, q⟩ := hq
      exact ⟨w', H', J'.os, J'.bare, J'.base, J'.hok, rv, q⟩
    · cases r with
      | error e => exact hq
      | ok fl =>
        cases fl with
        | ret u =>
          refine hc.back e0 hq fun v H' hn ⟨d, g, r, q⟩ => ?_
          refine kk v _ d (hc.goes hn (hc.tabs e0.hok) g) ?_ q
          have ext : ∀ b o, H' b = some o → addC H H' cl b = some o := fun b o e => by rw [add_out (fun hc => by rw [hn b hc] at e; cases e)]; exact e
          refine Rp.cells (W := W.less cl) (W' := W) (lamF_ok K Ls gs) (fun b z => ?_) (fun b z => z.1) (fun b z ⟨i, j, e, r⟩ => ⟨i, j, ext _ _ e, r⟩) (fun b o e _ _ => ext b o e) (fun b o e _ => ext b o e) d v r
          by_cases hb : ∃ y, cl.lookup y = some b
          · exact .inr (hn b hb)
          · exact .inl ⟨z, hb⟩
        | next => exact hq
        | brk => exact hq
        | cont => exact hq
/-! ### a lambda is made -/
section
variable {X : Cx} {pins : List (Addr × Obj)} {σ : L2.St} {H : Hp} {s : Shared}
theorem inv_lam {L : LamD} {cl : List (Str × Addr)} {c' : Addr} {o : Obj} {t' : Nat} {pm ctv : Value} (I : Inv X pins σ H s) (ho : o = { cls := .type "function", data := .func (PySem.W.kla_fn "<lambda>" L.q L.params L.body L.scope cl pm (.ref c') ctv) }) :
    Inv X pins σ (upd H s.heap.objs.size (LamO s.heap.objs.size L cl c')) { s with heap := s.heap.push o, toks := t' } := by
  subst ho
  refine I.laid (a := s.heap.objs.size) (fun b u e => Heap.get?_push_of_some _ e) (Nat.le_refl _) ?_
  have e : (s.heap.push ({ cls := .type "function", data := .func (PySem.W.kla_fn "<lambda>" L.q L.params L.body L.scope cl pm (.ref c') ctv) } : Obj)).get? s.heap.objs.size = some ({ cls := .type "function", data := .func (PySem.W.kla_fn "<lambda>" L.q L.params L.body L.scope cl pm (.ref c') ctv) } : Obj) := Heap.get?_push_size _ rfl
  exact ⟨⟨_, _, pm, ctv, e⟩, ⟨_, e⟩, fun h1 h2 ⟨od, sl, p, t, z⟩ st => ⟨od, sl, p, t, st _ z⟩⟩
theorem lam_make3 {T : List (Addr × Str)} {c P : Addr} {params : Arguments} {body : Expr} {scope : Scope} {fr : List Str} {pos : Pos} {E : Value → Shared → Prop} {Q : Value → Shared → Prop} (I : Inv X pins σ H s) (TB : TabB X.base X.mg c P) (hcode : X.env.code = .ref c)
    (hm : (P, X.env.qual ++ "<lambda>") ∈ T) (hu : ∀ p ∈ T, p.1 = P → p.2 = X.env.qual ++ "<lambda>") (hT : Tabs T H) (hdef : defaultsOf params X.env = ([], [])) (hfree : ∀ y ∈ scope.names, y.2 = .free → ∃ c, X.env.cells.lookup y.1 = some c)
    (h : ∀ (f c' : Addr) (H1 : Hp) (s' : Shared), Inv X pins σ H1 s' → (∀ S, Go T S H H1) → H1 f = some (LamO f ⟨X.env.qual ++ "<lambda>", params, body, scope, fr⟩ (cloFrom X.env.cells scope.names []) c') → H1 c' = some (CodeO c' (X.env.qual ++ "<lambda>")) → Q (.ref f) s') :
    wpAny (model X.prog X.w) X.A (eval (.Lambda params body scope pos) X.env) Q E s := by
  obtain ⟨ps, hP, ht, ha⟩ := hT _ hm
  refine PySem.W.kla_eval hdef ?_
  have bP : s.heap.BuiltinsAt X.mg P := TB.bm.keeps I.bk
  have hP' : s.heap.get? P = some { cls := .none, data := .fields ps } := I.hok P _ hP
  cases hc : codeAmong pos ps.toList with
  | none =>
    refine PySem.W.kla_makeFunction (mg := X.mg) (c := c) (P := P) (ps := ps) (closure_ok hfree) I.ok.glob (I.mod.glob.keeps I.bk) hcode (TB.code.keeps I.bk) hP' ht hc TB.gP bP fun c' ctv h' tk hx hge hlt hrec htb => ?_
    obtain ⟨c2, oc, vs, t, e2, hoc, hd, hv⟩ := hrec
    cases e2
    have nC : H c' = none := I.hok.fresh hge
    have I1 := inv_table (t' := tk) (more := #[rawInt pos.line, rawInt pos.col, .ref c']) (h' := h') I hP (fun b o hb e => hx b o hb e) htb hge ⟨oc, vs, t, hoc, hd, hv⟩
    have hE : ExtN H (upd (upd H P (.tbl (ps ++ #[rawInt pos.line, rawInt pos.col, .ref c']))) c' (CodeO c' (X.env.qual ++ "<lambda>"))) := fun b o e n => by
      rw [upd_ne (ne_of_none e nC), upd_ne (fun z => n ps (Option.some.inj (e.symm.trans (by rw [z]; exact hP))))]
      exact e
    have eL : (ps ++ #[rawInt pos.line, rawInt pos.col, .ref c']).toList = ps.toList ++ [rawInt pos.line, rawInt pos.col, .ref c'] := by simp
    have T1 : Tabs T (upd (upd H P (.tbl (ps ++ #[rawInt pos.line, rawInt pos.col, .ref c']))) c' (CodeO c' (X.env.qual ++ "<lambda>"))) := fun p hp => by
      by_cases hb : p.1 = P
      · rw [hu p hp hb, hb]
        refine ⟨_, by rw [upd_ne (ne_of_none hP nC), upd_same], by rw [eL]; exact PySem.TriplesOk_snoc _ _ _ _ ht, fun p' cv hcv => ?_⟩
        rw [eL] at hcv
        rcases among_app _ ht hcv with z | z
        · obtain ⟨c0, e1, e2⟩ := ha p' cv z
          exact ⟨c0, e1, hE _ _ e2 codeO_ne⟩
        · exact ⟨c', z, upd_same⟩
      · obtain ⟨ps', a1, a2, a3⟩ := hT p hp
        refine ⟨ps', by rw [upd_ne (ne_of_none a1 nC), upd_ne hb]; exact a1, a2, fun p' cv hcv => ?_⟩
        obtain ⟨c0, e1, e2⟩ := a3 p' cv hcv
        exact ⟨c0, e1, hE _ _ e2 codeO_ne⟩
    have nF := I1.hok.fresh (Nat.le_refl _)
    have I2 := inv_lam (L := ⟨X.env.qual ++ "<lambda>", params, body, scope, fr⟩) (cl := cloFrom X.env.cells scope.names []) (c' := c') (t' := tk) (pm := (X.mg "__name__").getD .none) (ctv := ctv) I1 rfl
    refine h h'.objs.size c' _ _ I2 (fun S => ?_) upd_same ((upd_ne (Nat.ne_of_lt hlt)).trans upd_same)
    have g2 : Go T S (upd (upd H P (.tbl (ps ++ #[rawInt pos.line, rawInt pos.col, .ref c']))) c' (CodeO c' (X.env.qual ++ "<lambda>"))) (upd (upd (upd H P (.tbl (ps ++ #[rawInt pos.line, rawInt pos.col, .ref c']))) c' (CodeO c' (X.env.qual ++ "<lambda>"))) h'.objs.size (LamO h'.objs.size ⟨X.env.qual ++ "<lambda>", params, body, scope, fr⟩ (cloFrom X.env.cells scope.names []) c')) := Go.new nF
    refine Go.trans ⟨fun b o e f => hE b o e fun q z => ?_, fun b o e f _ => hE b o e fun q z => ?_, fun b z ⟨x, y, e, r⟩ => ⟨x, y, hE b _ e (fun q z => by cases z), r⟩, fun b e => ?_, fun _ => T1⟩ g2
    · rw [z] at f; cases f
    · rw [z] at f; cases f
    · by_cases hb : b = c'
      · rw [hb, upd_same]; exact fun z => nomatch z
      · rw [upd_ne hb]
        by_cases hb2 : b = P
        · rw [hb2, upd_same]; exact fun z => nomatch z
        · rw [upd_ne hb2]; exact e
  | some cv =>
    obtain ⟨c', e, hco⟩ := ha pos cv hc
    subst e
    refine PySem.W.kla_makeFunctionHit (mg := X.mg) (c := c) (P := P) (ps := ps) (closure_ok hfree) I.ok.glob (I.mod.glob.keeps I.bk) hcode (TB.code.keeps I.bk) hP' ht hc bP fun ctv h' tk hx hsz => ?_
    have I1 : Inv X pins σ H { s with heap := h', toks := tk } := I.kept hx
    have nF : H h'.objs.size = none := I1.hok.fresh (Nat.le_refl _)
    have I2 := inv_lam (L := ⟨X.env.qual ++ "<lambda>", params, body, scope, fr⟩) (cl := cloFrom X.env.cells scope.names []) (c' := c') (t' := tk) (pm := (X.mg "__name__").getD .none) (ctv := ctv) I1 rfl
    exact h h'.objs.size c' _ _ I2 (fun S => Go.new nF) upd_same ((upd_ne (ne_of_none hco nF)).trans hco)
/-- no captured name -/
theorem de_lam0 {Ls : List (Int × LamD)} {gs : List (Int × Addr)} {T : List (Addr × Str)} {c P : Addr} {params : Arguments} {body : Expr} {scope : Scope} {pos : Pos} {n : Int} {q : Str} (hL : Ls.lookup n = some ⟨q, params, body, scope, []⟩) (hq : X.env.qual ++ "<lambda>" = q) (TB : TabB X.base X.mg c P) (hcode : X.env.code = .ref c)
    (hm : (P, q) ∈ T) (hu : ∀ p ∈ T, p.1 = P → p.2 = q) (hdef : defaultsOf params X.env = ([], [])) (hfree : scope.names.all (fun y => !decide (y.2 = .free)) = true) : DE X (lamF X.K Ls gs) T (.Lambda params body scope pos) (dC (fnD n [])) := by
  subst hq
  have nf : ∀ y ∈ scope.names, y.2 ≠ .free := fun y hy e => by
    have := List.all_eq_true.mp hfree y hy
    rw [e] at this
    simp at this
  refine ⟨fun pins s σ H Q I ⟨W, ρ, Pd, st, hp, k⟩ => ?_⟩
  refine lam_make3 (fr := []) I TB hcode hm hu st.tabs hdef (fun y hy e => absurd e (nf y hy)) fun f c' H1 s' I1 g h1 h2 => ?_
  refine ⟨.ref f, H1, I1, rfl, k _ _ _ (g W.s) (.fn (.inl ⟨_, _, c', hL, h1, h2, fun x y c e1 e2 => ?_, fun y c e => ?_, rfl, fun i y d e => by simp at e⟩)) hp⟩
  · rcases cloFrom_mem (PySem.mem_of_lookup e1) with hm | ⟨h1, h2⟩
    · cases hm
    · exact absurd rfl (nf _ h1)
  · rcases cloFrom_mem (PySem.mem_of_lookup e) with hm | ⟨h1, h2⟩
    · cases hm
    · exact absurd rfl (nf _ h1)
end
end DL
/-! enumerate of a tuple; a tuple backwards; list(range(..)); index; dicts; draws; module constants. -/
namespace DL
open PySem PySem.Spec PyProof.Rows L2 LamX
/-! ### enumerate(t) -/
theorem meets_enumerate_tup (t : Addr) (items : Array Value) :
    Meets (Builtin.«enumerate.__new__» ⟨[.type "enumerate", .ref t], []⟩) (fun _ R s => s.heap.IsTuple t items ∧
      R (.ok (.ret (.ref (s.heap.push { cls := .type "tuple_iterator", data := .fields #[.ref t, .int 0 0] }).objs.size)))
        { s with heap := (s.heap.push { cls := .type "tuple_iterator", data := .fields #[.ref t, .int 0 0] }).push { cls := .type "enumerate", data := .fields #[.none, .bool false, .ref s.heap.objs.size, rawInt 0, .none, .none] } }) :=
  .of_wp fun prog w A R s h => by
    obtain ⟨hp, g, d, tk, os⟩ := s; obtain ⟨h1, h⟩ := h
    have hsub := sub_enumerate
    have q1 : ∀ {A' : Around} {E : Value → Shared → Prop} {Q : Value → Shared → Prop}, Q (.ref hp.objs.size) ⟨hp.push { cls := .type "tuple_iterator", data := .fields #[.ref t, .int 0 0] }, g, d, tk, os⟩ → wpAny (model prog w) A' (pyIter (.ref t)) Q E ⟨hp, g, d, tk, os⟩ :=
      fun q => wpAny_pyIter_tuple h1 q
    obtain ⟨ot, hot, hct, nt, hdt⟩ := id h1
    wp_walk using q1
    refine wpAny_stack_any fun st => wpAny_pure ?_
    split
    · rename_i c _ _ _ _ _
      cases (c == Value.type "enumerate")
      · wp_walk using q1
        exact ⟨_, rfl, h⟩
      · wp_walk using q1
        exact ⟨_, rfl, h⟩
    · wp_walk using q1
      exact ⟨_, rfl, h⟩
theorem call_enumerate_tup {prog : Program} {w : World} {A : Around} {E : Value → Shared → Prop} {s : Shared} {t : Addr} {items : Array Value} {Q : Value → Shared → Prop} (hT : s.heap.IsTuple t items)
    (h : ∀ h', IsEnum h' (s.heap.objs.size + 1) s.heap.objs.size 0 .none → h'.IsTupleIter s.heap.objs.size t 0 → h'.objs.size = s.heap.objs.size + 2 →
      (∀ b o, s.heap.get? b = some o → h'.get? b = some o) → Q (.ref (s.heap.objs.size + 1)) { s with heap := h' }) :
    wpAny (model prog w) A (call (.type "enumerate") [.ref t]) Q E s := by
  refine callType_new PySem.F.called_enumerate (by decide) (PySem.F.typeCall_enumerate_1 _) (PySem.F.newCall_enumerate_1 _) (fun obj => PySem.F.args_object_init_2 obj _) PySem.F.entry_enumerate_new
    (meets_enumerate_tup t items) ⟨hT, ?_⟩
  have hz : (s.heap.push { cls := .type "tuple_iterator", data := .fields #[.ref t, .int 0 0] }).objs.size = s.heap.objs.size + 1 := Heap.size_push ..
  show _ ∧ _
  rw [hz]
  have he : IsEnum ((s.heap.push { cls := .type "tuple_iterator", data := .fields #[.ref t, .int 0 0] }).push
      { cls := .type "enumerate", data := .fields #[.none, .bool false, .ref s.heap.objs.size, rawInt 0, .none, .none] }) (s.heap.objs.size + 1) s.heap.objs.size 0 .none := by
    have := Heap.get?_push_size (s.heap.push { cls := .type "tuple_iterator", data := .fields #[.ref t, .int 0 0] })
      (o := { cls := .type "enumerate", data := .fields #[.none, .bool false, .ref s.heap.objs.size, rawInt 0, .none, .none] }) rfl
    rw [hz] at this; exact this
  refine ⟨⟨_, he, rfl⟩, h _ he ⟨_, Heap.get?_push_of_some _ (Heap.get?_push_size _ rfl), rfl, rfl⟩ (by rw [Heap.size_push, hz]) fun b o x => Heap.get?_push_of_some _ (Heap.get?_push_of_some _ x)⟩
/-- the tuple at a, each item in a new pair -/
def IteT (K : PySem.W.Frag) (a : Addr) : It :=
  ⟨fun i H => ∃ (xs : List V) (x : V), SqT K H a xs ∧ xs[i]? = some x, fun i H v H' => ∃ T x, v = .ref T ∧ H T = none ∧ H' = upd H T (.tup [.int (i : Nat), x]) ∧ ∀ xs, SqT K H a xs → xs[i]? = some x, fun i H => ∃ xs : List V, SqT K H a xs ∧ xs.length ≤ i⟩
theorem vals_inj : ∀ {xs ys : List V} {us : List Value}, Vals xs us → Vals ys us → xs = ys
  | _, _, _, .nil, r => by cases r; rfl
  | _, _, _, .cons a b, r => by
    cases r with
    | cons c d => rw [a.inj c, vals_inj b d]
theorem tup_inj {X : Cx} {pins : List (Addr × Obj)} {σ : L2.St} {H : Hp} {s : Shared} (I : Inv X pins σ H s) {a : Addr} {xs ys : List V} (h1 : SqT X.K H a xs) (h2 : SqT X.K H a ys) : xs = ys := by
  obtain ⟨its, r1, p1, _⟩ := I.tuple h1
  obtain ⟨its2, r2, p2, _⟩ := I.tuple h2
  obtain ⟨o1, e1, _, n1, d1⟩ := p1
  obtain ⟨o2, e2, _, n2, d2⟩ := p2
  rw [e1] at e2
  cases e2
  rw [d1] at d2
  injection d2 with d2 _
  have : its = its2 := by simpa using congrArg Array.toList d2
  subst this
  exact vals_inj r1 r2
theorem turn_enumT {P : Program} {w : World} {K : PySem.W.Frag} {elts : List Expr} {kk : Nat} {tpos : Pos} (a e it : Addr) (hea : e ≠ a) (hita : a ≠ it) :
    Turn P w K (.Tuple elts kk tpos) (IteT K a) [e, it] e (fun i h => (∃ old, IsEnum h e it ((i : Nat) : Int) old) ∧ h.IsTupleIter it a i ∧ e ≠ it) where
  mem := by simp
  obj := fun i h st b hb => by
    obtain ⟨⟨old, he⟩, ⟨o, ho, hc, hd⟩, _⟩ := st
    have e' : b = e ∨ b = it := by simpa using hb
    rcases e' with z | z
    · rw [z]; exact ⟨_, he, fun v q => nomatch q⟩
    · rw [z]; exact ⟨o, ho, fun v q => by rw [hd] at q; cases q⟩
  keep := fun i h h' st k => let ⟨⟨old, he⟩, hi, hne⟩ := st; ⟨⟨old, k e (by simp) _ he⟩, hi.at fun o q => k it (by simp) o q, hne⟩
  item := by
    intro X hP hw hK hc i pins s σ H E I hf st hg
    subst hP hw hK
    obtain ⟨⟨old, he⟩, hit, hne⟩ := st
    obtain ⟨xs, x, hq, hx⟩ := hg
    obtain ⟨its, rv, p, hz⟩ := I.tuple hq
    obtain ⟨u, hu, ru⟩ := rv.get hx
    have hel : e < s.heap.objs.size := Heap.lt_size he
    have hil : it < s.heap.objs.size := by obtain ⟨_, q, _⟩ := hit; exact Heap.lt_size q
    have hlt : i < its.toArray.size := by
      have := (List.getElem?_eq_some_iff.mp hu).1
      simpa using this
    refine wpAny_pyNext_enum_itemD (Draws.tuple (A := X.A.in1) (I.ok.hd hc) it a hita its.toArray) he ⟨hit, p⟩ hlt hne (by simp [hne, hea]) fun x' h' tk hPx ho hit' hT hsz hk => ?_
    have ex : x' = u := by
      have : its[i]? = some x' := by simpa using hPx
      rw [hu] at this
      exact (Option.some.inj this).symm
    subst ex
    refine ⟨_, rfl, wpAny_letOwnedTupleGo_enum (s := { s with heap := h', toks := tk + 1 }) ho fun h'' he' sb => ?_⟩
    have hT2 : h''.get? s.heap.objs.size = some { cls := .type "tuple", data := .seq #[.int i tk, x'] } := (sb.2 _ (Nat.ne_of_gt hel)).trans hT
    have new : ObjOk X.prog X.w (upd H s.heap.objs.size (.tup [.int (i : Nat), x])) h'' s.heap.objs.size (.tup [.int (i : Nat), x]) :=
      ⟨by show 2 ≤ sizeLine; decide, [.int i tk, x'], .cons ⟨_, rfl⟩ (.cons ru .nil), ⟨_, hT2, rfl, _, rfl⟩⟩
    have I1 : Inv X pins σ (upd H s.heap.objs.size (.tup [.int (i : Nat), x])) { s with heap := h'', toks := tk + 1 } :=
      I.turnedNew (ch := [e, it]) (fun b ob hb q => (sb.2 b (fun z => hb (by simp [z]))).trans (hk b ob (fun z => hb (by simp [z])) (fun z => hb (by simp [z])) q)) hf (Nat.le_refl _) new
    refine ⟨.ref s.heap.objs.size, _, I1, rfl, ⟨_, x, rfl, I.hok.fresh (Nat.le_refl _), rfl, fun ys hy => by rw [tup_inj I hy hq]; exact hx⟩, ⟨⟨x', ?_⟩, hit'.1.at fun o q => (sb.2 it (Ne.symm hne)).trans q, hne⟩, fun b hb => ?_⟩
    · have e1 : ((i + 1 : Nat) : Int) = (i : Int) + 1 := by omega
      rw [e1]; exact he'
    · have hb' : b < s.heap.objs.size := by
        have e' : b = e ∨ b = it := by simpa using hb
        rcases e' with z | z
        · rw [z]; exact hel
        · rw [z]; exact hil
      rw [upd_ne (Nat.ne_of_lt hb')]
      exact (hf b hb).1
  done := by
    intro X hP hw hK hc i pins s σ H E I hf st hg
    subst hP hw hK
    obtain ⟨⟨old, he⟩, hit, hne⟩ := st
    obtain ⟨xs, hq, hx⟩ := hg
    obtain ⟨its, rv, p, hz⟩ := I.tuple hq
    obtain ⟨f0, f1, f2, f3, f4, f5⟩ := hf it (by simp)
    have hl := rv.length
    refine wpAny_pyNext_enum_endT (I.ok.hd hc) he hit p (by simp; omega) fun h' eb => ⟨rfl, I.turned (t' := s.toks) (fun b o hb q => eb b o hb q) f0 f1 f3 f4 f5⟩
  self := fun A i s Q E st h => let ⟨⟨_, he⟩, _⟩ := st; wpAny_pyIter_enum he h
where
  wpAny_pyNext_enum_endT {prog : Program} {w : World} {A : Around} {E : Value → Shared → Prop} {s : Shared} {e it t : Addr} {i : Nat} {c : Int} {items : Array Value} {old : Value} {Q : Option Value → Shared → Prop} (hh : A.handled = none)
    (he : IsEnum s.heap e it c old) (hit : s.heap.IsTupleIter it t i) (ht : s.heap.IsTuple t items) (hx : items[i]? = none)
    (hQ : ∀ h', Heap.ExtBut it s.heap h' → Q none { s with heap := h' }) : wpAny (model prog w) A (pyNext (.ref e)) Q E s := by
    have hT : s.TypeIs (.ref e) "enumerate" := ⟨_, he, rfl⟩
    unfold pyNext
    refine wpAny_bind (wpAny_attempt (wpAny_callSpecial?_slot (name := Str.ofString "__next__") hT PySem.F.slot_enumerate_next
      (wpAny_call_entry PySem.F.slot_enumerate_next hT PySem.F.entry_enumerate_next ?_ (PySem.F.args_enumerate_next_1 _))))
    show wpAny _ _ (field (.ref e) 2 >>= _) _ _ _
    refine wpAny_bind (wpAny_field he rfl (x := .ref it) rfl ?_)
    refine wpAny_bind (wpAny_nextOf_tuple_end (A := A.in1) hh hit ht hx fun h' x he' hx' => ?_)
    obtain ⟨o, ho, hc⟩ := hx'
    refine wpAny_bind (wpAny_isInstance (T := "StopIteration") (b := true) ⟨o, ho, hc⟩ isSubtype_stop ?_)
    exact wpAny_pure (hQ _ he')
def iEnumT (K : PySem.W.Frag) (ta : TA) : TI := fun σ H R => ta σ H fun vs H1 => ∃ a xs, vs = [.ref a] ∧ SqT K H1 a xs ∧ R (IteT K a) H1
theorem pi_enumT {X : Cx} {e : Expr} {ta : TA} {p pos tpos : Pos} {elts : List Expr} {kk : Nat} (hg : Gl X "enumerate") (hm : X.mg "enumerate" = none) (ha : PA X [e] ta) (hs : starEach [e] X.env = [(false, eval e X.env)] := by rfl) :
    PI X (.Tuple elts kk tpos) (.Call (.Name "enumerate" p) [e] [] pos) (iEnumT X.K ta) := by
  refine ⟨fun pins s σ H R I h => ?_⟩
  refine Call_ (ld_blt I hg hm boot_enumerate (PyProof.Rows.callWith_type1 (thn (ha.run pos pins s σ H _ I h) fun us s1 ⟨vs, H1, I1, r1, q1⟩ => ?_) hs rfl))
  obtain ⟨a, xs, ex, hq, q⟩ := q1
  subst ex
  cases r1 with
  | cons r rr =>
    cases rr
    cases r
    obtain ⟨its, rv, p', hz⟩ := I1.tuple hq
    have hal : a < s1.heap.objs.size := p'.lt
    refine call_enumerate_tup (show s1.heap.IsTuple a its.toArray from p') fun h' he hit hsz hk => wpAny_pyIter_enum he ?_
    have I2 : Inv X pins σ H1 { s1 with heap := h' } := I1.kept (t' := s1.toks) hk
    refine ⟨s1.heap.objs.size + 1, [s1.heap.objs.size + 1, s1.heap.objs.size], _, _, H1, rfl, I2, turn_enumT a (s1.heap.objs.size + 1) s1.heap.objs.size (Nat.ne_of_gt (Nat.lt_succ_of_lt hal)) (Nat.ne_of_lt hal), ⟨⟨.none, he⟩, hit, Nat.succ_ne_self _⟩, fun b hb => ?_, q⟩
    have e' : b = s1.heap.objs.size + 1 ∨ b = s1.heap.objs.size := by simpa using hb
    have hle : s1.heap.objs.size ≤ b := by
      rcases e' with z | z
      · rw [z]; exact Nat.le_add_right _ _
      · rw [z]; exact Nat.le_refl _
    exact I1.fpOk hle (I1.hok.fresh hle)
def enumD : Nat → List Dt → List Dt
  | _, [] => []
  | k, x :: r => .tuple [.int k, x] :: enumD (k + 1) r
theorem enumD_len : ∀ (k : Nat) (xs : List Dt), (enumD k xs).length = xs.length
  | _, [] => rfl
  | k, x :: r => congrArg Nat.succ (enumD_len (k + 1) r)
theorem enumD_get : ∀ {k i : Nat} {xs : List Dt} {d : Dt}, xs[i]? = some d → (enumD k xs)[i]? = some (.tuple [.int ((k + i : Nat) : Int), d])
  | _, _, [], _, h => by simp at h
  | k, 0, x :: r, d, h => by simp at h; subst h; rfl
  | k, i + 1, x :: r, d, h => by
    have h' : r[i]? = some d := by simpa using h
    have := enumD_get (k := k + 1) h'
    show (enumD (k + 1) r)[i]? = _
    rw [this]
    have e : k + 1 + i = k + (i + 1) := by omega
    rw [e]
theorem walkd_enumT {K : PySem.W.Frag} {F : FAT} {T : List (Addr × Str)} {W1 : Md} {H1 : Hp} {a : Addr} {xs : List V} {ds : List Dt} (e : SqT K H1 a xs) (r : RpAll K F W1 H1 xs ds) : WalkD K F T (IteT K a) W1 H1 (enumD 0 ds) where
  goes := fun i W H k hi => ⟨xs, xs[i]'(by rw [r.len]; rw [enumD_len] at hi; exact hi), k.tup e, by simp⟩
  stops := fun W H k => ⟨xs, k.tup e, by rw [enumD_len, r.len]; exact Nat.le_refl _⟩
  yields := fun i W σ ρ H x H' k st hi y => by
    obtain ⟨p, u, rfl, hp, rfl, h1⟩ := y
    obtain ⟨d, q1, z1⟩ := r.getV (h1 xs (k.tup e))
    have := enumD_get (k := 0) q1
    rw [Nat.zero_add] at this
    exact ⟨Go.new hp, _, this, .tup (SqT.of upd_same) (.cons (.int _) (.cons (st.rp (Go.new hp) (k.rp st.hF z1)) .nil))⟩
def iEn (t : DTA) : DTI := fun ρ P => t ρ fun ds => match ds with
  | [.tuple xs] => P (enumD 0 xs)
  | _ => False
theorem di_enum {X : Cx} {F : FAT} {T : List (Addr × Str)} {e : Expr} {ta : DTA} {p pos tpos : Pos} {elts : List Expr} {kk : Nat} (hg : Gl X "enumerate") (hm : X.mg "enumerate" = none) (ha : DA X F T [e] ta) (hs : starEach [e] X.env = [(false, eval e X.env)] := by rfl) :
    DI X F T (.Tuple elts kk tpos) (.Call (.Name "enumerate" p) [e] [] pos) (iEn ta) := PI.cons (pi_enumT hg hm ha hs) fun σ H R ⟨W, ρ, P, st, h, k⟩ =>
  ⟨W, ρ, _, st, h, fun vs H1 ds g r q => by
    cases r with
    | nil => exact q.elim
    | cons a r =>
      cases r with
      | cons => cases a <;> exact q.elim
      | nil =>
        cases a with
        | tup e r => exact ⟨_, _, rfl, e, k _ _ _ g (walkd_enumT e r) q⟩
        | _ => exact False.elim q⟩
end DL
/-! A tuple backwards; list(range(..)); index; dicts; draws; module constants. -/
namespace DL
open PySem PySem.Spec PyProof.Rows L2 LamX
/-! ### t[::-1] -/
section
variable {prog : Program} {w : World} {A : Around} {E : Value → Shared → Prop} {s : Shared}
theorem places_rev (n : Nat) : Builtin.Slice.slicePlaces ((n : Int) - 1) (-1) (-1) = n := by
  unfold Builtin.Slice.slicePlaces
  rw [if_neg (by decide)]
  by_cases h : (n : Int) - 1 > -1
  · rw [if_pos h, show (- -1 : Int) = 1 by decide, Int.ediv_one]
    omega
  · rw [if_neg h]
    omega
theorem fm_congr {α β : Type} {f g : α → Option β} : ∀ {l : List α}, (∀ a ∈ l, f a = g a) → l.filterMap f = l.filterMap g
  | [], _ => rfl
  | a :: l, h => by
    rw [List.filterMap_cons, List.filterMap_cons, h a (List.mem_cons_self ..), fm_congr fun b hb => h b (List.mem_cons_of_mem _ hb)]
theorem pick_rev (xs : Array Value) : ((List.range xs.size).filterMap fun (m : Nat) => xs[(((xs.size : Int) - 1) + (m : Int) * (-1)).toNat]?).toArray = xs.toList.reverse.toArray := by
  have e : ((List.range xs.size).filterMap fun (m : Nat) => xs[(((xs.size : Int) - 1) + (m : Int) * (-1)).toNat]?) = ((List.range xs.size).map fun k => xs.size - 1 - k).filterMap (xs[·]?) := by
    rw [List.filterMap_map]
    apply fm_congr
    intro m hm
    have := List.mem_range.mp hm
    show _ = xs[xs.size - 1 - m]?
    have e : (((xs.size : Int) - 1) + (m : Int) * (-1)).toNat = xs.size - 1 - m := by omega
    rw [e]
  rw [e, PySem.W.krv_range, List.filterMap_reverse, PySem.W.krv_all]
theorem sliceApplied_rev {sl : Addr} {u : Tok} {n : Nat} {Q : Int × Int × Nat → Shared → Prop} (hs : s.heap.IsSliceOf sl .none .none (.int (-1) u))
    (h : Q ((n : Int) - 1, -1, n) s) : wpAny (model prog w) A (Builtin.Slice.sliceApplied (.ref sl) (pure (n : Int))) Q E s := by
  obtain ⟨os, hos, hcs, hds⟩ := id hs
  unfold Builtin.Slice.sliceApplied Builtin.Slice.sliceFields
  refine wpAny_bind (wpAny_bind (wpAny_field hos hds (x := .none) rfl (wpAny_bind (wpAny_field hos hds (x := .none) rfl (wpAny_bind (wpAny_field hos hds (x := .int (-1) u) rfl (wpAny_pure ?_)))))))
  refine wpAny_bind (slicePart_int ?_)
  show wpAny _ _ (if ((-1 : Int) == 0) = true then _ else _) _ _ s
  rw [if_neg (by decide)]
  refine wpAny_bind (slicePart_none (wpAny_bind (slicePart_none (wpAny_bind (wpAny_pure ?_)))))
  show wpAny _ _ (pure ((n : Int) - 1, (-1 : Int), Builtin.Slice.slicePlaces ((n : Int) - 1) (-1) (-1))) _ _ s
  rw [places_rev]
  exact wpAny_pure h
theorem getItem_tuple_rev {t sl : Addr} {items : Array Value} {u : Tok} {Q : Value → Shared → Prop} (ht : IsTup s.heap t items) (hs : s.heap.IsSliceOf sl .none .none (.int (-1) u))
    (h : Q (.ref s.heap.objs.size) { s with heap := s.heap.push { cls := .type "tuple", data := .seq items.toList.reverse.toArray } })
    (hsz : items.size ≤ sizeLine) : wpAny (model prog w) A (getItem (.ref t) (.ref sl)) Q E s := by
  have htake : sizeOk (.seq items.toList.reverse.toArray) := by
    show items.toList.reverse.toArray.size ≤ sizeLine
    rw [List.size_toArray, List.length_reverse, Array.length_toList]
    exact hsz
  obtain ⟨os, hos, hcs, hds⟩ := id hs
  have hTs : s.TypeIs (.ref sl) "slice" := ⟨os, hos, hcs⟩
  unfold getItem
  try with_reducible refine wpAny_holding ?_
  first | refine wpAny_bind (wpAny_pure ?_) | skip
  refine wpAny_bind (wpAny_sequenceKey ht.typeIs (by decide) ?_)
  refine wpAny_bind (wpAny_callSpecial?_slot (name := Str.ofString "__getitem__") ht.typeIs PyProof.Rows.slot_tuple_getitem
    (wpAny_call_entry PyProof.Rows.slot_tuple_getitem ht.typeIs entry_tuple_getitem ?_ (args_tuple_getitem _ _)))
  show wpAny _ _ (Builtin.Tuple.tupleItemsOf (.ref t) >>= _) _ _ s
  refine wpAny_bind (tupleItemsOf_ ht ?_)
  refine wpAny_bind (wpAny_typeOf hTs ?_)
  rw [if_pos (by decide)]
  refine wpAny_bind (sliceApplied_rev hs ?_)
  have hno : ¬ ((((items.size : Int) - 1) == 0 && (-1 : Int) == 1 && items.size == items.size) = true) := by simp
  show wpAny _ _ (if ((((items.size : Int) - 1) == 0 && (-1 : Int) == 1 && items.size == items.size) = true) then _ else _) _ _ s
  rw [if_neg hno, pick_rev]
  first
    | exact wpAny_bind (m := Builtin.Tuple.tupleExact _) (wpAny_newObj_type (wpAny_pure ⟨_, rfl, wpAny_pure h⟩) htake)
    | exact wpAny_bind (m := Builtin.Tuple.tupleExact _) (wpAny_newObj_type (wpAny_bind (wpAny_pure (wpAny_pure ⟨_, rfl, wpAny_pure h⟩))) htake)
    | exact wpAny_bind (wpAny_bind (m := Builtin.Tuple.tupleExact _) (wpAny_newObj_type (wpAny_pure (wpAny_pure ⟨_, rfl, wpAny_pure h⟩)) htake))
    | exact wpAny_bind (wpAny_bind (m := Builtin.Tuple.tupleExact _) (wpAny_newObj_type (wpAny_pure ⟨_, rfl, wpAny_pure h⟩) htake))
end
def dRev (t : DTE) : DTE := fun ρ P => t ρ fun d => onT d fun xs => P (.tuple xs.reverse)
theorem RpAll.rev {K : PySem.W.Frag} {F : FAT} {W : Md} {H : Hp} : ∀ {vs : List V} {ds : List Dt}, RpAll K F W H vs ds → RpAll K F W H vs.reverse ds.reverse
  | _, _, .nil => .nil
  | _, _, .cons a b => by
    rw [List.reverse_cons, List.reverse_cons]
    exact (RpAll.rev b).append (.cons a .nil)
theorem vals_rev : ∀ {vs : List V} {us : List Value}, Vals vs us → Vals vs.reverse us.reverse
  | _, _, .nil => .nil
  | _, _, .cons a b => by
    rw [List.reverse_cons, List.reverse_cons]
    exact (vals_rev b).append (.cons a .nil)
section
variable {X : Cx} {F : FAT} {T : List (Addr × Str)} {e : Expr} {t : DTE} {pos p2 p3 p4 : Pos} {j : Nat}
theorem de_rev (he : DE X F T e t) : DE X F T (.Subscript e (.Slice none none (some (.UnaryOp .USub (.Constant (.int 1) j p4) p3)) p2) pos) (dRev t) := by
  refine ⟨fun pins s σ H Q I ⟨W, ρ, P, st, h, k⟩ => ?_⟩
  refine Subscript_ (thn (he.run pins s σ H (fun v H1 => ∃ d, Go T W.s H H1 ∧ Rp X.K F W H1 v d ∧ onT d fun xs => P (.tuple xs.reverse)) I ⟨W, ρ, _, st, h, fun v H1 d g r q => ⟨d, g, r, q⟩⟩) fun v s1 ⟨x, H1, I1, r1, d, g, r, q⟩ => ?_)
  have ho : PO X (some (.UnaryOp .USub (.Constant (.int 1) j p4) p3)) (liftO X.K F T (dPart (dUn rNeg (dC (.int 1))))) := do_some (de_un ud_neg de_int)
  refine wpAny_Slice (thn (po_none.run pins s1 σ H1 (fun o H2 => o = none ∧ H2 = H1) I1 ⟨rfl, rfl⟩) fun vl s2 ⟨l, H2, I2, pl, q2⟩ => ?_)
  obtain ⟨rfl, rfl⟩ := q2
  refine thn (po_none.run pins s2 σ H2 (fun o H3 => o = none ∧ H3 = H2) I2 ⟨rfl, rfl⟩) fun vu s3 ⟨u, H3, I3, pu, q3⟩ => ?_
  obtain ⟨rfl, rfl⟩ := q3
  refine thn (ho.run pins s3 σ H3 (fun o H4 => o = some (-1) ∧ Go T W.s H3 H4) I3 ⟨W, ρ, fun o => o = some (-1), st.go g, rfl, fun o H' g' q => ⟨q, g'⟩⟩) fun vk s4 ⟨o, H4, I4, pk, q4⟩ => ?_
  obtain ⟨rfl, g4⟩ := q4
  cases pl
  cases pu
  cases pk with
  | int _ tk =>
  cases r with
  | tup e1 r2 =>
    have e2 := go_rdt g4 e1
    have I5 : Inv X pins σ H4 { s4 with heap := s4.heap.push { cls := .type "slice", data := .fields #[.none, .none, .int (-1) tk] } } := I4.kept (t' := s4.toks) fun b ob q => Heap.get?_push_of_some _ q
    obtain rfl : v = Value.ref _ := r1
    obtain ⟨its, rv, ht, hz⟩ := I5.tuple e2
    show wpAny (model X.prog X.w) X.A (subscriptTail e (.Slice none none (some _) p2) (.ref _) (.ref s4.heap.objs.size)) (EP X pins σ Q) X.xe { s4 with heap := s4.heap.push { cls := .type "slice", data := .fields #[.none, .none, .int (-1) tk] } }
    refine PyProof.Rows.tail_any (ops := [.ref _, .ref s4.heap.objs.size]) ht.typeIs PyProof.Rows.slot_tuple_getitem.lookup ?_ (by with_unfolding_all rfl)
    have hfr : H4 (s4.heap.push { cls := .type "slice", data := .fields #[.none, .none, .int (-1) tk] }).objs.size = none := I5.hok.fresh (Nat.le_refl _)
    refine getItem_tuple_rev ht (Heap.IsSliceOf.new ..) ?_ (by rw [List.size_toArray, ← rv.length]; exact hz)
    refine ⟨.ref _, upd H4 (s4.heap.push { cls := .type "slice", data := .fields #[.none, .none, .int (-1) tk] }).objs.size (.tup _), I5.laid (t' := s4.toks) (o := .tup (_)) (fun b ob q => Heap.get?_push_of_some _ q) (Nat.le_refl _) ?_, rfl, k _ _ _ ((g.trans g4).trans (Go.new hfr)) (.tup (SqT.of upd_same) (((st.go g).go g4).rps (Go.new hfr) ((st.go g).rps g4 r2).rev)) q⟩
    exact ⟨by rw [List.length_reverse]; exact hz, _, vals_rev rv, IsTup.new _ _⟩
  | _ => exact False.elim q
/-! ### list(range(a, b)) -/
def dLrg (a b : DTE) : DTE := fun ρ P => a ρ fun x => b ρ fun y => match x, y with
  | .int i, .int j => 0 ≤ i ∧ j ≤ 16777216 ∧ i ≤ 16777216 ∧ 0 ≤ j ∧ P (.list (rngD i (j - i).toNat))
  | _, _ => False
theorem rp_rgV {K : PySem.W.Frag} {W : Md} {H : Hp} (a : Int) : ∀ (l : List Nat), RpAll K F W H (l.map fun i => V.int (a + (i : Nat))) (l.map fun (i : Nat) => PyData.int (a + (i : Int)))
  | [] => .nil
  | i :: r => .cons (.int _) (rp_rgV a r)
theorem de_listRg {a b : Expr} {ta tb : DTE} {p p2 pos2 : Pos} (hc : X.calm = true) (hg : Gl X "list") (hm : X.mg "list" = none) (hg2 : Gl X "range") (hm2 : X.mg "range" = none) (ha : DE X F T a ta) (hb : DE X F T b tb)
    (na : starEach [a, b] X.env = (false, eval a X.env) :: starEach [b] X.env := by rfl) (nb : starEach [b] X.env = (false, eval b X.env) :: starEach [] X.env := by rfl) (hp : (backTo pos2 (starEach [b] X.env)).any (·.1) = false := by rfl)
    (nc : starEach [.Call (.Name "range" p2) [a, b] [] pos2] X.env = (false, eval (.Call (.Name "range" p2) [a, b] [] pos2) X.env) :: starEach [] X.env := by rfl) :
    DE X F T (.Call (.Name "list" p) [.Call (.Name "range" p2) [a, b] [] pos2] [] pos) (dLrg ta tb) :=
  PE.cons (pe_listRg hc hg hm (prg_2 hg2 hm2 ha hb na nb hp) nc) fun σ H Q ⟨W, ρ, P, st, h, k⟩ =>
  ⟨W, ρ, _, st, h, fun x H1 d1 g1 r1 q1 => ⟨W, ρ, _, st.go g1, q1, fun y H2 d2 g2 r2 q2 => by
    cases r1 <;> cases r2 <;> try (exact False.elim q2)
    rename_i i j
    obtain ⟨b1, b2, b3, b4, hp⟩ := q2
    refine ⟨i, j, rfl, rfl, RgOk.of_le b1 b2 b3 b4, fun q hq => k _ _ _ ((g1.trans g2).trans (Go.new hq)) (.lst (((st.go g1).go g2).free hq) upd_same ?_) hp⟩
    exact rp_rgV i _⟩⟩
/-! ### xs.index(y), flat items -/
def fidx (y : Dt) : List Dt → Option Nat
  | [] => none
  | x :: r => if PyData.eqv x y = true then some 0 else (fidx y r).map Nat.succ
theorem fidx_get {y : Dt} : ∀ {xs : List Dt} {j : Nat}, fidx y xs = some j → (∃ x, xs[j]? = some x ∧ PyData.eqv x y = true) ∧ ∀ m z, m < j → xs[m]? = some z → PyData.eqv z y = false
  | [], _, h => by cases h
  | x :: r, j, h => by
    unfold fidx at h
    split at h
    · rename_i e
      cases h
      exact ⟨⟨x, rfl, e⟩, fun m z hm => absurd hm (Nat.not_lt_zero _)⟩
    · rename_i e
      cases q : fidx y r with
      | none => rw [q] at h; cases h
      | some i =>
        rw [q] at h
        cases h
        obtain ⟨⟨x', h1, h2⟩, h3⟩ := fidx_get q
        refine ⟨⟨x', h1, h2⟩, fun m z hm hz => ?_⟩
        cases m with
        | zero => simp at hz; subst hz; simpa using e
        | succ m => exact h3 m z (Nat.lt_of_succ_lt_succ hm) (by simpa using hz)
def dIdx (to te : DTE) : DTE := fun ρ P => to ρ fun d => onL d fun xs => te ρ fun y => flatD y = true ∧ xs.all flatD = true ∧ ∃ j, fidx y xs = some j ∧ P (.int j)
theorem de_index {o : Expr} {to te : DTE} {apos cpos : Pos} (ho : DE X F T o to) (he : DE X F T e te) (hbase : attributeBase o "index" X.env (eval o X.env) = eval o X.env := by rfl)
    (hfew : ((backTo cpos (starEach [e] X.env)).all (fun x => !x.1) && (backToKw cpos (keywordEach [] X.env)).all (fun x => x.1.isSome) && decide (([e] : List Expr).length + ([] : List Keyword).length + (if ([] : List Keyword).isEmpty then 0 else 1) < 30)) = true := by rfl)
    (hline : (apos.endLine == cpos.line) = true := by rfl) (hs : starEach [e] X.env = (false, eval e X.env) :: starEach [] X.env := by rfl) (hplain : (backTo cpos (starEach [] X.env)).any (·.1) = false := by rfl) :
    DE X F T (.Call (.Attribute o "index" apos) [e] [] cpos) (dIdx to te) :=
  PE.cons (pe_bm PySem.F.plainAttrs_list PySem.F.slot_list_index PySem.F.type_list_index mt_index ho (pa_cons he pa_nil hs) hbase hfew hline hs hplain) fun σ H Q ⟨W, ρ, P, st, h, k⟩ =>
  ⟨W, ρ, _, st, h, fun v H1 d g r q => by
    cases r with
    | @lst a xs ds m e1 r =>
      refine ⟨.inl ⟨rfl, _, SqL.of e1⟩, W, ρ, _, st.go g, q, fun y H2 dy g2 r2 q2 => ?_⟩
      obtain ⟨f1, f2, j, hj, hp⟩ := q2
      have e2 := g2.keep _ _ e1 rfl fun z => m (st.sm _ z)
      have r3 := (st.go g).rps g2 r
      obtain ⟨⟨x, h1, h2⟩, h3⟩ := fidx_get hj
      obtain ⟨vx, v1, v2⟩ := r3.get h1
      have fl : ∀ {i : Nat} {z : Dt}, ds[i]? = some z → flatD z = true := fun hz => List.all_eq_true.mp f2 _ (List.mem_of_getElem? hz)
      refine ⟨a, xs, y, j, vx, rfl, rfl, SqL.of e2, flat_of r2 f1, flats_of r3 f2, v1, ?_, fun m' z' hm hz => ?_, k _ _ _ (g.trans g2) (.int _) hp⟩
      · rw [eq_of v2 r2 (fl h1) f1]; exact h2
      · obtain ⟨dz, z1, z2⟩ := r3.getV hz
        rw [eq_of z2 r2 (fl z1) f1]
        exact h3 m' dz hm z1
    | _ => exact False.elim q⟩
/-! ### dicts -/
def kvGet (l : List (Int × Int × Int)) (i : Int) : Option (Int × Int) := match l.find? (fun p => decide (p.1 = i)) with
  | some p => some p.2
  | none => none
theorem kv_get {K : PySem.W.Frag} {H : Hp} {kvs : List (Key × V)} {l : List (Int × Int × Int)} (h : KvAt K H kvs l) {i : Int} {p : Int × Int} (e : kvGet l i = some p) : ∃ t, valV kvs (Sum.inl i) = some (.ref t) ∧ SqT K H t [.int p.1, .int p.2] := by
  unfold KvAt at h
  induction h with
  | nil => cases e
  | @cons a b as bs h1 t ih =>
    obtain ⟨e1, t', e2, e3⟩ := h1
    by_cases c : b.1 = i
    · have : kvGet (b :: bs) i = some b.2 := by unfold kvGet; simp [List.find?_cons, c]
      rw [this] at e
      cases e
      exact ⟨t', by rw [valV_pos (by rw [e1, c])]; exact congrArg some e2, e3⟩
    · have : kvGet (b :: bs) i = kvGet bs i := by unfold kvGet; simp [List.find?_cons, c]
      rw [this] at e
      obtain ⟨t2, q1, q2⟩ := ih e
      exact ⟨t2, by rw [valV_neg (by rw [e1]; exact fun z => c (Sum.inl.inj z))]; exact q1, q2⟩
def dDget (td ti : DTE) : DTE := fun ρ P => td ρ fun d => ti ρ fun k => ∃ l i p, d = dicD l ∧ k = .int i ∧ kvGet l i = some p ∧ P (.tuple [.int p.1, .int p.2])
theorem entD_inj {l l' : List (Int × Int × Int)} (h : l.map entD = l'.map entD) : l = l' := by
  induction l generalizing l' with
  | nil => cases l' with | nil => rfl | cons a b => cases h
  | cons a l ih =>
    cases l' with
    | nil => cases h
    | cons b l' =>
      rw [List.map_cons, List.map_cons] at h
      injection h with h1 h2
      obtain ⟨a1, a2, a3⟩ := a
      obtain ⟨b1, b2, b3⟩ := b
      unfold entD at h1
      injection h1 with h1
      injection h1 with x1 h1
      injection h1 with x2 h1
      injection h1 with x3 _
      injection x1 with x1
      injection x2 with x2
      injection x3 with x3
      simp only at x1 x2 x3
      subst x1; subst x2; subst x3
      rw [ih h2]
theorem rp_dic {K : PySem.W.Frag} {W : Md} {H : Hp} {v : V} {l : List (Int × Int × Int)} (h : Rp K F W H v (dicD l)) : ∃ a kvs, v = .ref a ∧ ¬ W.m a ∧ H a = some (.dK kvs) ∧ KvAt K H kvs l := by
  generalize e : dicD l = d at h
  cases h with
  | @dic a kvs l' m e1 r =>
    unfold dicD at e
    injection e with e
    injection e with e _
    injection e with _ e
    injection e with e
    rw [entD_inj e]
    exact ⟨a, kvs, rfl, m, e1, r⟩
  | src => unfold dicD srcD at e; injection e with e; cases e
  | scr => unfold dicD scrD at e; injection e with e; injection e with e _; injection e with h1 _; cases h1
  | fn => unfold dicD fnD at e; injection e with e; injection e with e _; injection e with h1 _; cases h1
  | _ => unfold dicD at e; cases e
theorem de_dget {i : Expr} {td ti : DTE} (hu : X.A.units + 64 < cLine) (ho : DE X F T e td) (hi : DE X F T i ti) (hs : NoSl i := by intro _ _; rfl) : DE X F T (.Subscript e i pos) (dDget td ti) :=
  PE.cons (pe_dget (by omega) ho hi hs) fun σ H Q ⟨W, ρ, P, st, h, k⟩ => ⟨W, ρ, _, st, h, fun v H1 d g r q => ⟨W, ρ, _, st.go g, q, fun y H2 dy g2 r2 q2 => by
    obtain ⟨l, i, p, rfl, rfl, hp, hq⟩ := q2
    obtain ⟨a, kvs, rfl, m, e1, kv⟩ := rp_dic ((st.go g).rp g2 r)
    obtain rfl := rp_int r2
    obtain ⟨t, t1, t2⟩ := kv_get kv hp
    refine ⟨a, .ref t, rfl, ?_, k _ _ _ (g.trans g2) (.tup t2 (.cons (.int _) (.cons (.int _) .nil))) hq⟩
    rw [← t1]
    exact DGet.k (k := Sum.inl i) e1⟩⟩
/-- x = {} -/
def dDnew (i : Nat) : DTS := fun D ρ => D.nx (ρ.set i (some (mudD [])))
/-- x[k] = (a, b) -/
def kvPut (l : List (Int × Int × Int)) (i : Int) (p : Int × Int) : List (Int × Int × Int) := if (l.any fun q => decide (q.1 = i)) = true then l.map (fun q => if q.1 = i then (q.1, p) else q) else l ++ [(i, p)]
def dDput (i : Nat) (ti tv : DTE) : DTS := fun D ρ => tv ρ fun d => ∃ l, ρ[i]? = some (some (mudD l)) ∧ ti ρ fun k => ∃ a b n, d = .tuple [.int a, .int b] ∧ k = .int n ∧ l.length < line ∧ D.nx (ρ.set i (some (mudD (kvPut l n (a, b)))))
theorem kv_any {K : PySem.W.Frag} {H : Hp} {kvs : List (Key × V)} {l : List (Int × Int × Int)} (h : KvAt K H kvs l) (i : Int) : (kvs.any fun kv => decide (kv.1 = Sum.inl i)) = l.any fun q => decide (q.1 = i) := by
  unfold KvAt at h
  induction h with
  | nil => rfl
  | @cons a b as bs h1 t ih =>
    rw [List.any_cons, List.any_cons, ih, h1.1]
    congr 1
    by_cases c : b.1 = i
    · rw [decide_eq_true c, c]; simp
    · rw [decide_eq_false c, decide_eq_false (fun z => c (Sum.inl.inj z))]
theorem kv_len {K : PySem.W.Frag} {H : Hp} {kvs : List (Key × V)} {l : List (Int × Int × Int)} (h : KvAt K H kvs l) : kvs.length = l.length := Paired.length h
theorem kv_map {K : PySem.W.Frag} {H : Hp} {kvs : List (Key × V)} {l : List (Int × Int × Int)} (h : KvAt K H kvs l) {n a b : Int} {t : Addr} (e : SqT K H t [.int a, .int b]) : KvAt K H (kvs.map fun kv => if kv.1 = Sum.inl n then (kv.1, V.ref t) else kv) (l.map fun q => if q.1 = n then (q.1, (a, b)) else q) := by
  unfold KvAt at h ⊢
  induction h with
  | nil => exact .nil
  | @cons x y as bs h1 t ih =>
    rw [List.map_cons, List.map_cons]
    refine .cons ?_ ih
    by_cases c : y.1 = n
    · rw [if_pos (by rw [h1.1, c]), if_pos c]
      exact ⟨h1.1, _, rfl, e⟩
    · rw [if_neg (by rw [h1.1]; exact fun z => c (Sum.inl.inj z)), if_neg c]
      exact h1
theorem kv_put {K : PySem.W.Frag} {H : Hp} {kvs : List (Key × V)} {l : List (Int × Int × Int)} (h : KvAt K H kvs l) {n a b : Int} {t : Addr} (e : SqT K H t [.int a, .int b]) : KvAt K H (putK kvs (Sum.inl n) (.ref t)) (kvPut l n (a, b)) := by
  unfold putK kvPut
  rw [kv_any h n]
  by_cases c : (l.any fun q => decide (q.1 = n)) = true
  · rw [if_pos c, if_pos c]
    exact kv_map h e
  · rw [if_neg c, if_neg c]
    have app : ∀ {xs : List (Key × V)} {ys : List (Int × Int × Int)}, KvAt K H xs ys → KvAt K H (xs ++ [(Sum.inl n, .ref t)]) (ys ++ [(n, (a, b))]) := by
      intro xs ys r
      unfold KvAt at r ⊢
      induction r with
      | nil => exact .cons ⟨rfl, t, rfl, e⟩ .nil
      | cons a b ih => exact .cons a ih
    exact app h
theorem ds_dnew {i : Nat} {x : Str} {pos' p2 : Pos} (hN : X.N.Nodup) (hi : X.N[i]? = some x) (hx : Loc X.env.scope x) (hs : swapsWith (.Dict [] [] p2) (some (.Name x pos')) pos.line X.env = pure false := by rfl) (hf : X.fn x = true ∨ X.env.scope.names.lookup x = some .local := by first | exact .inl rfl | exact .inr rfl | assumption) :
    DS X F T (.Assign [.Name x pos'] (.Dict [] [] p2) pos) (dDnew i) := PS.cons (ps_set hN hi hx pe_dnewK hs hf) fun D σ H ⟨Φ, W, ρ, P, iv, hΦ, st, h, kn, kr, kb, kc⟩ =>
  fun p hp => by
    refine kn (W.add p) _ _ _ rfl rfl (iv.grow _ _ _ _ hΦ hp rfl) (st.laid hp ?_) h
    exact ⟨p, [], [], rfl, rfl, Or.inr rfl, fun z => st.free hp (st.om p z), upd_same, .nil⟩
theorem ds_dput {i : Nat} {o ix value : Expr} {ti tv : DTE} {pos' : Pos} (hu : X.A.units + 64 < cLine) (ho : PE X o (tVar i)) (hi : DE X F T ix ti) (hv : DE X F T value tv) (hs : swapsWith value (some (.Subscript o ix pos')) pos.line X.env = pure false := by rfl) :
    DS X F T (.Assign [.Subscript o ix pos'] value pos) (dDput i ti tv) := PS.cons (ps_dput (by omega) ho hi hv hs) fun D σ H ⟨Φ, W, ρ, P, iv, hΦ, st, h, kn, kr, kb, kc⟩ =>
  ⟨W, ρ, _, st, h, fun v H1 d g r q => by
    obtain ⟨l, h0, q⟩ := q
    have st1 := st.go g
    obtain ⟨vo, e1, r0⟩ := st1.env i _ h0
    have r0' : ∃ a kvs l', l.map entD = l'.map entD ∧ vo = .ref a ∧ W.m a ∧ ¬ W.o a ∧ H1 a = some (.dK kvs) ∧ KvAt X.K H1 kvs l' := r0
    obtain ⟨a, kvs, l', el, rfl, m, no, e2, kv⟩ := r0'
    rw [← entD_inj el] at kv
    refine ⟨.ref a, e1, W, ρ, _, st1, q, fun y H2 dy g2 r2 q2 => ?_⟩
    obtain ⟨pa, pb, n, rfl, rfl, hl, hp⟩ := q2
    obtain rfl := rp_int r2
    have e3 := g2.keep a _ e2 rfl fun z => no (st.so a z)
    have kv2 := kv.go g2.fix
    have r' := st1.rp g2 r
    cases r' with
    | @tup t xs ds et er =>
      cases er with
      | cons u1 er =>
        cases er with
        | cons u2 er =>
          cases er
          obtain rfl := rp_int u1
          obtain rfl := rp_int u2
          refine ⟨a, _, rfl, DPut.k (k := Sum.inl n) e3 (by rw [kv_len kv2]; exact Nat.lt_of_lt_of_le hl line_le), ?_⟩
          have st2 := st1.go g2
          refine kn W _ _ _ rfl rfl (iv.cell _ _ _ _ _ (iv.go _ _ _ (iv.go _ _ _ hΦ g) g2) m no e3 rfl rfl) (st2.celled e3 rfl h0 rfl e1 m no rfl ?_) hp
          exact ⟨a, _, _, rfl, rfl, m, no, upd_same, kv_cellch e3 rfl (kv_put kv2 et)⟩⟩
end
end DL
/-! Draws; module constants; a display read at once. -/
namespace DL
open PySem PySem.Spec PyProof.Rows L2 LamX
def rSrc : DR2 := fun x y P => x = srcD ∧ ((y = .int 0 ∧ ∀ k : Int, 0 ≤ k → P (.int k)) ∨ (y = .int 1 ∧ ∀ k : Int, 0 ≤ k → k < 2147483648 → P (.int k)))
theorem rp_src {K : PySem.W.Frag} {F : FAT} {W : Md} {H : Hp} {v : V} (h : Rp K F W H v srcD) : ∃ a, v = .ref a ∧ W.s a ∧ SrcAt H a := by
  generalize e : srcD = d at h
  cases h with
  | src s e1 => exact ⟨_, rfl, s, e1⟩
  | scr => unfold srcD scrD at e; injection e with e; cases e
  | fn => unfold srcD fnD at e; injection e with e; cases e
  | dic => unfold srcD dicD at e; injection e with e; cases e
  | _ => unfold srcD at e; cases e
section
variable {X : Cx} {F : FAT} {T : List (Addr × Str)} {a b : Expr} {ta tb : DTE} {pos : Pos}
theorem xd_src : IxR X (lift2 X.K F T rSrc) := by
  refine IxR.cons ix_list fun x y H Q h => ?_
  obtain ⟨W, dx, dy, P, st, hx, hy, ⟨rfl, hr⟩, k⟩ := h
  obtain ⟨l, rfl, hs, i, j, e, h1, h2, h3⟩ := rp_src hx
  rcases hr with ⟨rfl, hr⟩ | ⟨rfl, hr⟩
  · obtain rfl := rp_int hy
    exact ⟨l, _, 0, .int i, rfl, rfl, SqL.of e, rfl, k _ _ _ (Go.refl T W.s H) (.int i) (hr i h1)⟩
  · obtain rfl := rp_int hy
    exact ⟨l, _, 1, .int j, rfl, rfl, SqL.of e, rfl, k _ _ _ (Go.refl T W.s H) (.int j) (hr j h2 h3)⟩
theorem de_src (ha : DE X F T a ta) (hb : DE X F T b tb) (hs : PlainIx b := by exact fun _ _ => rfl) : DE X F T (.Subscript a b pos) (dOp rSrc ta tb) :=
  PE.cons (pe_ix xd_src ha hb hs) fun _ _ _ h => lift_op h
def dSrcSet (to ti te : DTE) : DTS := fun D ρ => te ρ fun d => to ρ fun x => ti ρ fun y => x = srcD ∧ ∃ k : Int, d = .int k ∧ 0 ≤ k ∧ (y = .int 0 ∨ (y = .int 1 ∧ k < 2147483648)) ∧ D.nx ρ
theorem ds_src {e : Expr} {te : DTE} {pos' : Pos} (ha : DE X F T a ta) (hb : DE X F T b tb) (he : DE X F T e te)
    (hx : ∀ v, assign (.Subscript a b pos') X.env v = (do
      let ov ← holding [v] (eval a X.env)
      let iv ← holding [v, ov] (eval b X.env)
      standAt pos'
      holding [v, ov, iv] (setItem ov iv v)
      release [v, ov, iv] []) := by intro _; rfl)
    (hs : swapsWithSole [.Subscript a b pos'] e pos.line X.env = pure false := by rfl) (hw : swappedStores [.Subscript a b pos'] e X.env = pure none := by rfl)
    (h1 : (assignEach [.Subscript a b pos'] X.env).map (·.2) = [assign (.Subscript a b pos') X.env] := by rfl) : DS X F T (.Assign [.Subscript a b pos'] e pos) (dSrcSet ta tb te) :=
  PS.cons (ps_asg he (pg_sub ha hb set_list hx) hs hw h1) fun D σ H ⟨Φ, W, ρ, P, iv, hΦ, st, h, kn, kr, kb, kc⟩ =>
  ⟨W, ρ, _, st, h, fun v H1 d g r q => ⟨W, ρ, _, st.go g, q, fun o H2 x g2 r2 q2 => ⟨W, ρ, _, (st.go g).go g2, q2, fun ix H3 y g3 r3 q3 => by
    obtain ⟨rfl, k, rfl, k0, hk, hp⟩ := q3
    have st3 := ((st.go g).go g2).go g3
    obtain ⟨l, rfl, hs, i, j, e, h1, h2, h3⟩ := rp_src (((st.go g).go g2).rp g3 r2)
    obtain rfl := rp_int (((st.go g).go g2).rp g3 ((st.go g).rp g2 r))
    have fin : ∀ i' j' : Int, 0 ≤ i' → 0 ≤ j' → j' < 2147483648 → D.nx σ (upd H3 l (.lst [.int i', .int j'])) := fun i' j' b1 b2 b3 => by
      have g4 : Go T W.s H3 (upd H3 l (.lst [.int i', .int j'])) := by
        refine ⟨fun b o q f => ?_, fun b o q f n => ?_, fun b s q => ?_, fun b q => ?_, fun t => tabs_cell t e rfl⟩
        · have nb : b ≠ l := fun z => by rw [z, e] at q; cases q; cases f
          rw [upd_ne nb]; exact q
        · have nb : b ≠ l := fun z => n (by rw [z]; exact hs)
          rw [upd_ne nb]; exact q
        · by_cases z : b = l
          · rw [z]; exact ⟨i', j', upd_same, b1, b2, b3⟩
          · obtain ⟨i2, j2, q1, q2⟩ := q
            exact ⟨i2, j2, by rw [upd_ne z]; exact q1, q2⟩
        · by_cases z : b = l
          · rw [z, upd_same]; exact fun z => nomatch z
          · rw [upd_ne z]; exact q
      exact kn W σ ρ _ rfl rfl (iv.go _ _ _ (iv.go _ _ _ (iv.go _ _ _ (iv.go _ _ _ hΦ g) g2) g3) g4) (st3.go g4) hp
    rcases hk with rfl | ⟨rfl, hk⟩
    · obtain rfl := rp_int r3
      exact ⟨l, _, 0, 0, rfl, rfl, e, rfl, fin k j k0 h2 h3⟩
    · obtain rfl := rp_int r3
      exact ⟨l, _, 1, 1, rfl, rfl, e, rfl, fin i k h1 k0 hk⟩⟩⟩⟩
/-! ### module constants -/
theorem de_gint {x : Str} {i : Int} {t : Tok} (hg : Gl X x) (hm : X.mg x = some (.int i t)) (hd : (x == ("__debug__" : Str)) = false := by decide) : DE X F T (.Name x pos) (dC (.int i)) :=
  de_c (pe_glob hg hm (v := .int i) ⟨t, rfl⟩ hd) fun W H => .int i
theorem de_gdat {x : Str} {l : Addr} {d : Dt} (hg : Gl X x) (hm : X.mg x = some (.ref l)) (h : ∀ W H, Rp X.K F W H (.ref l) d) (hd : (x == ("__debug__" : Str)) = false := by decide) : DE X F T (.Name x pos) (dC d) :=
  de_c (pe_glob hg hm (v := .ref l) rfl hd) h
/-! ### {"a": "b", ..}[x] -/
def lookS (l : List (Str × Str)) (x : Str) : Option Str := match l.find? (fun p => decide (p.1 = x)) with
  | some p => some p.2
  | none => none
def dDis (l : List (Str × Str)) (t : DTE) : DTE := fun ρ P => t ρ fun d => ∃ x y, d = .str x ∧ lookS l x = some y ∧ P (.str y)
theorem de_dis2 {k1 k2 v1 v2 : Str} {j1 j2 j3 j4 : Nat} {p1 p2 p3 p4 p5 : Pos} {i : Expr} {ti : DTE} (hu : X.A.units + 64 < cLine) (hk : k1 ≠ k2) (hi : DE X F T i ti) (hs : NoSl i := by intro _ _; rfl) :
    DE X F T (.Subscript (.Dict [some (.Constant (.str k1) j1 p1), some (.Constant (.str k2) j2 p2)] [.Constant (.str v1) j3 p3, .Constant (.str v2) j4 p4] p5) i pos) (dDis [(k1, v1), (k2, v2)] ti) :=
  PE.cons (pe_dget (by omega) (pe_disp (pps_cons pe_str pe_str (pps_cons pe_str pe_str pps_nil)) rfl rfl (by simp) (by simp)) hi hs) fun σ H Q ⟨W, ρ, P, st, h, k⟩ => by
  intro p hp
  refine ⟨by rw [upd_same], [(Sum.inr k1, .str v1), (Sum.inr k2, .str v2)], rfl, by simp, ?_⟩
  have ek : (Sum.inr k2 : Key) ≠ Sum.inr k1 := fun z => hk (Sum.inr.inj z).symm
  have em : mergeK [] [((Sum.inr k1 : Key), V.str v1), (Sum.inr k2, .str v2)] = [(Sum.inr k1, V.str v1), (Sum.inr k2, .str v2)] := by
    unfold mergeK
    simp [putK, hk]
  rw [upd_upd, em]
  have g : Go T W.s H (upd H p (.dK [((Sum.inr k1 : Key), V.str v1), (Sum.inr k2, .str v2)])) := Go.new hp
  refine ⟨W, ρ, _, st.go g, h, fun y H1 d g1 r q => ?_⟩
  obtain ⟨x, z, rfl, hl, hP⟩ := q
  have ey : y = .str x := by cases r; rfl
  subst ey
  have e1 := g1.keep p _ upd_same rfl fun z => st.free hp (st.sm p z)
  refine ⟨p, .str z, rfl, ?_, k _ _ _ (g.trans g1) (.str z) hP⟩
  have ev : valV [((Sum.inr k1 : Key), V.str v1), (Sum.inr k2, .str v2)] (Sum.inr x) = some (.str z) := by
    unfold lookS at hl
    by_cases c : k1 = x
    · simp [List.find?_cons, c] at hl
      rw [valV_pos (by rw [c]), hl]
    · by_cases c2 : k2 = x
      · simp [List.find?_cons, c, c2] at hl
        rw [valV_neg (fun q => c (Sum.inr.inj q)), valV_pos (by rw [c2]), hl]
      · simp [List.find?_cons, c, c2] at hl
  rw [← ev]
  exact DGet.k (k := Sum.inr x) e1
end
end DL
/-! Defs by their names. -/
namespace DL
open PySem PySem.Spec PyProof.Rows L2 LamX
abbrev FnP (K : PySem.W.Frag) (x : Str) (st : Stmt) (f : Addr) (fd : FuncData) : Prop := FunD K x x (defArgs st) (defBody st) (defScope st) [] [] f fd
/-- the module's def x: n arguments, the promise sp -/
structure GFn (P : Program) (w : World) (K : PySem.W.Frag) (mg : Str → Option Value) (base : Heap) (F : FAT) (T : List (Addr × Str)) (k : Nat) (x : Str) (n : Nat) (sp : DSp) : Prop where
  ex : ∃ (f : Addr) (fd : FuncData) (ps : List Str), FnOk P w K mg base CX0 k f fd ps (spD K F T n sp) ∧ mg x = some (.ref f) ∧ PySem.W.keepIn K (.ref f) = true ∧ Binds K fd ps []
theorem GFn.mono {P : Program} {w : World} {K : PySem.W.Frag} {mg : Str → Option Value} {base : Heap} {F : FAT} {T : List (Addr × Str)} {j k : Nat} {x : Str} {n : Nat} {sp : DSp} (g : GFn P w K mg base F T j x n sp) (h : j ≤ k) : GFn P w K mg base F T k x n sp := by
  obtain ⟨f, fd, ps, a, b⟩ := g.ex
  exact ⟨f, fd, ps, a.mono h, b⟩
theorem GFn.of {P : Program} {w : World} {K : PySem.W.Frag} {mg : Str → Option Value} {base : Heap} {F : FAT} {T : List (Addr × Str)} {k : Nat} {x : Str} {st : Stmt} {f : Addr} {fd : FuncData} {ps : List Str} {n : Nat} {sp : DSp} (Fd : FnP K x st f fd) (hm : mg x = some (.ref f))
    (hb : ∀ (kV doc pm : Value) (an : Option Addr) (cdv ct : Value) (us : List Value), us.length = ps.length → bindArgs (PySem.W.fnOf x x (defArgs st) (defBody st) (defScope st) .none kV doc pm an cdv ct) ⟨us, []⟩ = pure (ps.zip us))
    (o : FnOk P w K mg base CX0 k f fd ps (spD K F T n sp)) : GFn P w K mg base F T k x n sp := ⟨f, fd, ps, o, hm, Fd.kp, Fd.bindsN hb⟩
theorem Room.units {k : Nat} {A : Around} (r : Room k A) : A.units + 64 < cLine := by have := r.un; omega
section
variable {X : Cx} {F : FAT} {T : List (Addr × Str)} {k n : Nat} {x : Str} {sp : DSp} {e : Expr} {es : List Expr} {da : DTA} {p pos : Pos}
theorem de_callG (G : GFn X.prog X.w X.K X.mg X.base F T k x n sp) (hr : Room k X.A) (hg : Gl X x) (ha : DA X F T (e :: es) da) (hdb : (x == ("__debug__" : Str)) = false := by decide)
    (he : starEach (e :: es) X.env = (false, eval e X.env) :: starEach es X.env := by rfl) (hpl : (backTo pos (starEach es X.env)).any (·.1) = false := by rfl) : DE X F T (.Call (.Name x p) (e :: es) [] pos) (dCall n sp da) := by
  obtain ⟨f, fd, ps, o, hm, hk, hb⟩ := G.ex
  exact de_call o hr hg hm hk hb ha hdb he hpl
end
/-! ### lambdas of the text -/
def lamE (s : Stmt) : Expr := match (defBody s).getLast? with
  | some (.Return (some (.Call _ [_, l] _ _)) _) => l
  | _ => .Constant .none 0 ⟨0, 0, 0, 0⟩
def lamArgs (e : Expr) : Arguments := match e with
  | .Lambda a _ _ _ => a
  | _ => defArgs (.Pass ⟨0, 0, 0, 0⟩)
def lamBody (e : Expr) : Expr := match e with
  | .Lambda _ b _ _ => b
  | _ => e
def lamScope (e : Expr) : Scope := match e with
  | .Lambda _ _ s _ => s
  | _ => defScope (.Pass ⟨0, 0, 0, 0⟩)
/-- fn_data, the def's code object told -/
theorem fn_dataC {P : Program} {w : World} {K : PySem.W.Frag} {mg : Str → Option Value} {base : Heap} {F : FAT} {T : List (Addr × Str)} {x qual : Str} {params : Arguments} {body : List Stmt} {scope : Scope} {f : Addr} {fd : FuncData} {N ps : List Str} {k : Nat} {sp : DSp} {db : DTS}
    (Fd : FunD K x qual params body scope [] [] f fd) (S : FnScope N ps scope)
    (hb : ∀ (cdv : Value) (A : Around) (outer : List Env) (s : Shared) (H : Hp) (E : XK), fd.code = cdv → Room k (A.deeper (envOfC qual scope s.heap.objs.size f cdv)) → DSs (cxOf CX0 P w K mg base N qual scope f cdv A outer s H E).nox F T body db)
    (hsp : ∀ (ds : List Dt) (Q : Dt → Prop), ds.length = ps.length → sp ds Q → db { nx := fun _ => Q .none, rt := Q } (startD N.length ds)) : FnOk P w K mg base CX0 (k + 1) f fd ps (spD K F T ps.length sp) := by
  obtain ⟨oc, od, dV, kV, doc, pm, an, cdv, ct, osl, rfl, lk, hcd, _, _⟩ := Fd.ex
  refine fn_of lk hcd S (fun vs H Q E h => h.1) fun A outer s H vs Q E hr ⟨hl, W, ds, Pd, st, r, h, k⟩ => ⟨liftS K F T db, (hb cdv A outer s H E rfl hr).nox, ?_⟩
  refine ⟨Inner T W H, W.enter, _, _, Inner.inva st.sm, ⟨rfl, rfl, Go.refl T W.s H, fun b z => .inl z⟩, st.enter r N, hsp ds Pd (by rw [← r.len]; exact hl) h, ?_, ?_, ?_, ?_⟩
  · intro W' σ' ρ' H' _ _ hi _ q
    exact k .non H' .none hi.2.2.1 .non q
  · intro W' v H' d _ _ hi r q
    exact k v H' d hi.2.2.1 (r.ms (W := W.enter.leave) (W' := W) st.hF rfl rfl) q
  · intro W' σ' ρ' H' _ _ hi _ q
    exact q.elim
  · intro W' σ' ρ' H' _ _ hi _ q
    exact q.elim
end DL
namespace DL
open PySem PySem.Spec PyProof.Rows L2 LamX
def t_is_number : DTS :=
  (dRet (dAndV (dIsi "int" (dVar 0)) (dAndV (dNotV (dIsi "bool" (dVar 0))) (dChain rLe rLe (dVar 1) (dVar 0) (dVar 2)))))
def t_is_tuple : DTS :=
  (dRet (dAndV (dIsi "tuple" (dVar 0)) (dChain rLe rLe (dVar 1) (dCb sLen (dCons (dVar 0) dNil)) (dVar 2))))
def t_is_word : DTS :=
  (dRet (dAndV (dIsi "str" (dVar 0)) (dOp rIn (dVar 0) (dVar 1))))
def t_is_good_rule (sp_is_word : DSp) (sp_is_tuple : DSp) (sp_is_number : DSp) : DTS :=
  (dSeq (dIfS (dOr (dNot (dB (dCall 3 sp_is_tuple (dCons (dVar 0) (dCons (dC (.int 1)) (dCons (dC (.int 2)) dNil)))))) (dNot (dB (dCall 2 sp_is_word (dCons (dOp rIx (dVar 0) (dC (.int 0))) (dCons (dTup (dCons (dC (.str "first")) (dCons (dC (.str "soon")) (dCons (dC (.str "batch")) dNil)))) dNil)))))) (dRet (dC (.bool false))) dNext)
  (dSeq (dIfS (dB (dOp rEq (dOp rIx (dVar 0) (dC (.int 0))) (dC (.str "batch")))) (dRet (dAndV (dOp rEq (dCb sLen (dCons (dVar 0) dNil)) (dC (.int 2))) (dCall 3 sp_is_number (dCons (dOp rIx (dVar 0) (dC (.int 1))) (dCons (dC (.int 1)) (dCons (dC (.int 3)) dNil)))))) dNext)
  (dRet (dOp rEq (dCb sLen (dCons (dVar 0) dNil)) (dC (.int 1))))))
def d_WAYS : Dt := .tuple [.str "up", .str "down"]
def t_is_boat (sp_is_word : DSp) (sp_is_tuple : DSp) (sp_is_number : DSp) : DTS :=
  (dSeq (dIfS (dOr (dNot (dB (dCall 3 sp_is_tuple (dCons (dVar 0) (dCons (dC (.int 3)) (dCons (dC (.int 3)) dNil)))))) (dNot (dB (dCall 2 sp_is_word (dCons (dOp rIx (dVar 0) (dC (.int 0))) (dCons (dC d_WAYS) dNil)))))) (dRet (dC (.bool false))) dNext)
  (dRet (dAndV (dCall 3 sp_is_number (dCons (dOp rIx (dVar 0) (dC (.int 1))) (dCons (dC (.int 0)) (dCons (dC (.int 60)) dNil)))) (dCall 3 sp_is_number (dCons (dOp rIx (dVar 0) (dC (.int 2))) (dCons (dC (.int 1)) (dCons (dC (.int 5)) dNil)))))))
def t_is_good_plan (sp_is_good_rule : DSp) (sp_is_number : DSp) (sp_is_tuple : DSp) (sp_is_boat : DSp) : DTS :=
  (dSeq (dIfS (dOr (dNot (dB (dCall 3 sp_is_tuple (dCons (dVar 0) (dCons (dC (.int 3)) (dCons (dC (.int 3)) dNil)))))) (dOr (dNot (dB (dCall 3 sp_is_number (dCons (dOp rIx (dVar 0) (dC (.int 0))) (dCons (dC (.int 0)) (dCons (dC (.int 3)) dNil)))))) (dNot (dB (dCall 1 sp_is_good_rule (dCons (dOp rIx (dVar 0) (dC (.int 1))) dNil)))))) (dRet (dC (.bool false))) dNext)
  (dRet (dAndV (dCall 3 sp_is_tuple (dCons (dOp rIx (dVar 0) (dC (.int 2))) (dCons (dC (.int 1)) (dCons (dC (.int 5)) dNil)))) (dCb sAll (dCons (dLc (iT (dOp rIx (dVar 0) (dC (.int 2)))) (gN 1) dYes (dCall 1 sp_is_boat (dCons (dVar 1) dNil)) [1]) dNil)))))
def t_need_plan (sp_is_good_plan : DSp) : DTS :=
  (dIfS (dNot (dB (dCall 1 sp_is_good_plan (dCons (dVar 0) dNil)))) dNever dNext)
def t_added : DTS :=
  (dRet (dTup (dCons (dOp rAdd (dOp rIx (dVar 0) (dC (.int 0))) (dOp rIx (dVar 1) (dC (.int 0)))) (dCons (dOp rAdd (dOp rIx (dVar 0) (dC (.int 1))) (dOp rIx (dVar 1) (dC (.int 1)))) dNil))))
def t_less : DTS :=
  (dRet (dTup (dCons (dOp rSub (dOp rIx (dVar 0) (dC (.int 0))) (dOp rIx (dVar 1) (dC (.int 0)))) (dCons (dOp rSub (dOp rIx (dVar 0) (dC (.int 1))) (dOp rIx (dVar 1) (dC (.int 1)))) dNil))))
def t_worth : DTS :=
  (dRet (dOp rAdd (dOp rMul (dOp rIx (dVar 0) (dC (.int 0))) (dVar 1)) (dOp rIx (dVar 0) (dC (.int 1)))))
def t_sign_of (sp_worth : DSp) : DTS :=
  (dSeq (dAsg (dCall 2 sp_worth (dCons (dVar 0) (dCons (dVar 1) dNil))) (gN 2))
  (dRet (dIf (dB (dOp rGt (dVar 2) (dC (.int 0)))) (dC (.int 1)) (dIf (dB (dOp rLt (dVar 2) (dC (.int 0)))) (dUn rNeg (dC (.int 1))) (dC (.int 0))))))
def t_same_to (sp_sign_of : DSp) : DTS :=
  (dSeq (dAsg (dTup (dCons (dCall 2 sp_sign_of (dCons (dVar 0) (dCons (dVar 1) dNil))) (dCons (dVar 0) dNil))) (gTupD 2 (gConsD (gN 2) (gConsD (gTupD 2 (gConsD (gN 3) (gConsD (gN 4) gNilD))) gNilD))))
  (dSeq (dIfS (dOr (dB (dOp rEq (dVar 3) (dC (.int 0)))) (dAnd (dB (dOp rNe (dVar 2) (dC (.int 0)))) (dB (dOp rGt (dOp rMul (dVar 2) (dVar 3)) (dC (.int 0)))))) (dRet (dC .none)) dNext)
  (dSeq (dIfS (dB (dOp rEq (dVar 2) (dC (.int 0)))) (dRet (dVar 1)) dNext)
  (dRet (dOp rFdv (dOp rSub (dCb sAbs (dCons (dVar 4) dNil)) (dC (.int 1))) (dCb sAbs (dCons (dVar 3) dNil)))))))
def t_is_turned : DTS :=
  (dSeq (dIfS (dB (dOp rEq (dVar 1) (dTup dNil))) (dRet (dOp rEq (dOp rIx (dOp rIx (dVar 0) (dVar 2)) (dC (.int 0))) (dC (.str "down")))) dNext)
  (dRet (dOp rEq (dOp rIx (dOp rIx (dVar 0) (dOp rIx (dVar 1) (dUn rNeg (dC (.int 1))))) (dC (.int 0))) (dOp rIx (dOp rIx (dVar 0) (dVar 2)) (dC (.int 0))))))
def t_step_of (sp_is_turned : DSp) : DTS :=
  (dRet (dOp rAdd (dOp rIx (dOp rIx (dOp rIx (dVar 0) (dC (.int 2))) (dVar 2)) (dC (.int 2))) (dIf (dB (dCall 3 sp_is_turned (dCons (dOp rIx (dVar 0) (dC (.int 2))) (dCons (dVar 1) (dCons (dVar 2) dNil))))) (dOp rIx (dVar 0) (dC (.int 0))) (dC (.int 0)))))
def t_bounds_of (sp_less : DSp) (sp_step_of : DSp) (sp_added : DSp) : DTS :=
  (dSeq (dAsg (dVar 1) (gTupD 3 (gConsD (gN 3) (gConsD (gN 4) (gConsD (gN 5) gNilD)))))
  (dSeq (dAsg (dTup (dCons (dC (.int 0)) (dCons (dOp rIx (dOp rIx (dOp rIx (dVar 0) (dC (.int 2))) (dVar 2)) (dC (.int 1))) dNil))) (gN 6))
  (dSeq (dIfS (dB (dOp rEq (dVar 3) (dTup dNil))) (dRet (dLst (dCons (dVar 6) dNil))) dNext)
  (dSeq (dAsg (dOp rIx (dVar 4) (dUn rNeg (dC (.int 1)))) (gTupD 2 (gConsD (gN 7) (gConsD (gN 8) gNilD))))
  (dSeq (dIfS (dB (dOp rNe (dOp rIx (dOp rIx (dOp rIx (dVar 0) (dC (.int 2))) (dOp rIx (dVar 3) (dUn rNeg (dC (.int 1))))) (dC (.int 0))) (dOp rIx (dOp rIx (dOp rIx (dVar 0) (dC (.int 2))) (dVar 2)) (dC (.int 0))))) (dRet (dLst (dCons (dVar 6) (dCons (dVar 8) dNil)))) dNext)
  (dSeq (dPar 9 10 (dCons (dCall 3 sp_step_of (dCons (dVar 0) (dCons (dVar 3) (dCons (dVar 2) dNil)))) (dCons (dCall 2 sp_less (dCons (dVar 8) (dCons (dVar 7) dNil))) dNil)))
  (dRet (dLst (dCons (dVar 6) (dCons (dCall 2 sp_added (dCons (dVar 7) (dCons (dTup (dCons (dC (.int 0)) (dCons (dOp rIx (dVar 10) (dC (.int 0))) dNil))) dNil))) (dCons (dCall 2 sp_added (dCons (dVar 8) (dCons (dTup (dCons (dUn rNeg (dVar 9)) (dCons (dVar 9) dNil))) dNil))) dNil)))))))))))
def t_top_form (sp_less : DSp) (sp_sign_of : DSp) : DTS :=
  (dSeq (dPar 2 3 (dCons (dOp rIx (dVar 0) (dC (.int 0))) (dCons (dTup dNil) dNil)))
  (dSeq (dFor (iL (dSl (dVar 0) (dPart (dC (.int 1))) dNo)) (gN 4) (dSeq (dAsg (dOp rAdd (dVar 3) (dTup (dCons (dCall 2 sp_less (dCons (dVar 4) (dCons (dVar 2) dNil))) dNil))) (gN 3))
  (dAsg (dIf (dB (dOp rGt (dCall 2 sp_sign_of (dCons (dOp rIx (dVar 3) (dUn rNeg (dC (.int 1)))) (dCons (dVar 1) dNil))) (dC (.int 0)))) (dVar 4) (dVar 2)) (gN 2))))
  (dRet (dTup (dCons (dVar 2) (dCons (dVar 3) dNil))))))
def t_head_of : DTS :=
  (dSeq (dAsg (dCb sSort (dCons (dLc (iL (dVar 2)) (gN 4) (dB (dOp rEq (dOp rIx (dOp rIx (dVar 0) (dVar 4)) (dC (.int 0))) (dVar 1))) (dTup (dCons (dCb sInt (dCons (dOp rIx (dOp rIx (dVar 0) (dVar 4)) (dC (.int 1))) dNil)) (dCons (dCb sInt (dCons (dVar 4) dNil)) dNil))) [4]) dNil)) (gN 3))
  (dRet (dIf (dB (dOp rNe (dVar 3) (dLst dNil))) (dOp rIx (dOp rIx (dVar 3) (dC (.int 0))) (dC (.int 1))) (dC .none))))
def t_row_behind : DTS :=
  (dSeq (dAsg (dC (.int 0)) (gN 2))
  (dSeq (dFor (iT (dRev (dVar 1))) (gN 3) (dSeq (dIfS (dB (dOp rNe (dOp rIx (dOp rIx (dVar 0) (dVar 3)) (dC (.int 0))) (dOp rIx (dOp rIx (dVar 0) (dOp rIx (dVar 1) (dUn rNeg (dC (.int 1))))) (dC (.int 0))))) (dRet (dVar 2)) dNext)
  (dAsg (dOp rAdd (dVar 2) (dC (.int 1))) (gN 2))))
  (dRet (dVar 2))))
def t_earlier_start : DTS :=
  (dRet (dOp rIx (dOp rIx (dCb sSort (dCons (dLc (iL (dVar 1)) (gN 2) dYes (dTup (dCons (dCb sInt (dCons (dOp rIx (dOp rIx (dVar 0) (dVar 2)) (dC (.int 1))) dNil)) (dCons (dCb sInt (dCons (dVar 2) dNil)) dNil))) [2]) dNil)) (dC (.int 0))) (dC (.int 1))))
def t_next_soon (sp_top_form : DSp) (sp_bounds_of : DSp) (sp_less : DSp) (sp_sign_of : DSp) : DTS :=
  (dSeq (dPar 4 5 (dCons (dLst dNil) (dCons (dTup dNil) dNil)))
  (dSeq (dFor (iL (dVar 2)) (gN 6) (dSeq (dAsg (dCall 2 sp_top_form (dCons (dCall 3 sp_bounds_of (dCons (dVar 0) (dCons (dVar 1) (dCons (dVar 6) dNil)))) (dCons (dVar 3) dNil))) (gTupD 2 (gConsD (gN 7) (gConsD (gN 8) gNilD))))
  (dPar 4 5 (dCons (dOp rAdd (dVar 4) (dLst (dCons (dVar 7) dNil))) (dCons (dOp rAdd (dVar 5) (dVar 8)) dNil)))))
  (dSeq (dAsg (dCall 2 sp_less (dCons (dOp rIx (dVar 4) (dC (.int 0))) (dCons (dOp rIx (dVar 4) (dC (.int 1))) dNil))) (gN 9))
  (dSeq (dAsg (dCall 2 sp_sign_of (dCons (dVar 9) (dCons (dVar 3) dNil))) (gN 10))
  (dSeq (dIfS (dB (dOp rNe (dVar 10) (dC (.int 0)))) (dRet (dTup (dCons (dIf (dB (dOp rLt (dVar 10) (dC (.int 0)))) (dOp rIx (dVar 2) (dC (.int 0))) (dOp rIx (dVar 2) (dC (.int 1)))) (dCons (dOp rAdd (dVar 5) (dTup (dCons (dVar 9) dNil))) dNil)))) dNext)
  (dSeq (dAsg (dLc (iL (dVar 2)) (gN 6) (dAnd (dB (dOp rNe (dOp rIx (dVar 1) (dC (.int 0))) (dTup dNil))) (dB (dOp rEq (dOp rIx (dOp rIx (dOp rIx (dVar 0) (dC (.int 2))) (dVar 6)) (dC (.int 0))) (dOp rIx (dOp rIx (dOp rIx (dVar 0) (dC (.int 2))) (dOp rIx (dOp rIx (dVar 1) (dC (.int 0))) (dUn rNeg (dC (.int 1))))) (dC (.int 0)))))) (dVar 6) [6]) (gN 11))
  (dRet (dTup (dCons (dIf (dB (dOp rNe (dVar 11) (dLst dNil))) (dOp rIx (dVar 11) (dC (.int 0))) (dCb sMin2 (dCons (dCb sInt (dCons (dOp rIx (dVar 2) (dC (.int 0))) dNil)) (dCons (dCb sInt (dCons (dOp rIx (dVar 2) (dC (.int 1))) dNil)) dNil)))) (dCons (dOp rAdd (dVar 5) (dTup (dCons (dVar 9) dNil))) dNil))))))))))
def t_next_boat (sp_head_of : DSp) (sp_next_soon : DSp) (sp_earlier_start : DSp) (sp_row_behind : DSp) : DTS :=
  (dSeq (dAsg (dTup (dCons (dOp rIx (dVar 0) (dC (.int 2))) (dCons (dOp rIx (dVar 1) (dC (.int 0))) dNil))) (gTupD 2 (gConsD (gN 3) (gConsD (gN 4) gNilD))))
  (dSeq (dAsg (dLc (iR1 (dCons (dCb sLen (dCons (dVar 3) dNil)) dNil)) (gN 9) (dB (dOp rNin (dVar 9) (dVar 4))) (dVar 9) [9]) (gN 5))
  (dSeq (dAsg (dLc (iT (dTup (dCons (dC (.str "up")) (dCons (dC (.str "down")) dNil)))) (gN 10) dYes (dCall 3 sp_head_of (dCons (dVar 3) (dCons (dVar 10) (dCons (dVar 5) dNil)))) [10]) (gN 6))
  (dSeq (dAsg (dLc (iL (dVar 6)) (gN 9) (dB (dOp rIsn (dVar 9) (dC .none))) (dVar 9) [9]) (gN 6))
  (dSeq (dIfS (dB (dOp rEq (dCb sLen (dCons (dVar 6) dNil)) (dC (.int 1)))) (dRet (dTup (dCons (dOp rIx (dVar 6) (dC (.int 0))) (dCons (dTup dNil) dNil)))) dNext)
  (dSeq (dIfS (dB (dOp rEq (dOp rIx (dOp rIx (dVar 0) (dC (.int 1))) (dC (.int 0))) (dC (.str "soon")))) (dRet (dCall 4 sp_next_soon (dCons (dVar 0) (dCons (dVar 1) (dCons (dVar 6) (dCons (dVar 2) dNil)))))) dNext)
  (dSeq (dIfS (dOr (dB (dOp rEq (dOp rIx (dOp rIx (dVar 0) (dC (.int 1))) (dC (.int 0))) (dC (.str "first")))) (dB (dOp rEq (dVar 4) (dTup dNil)))) (dRet (dTup (dCons (dCall 2 sp_earlier_start (dCons (dVar 3) (dCons (dVar 6) dNil))) (dCons (dTup dNil) dNil)))) dNext)
  (dSeq (dAsg (dOp rIx (dLc (iL (dVar 6)) (gN 9) (dB (dOp rEq (dOp rIx (dOp rIx (dVar 3) (dVar 9)) (dC (.int 0))) (dOp rIx (dOp rIx (dVar 3) (dOp rIx (dVar 4) (dUn rNeg (dC (.int 1))))) (dC (.int 0))))) (dVar 9) [9]) (dC (.int 0))) (gN 7))
  (dSeq (dAsg (dOp rIx (dLc (iL (dVar 6)) (gN 9) (dB (dOp rNe (dVar 9) (dVar 7))) (dVar 9) [9]) (dC (.int 0))) (gN 8))
  (dRet (dTup (dCons (dIf (dB (dOp rLt (dCall 2 sp_row_behind (dCons (dVar 3) (dCons (dVar 4) dNil))) (dOp rIx (dOp rIx (dVar 0) (dC (.int 1))) (dC (.int 1))))) (dVar 7) (dVar 8)) (dCons (dTup dNil) dNil)))))))))))))
def t_run_with (sp_next_boat : DSp) (sp_top_form : DSp) (sp_bounds_of : DSp) (sp_added : DSp) (sp_step_of : DSp) : DTS :=
  (dSeq (dAsg (dTup (dCons (dTup dNil) (dCons (dTup dNil) (dCons (dTup dNil) dNil)))) (gN 2))
  (dSeq (dFor (iR1 (dCons (dCb sLen (dCons (dOp rIx (dVar 0) (dC (.int 2))) dNil)) dNil)) (gN 3) (dSeq (dAsg (dCall 3 sp_next_boat (dCons (dVar 0) (dCons (dVar 2) (dCons (dVar 1) dNil)))) (gTupD 2 (gConsD (gN 4) (gConsD (gN 5) gNilD))))
  (dSeq (dAsg (dCall 2 sp_top_form (dCons (dCall 3 sp_bounds_of (dCons (dVar 0) (dCons (dVar 2) (dCons (dVar 4) dNil)))) (dCons (dVar 1) dNil))) (gTupD 2 (gConsD (gN 6) (gConsD (gN 7) gNilD))))
  (dSeq (dAsg (dCall 2 sp_added (dCons (dVar 6) (dCons (dTup (dCons (dCall 3 sp_step_of (dCons (dVar 0) (dCons (dOp rIx (dVar 2) (dC (.int 0))) (dCons (dVar 4) dNil)))) (dCons (dC (.int 0)) dNil))) dNil))) (gN 8))
  (dAsg (dTup (dCons (dOp rAdd (dOp rIx (dVar 2) (dC (.int 0))) (dTup (dCons (dVar 4) dNil))) (dCons (dOp rAdd (dOp rIx (dVar 2) (dC (.int 1))) (dTup (dCons (dTup (dCons (dVar 6) (dCons (dVar 8) dNil))) dNil))) (dCons (dOp rAdd (dOp rAdd (dOp rIx (dVar 2) (dC (.int 2))) (dVar 5)) (dVar 7)) dNil)))) (gN 2))))))
  (dRet (dVar 2))))
def t_forms_in : DTS :=
  (dRet (dCb sTuple (dCons (dLc (iL (dSortZ (dCons (dOp rIx (dVar 0) (dC (.int 0))) (dCons (dOp rIx (dVar 0) (dC (.int 1))) dNil)))) (gTupD 2 (gConsD (gN 1) (gConsD (gN 2) gNilD))) dYes (dVar 2) [1, 2]) dNil)))
def t_until (sp_same_to : DSp) : DTS :=
  (dSeq (dAsg (dLc (iT (dVar 0)) (gN 3) dYes (dCall 2 sp_same_to (dCons (dVar 3) (dCons (dVar 1) dNil))) [3]) (gN 2))
  (dSeq (dAsg (dLc (iL (dVar 2)) (gN 4) (dB (dOp rIsn (dVar 4) (dC .none))) (dCb sInt (dCons (dVar 4) dNil)) [4]) (gN 2))
  (dRet (dIf (dB (dOp rNe (dVar 2) (dLst dNil))) (dCb sMinI (dCons (dVar 2) dNil)) (dC .none)))))
def t_lesser_end : DTS :=
  (dSeq (dIfS (dB (dOp rIs (dVar 0) (dC .none))) (dRet (dVar 1)) dNext)
  (dRet (dIf (dOr (dB (dOp rIs (dVar 1) (dC .none))) (dB (dOp rLt (dVar 0) (dVar 1)))) (dVar 0) (dVar 1))))
def t_joined : DTS :=
  (dSeq (dAsg (dLst dNil) (gN 1))
  (dSeq (dFor (iL (dVar 0)) (gTupD 3 (gConsD (gN 2) (gConsD (gN 3) (gConsD (gN 4) gNilD)))) (dIfS (dAnd (dB (dOp rNe (dVar 1) (dLst dNil))) (dB (dOp rEq (dOp rIx (dOp rIx (dVar 1) (dUn rNeg (dC (.int 1)))) (dC (.int 2))) (dVar 4)))) (dAsg (dOp rAdd (dSl (dVar 1) dNo (dPart (dUn rNeg (dC (.int 1))))) (dLst (dCons (dTup (dCons (dOp rIx (dOp rIx (dVar 1) (dUn rNeg (dC (.int 1)))) (dC (.int 0))) (dCons (dVar 3) (dCons (dVar 4) dNil)))) dNil))) (gN 1)) (dAsg (dOp rAdd (dVar 1) (dLst (dCons (dTup (dCons (dVar 2) (dCons (dVar 3) (dCons (dVar 4) dNil)))) dNil))) (gN 1))))
  (dRet (dVar 1))))
def t_all_runs (sp_run_with : DSp) (sp_until : DSp) (sp_forms_in : DSp) (sp_joined : DSp) : DTS :=
  (dSeq (dPar 1 2 (dCons (dLst dNil) (dCons (dC (.int (2))) dNil)))
  (dSeq (dWhile (dB (dOp rIsn (dVar 2) (dC .none))) (dSeq (dAsg (dCall 2 sp_run_with (dCons (dVar 0) (dCons (dVar 2) dNil))) (gN 3))
  (dSeq (dAsg (dCall 2 sp_until (dCons (dOp rIx (dVar 3) (dC (.int 2))) (dCons (dVar 2) dNil))) (gN 4))
  (dSeq (dAsg (dOp rAdd (dVar 1) (dLst (dCons (dTup (dCons (dVar 2) (dCons (dVar 4) (dCons (dTup (dCons (dOp rIx (dVar 3) (dC (.int 0))) (dCons (dCall 1 sp_forms_in (dCons (dVar 3) dNil)) dNil))) dNil)))) dNil))) (gN 1))
  (dAsg (dIf (dB (dOp rIs (dVar 4) (dC .none))) (dC .none) (dOp rAdd (dVar 4) (dC (.int 1)))) (gN 2))))))
  (dRet (dCall 1 sp_joined (dCons (dVar 1) dNil)))))
def t_by_runs (sp_joined : DSp) (sp_all_runs : DSp) (sp_told : Int → List Dt → DSp) : DTS :=
  (dRet (dCall 1 sp_joined (dCons (dLc (iL (dCall 1 sp_all_runs (dCons (dVar 0) dNil))) (gTupD 3 (gConsD (gN 2) (gConsD (gN 3) (gConsD (gTupD 2 (gConsD (gN 4) (gConsD (gN 5) gNilD))) gNilD)))) dYes (dTup (dCons (dVar 2) (dCons (dVar 3) (dCons (dTold 1 sp_told (dCons (dVar 4) (dCons (dVar 5) dNil))) dNil)))) [2, 3, 4, 5]) dNil)))
def t_cut (sp_lesser_end : DSp) (sp_until : DSp) (sp_joined : DSp) (sp_told : Int → List Dt → DSp) : DTS :=
  (dSeq (dAsg (dLst dNil) (gN 2))
  (dSeq (dFor (iL (dVar 0)) (gTupD 3 (gConsD (gN 3) (gConsD (gN 4) (gConsD (gN 5) gNilD)))) (dSeq (dAsg (dVar 3) (gN 6))
  (dWhile (dAnd (dB (dOp rIsn (dVar 6) (dC .none))) (dOr (dB (dOp rIs (dVar 4) (dC .none))) (dB (dOp rLe (dVar 6) (dVar 4))))) (dSeq (dAsg (dTold 1 sp_told (dCons (dVar 5) (dCons (dVar 6) dNil))) (gTupD 2 (gConsD (gN 7) (gConsD (gN 8) gNilD))))
  (dSeq (dAsg (dCall 2 sp_lesser_end (dCons (dCall 2 sp_until (dCons (dVar 8) (dCons (dVar 6) dNil))) (dCons (dVar 4) dNil))) (gN 9))
  (dSeq (dAsg (dOp rAdd (dVar 2) (dLst (dCons (dTup (dCons (dVar 6) (dCons (dVar 9) (dCons (dVar 7) dNil)))) dNil))) (gN 2))
  (dAsg (dIf (dB (dOp rIs (dVar 9) (dC .none))) (dC .none) (dOp rAdd (dVar 9) (dC (.int 1)))) (gN 6))))))))
  (dRet (dCall 1 sp_joined (dCons (dVar 2) dNil)))))
def t_both (sp_lesser_end : DSp) : DTS :=
  (dSeq (dAsg (dLst dNil) (gN 2))
  (dSeq (dFor (iL (dVar 0)) (gTupD 3 (gConsD (gN 3) (gConsD (gN 4) (gConsD (gN 5) gNilD)))) (dFor (iL (dVar 1)) (gTupD 3 (gConsD (gN 6) (gConsD (gN 7) (gConsD (gN 8) gNilD)))) (dSeq (dAsg (dIf (dB (dOp rGt (dVar 3) (dVar 6))) (dVar 3) (dVar 6)) (gN 9))
  (dSeq (dAsg (dCall 2 sp_lesser_end (dCons (dVar 4) (dCons (dVar 7) dNil))) (gN 10))
  (dIfS (dOr (dB (dOp rIs (dVar 10) (dC .none))) (dB (dOp rLe (dVar 9) (dVar 10)))) (dAsg (dOp rAdd (dVar 2) (dLst (dCons (dTup (dCons (dVar 9) (dCons (dVar 10) (dCons (dTup (dCons (dVar 5) (dCons (dVar 8) dNil))) dNil)))) dNil))) (gN 2)) dNext)))))
  (dRet (dVar 2))))
def t_need_two (sp_need_plan : DSp) : DTS :=
  (dSeq (dDrop (dCall 1 sp_need_plan (dCons (dVar 0) dNil)))
  (dDrop (dCall 1 sp_need_plan (dCons (dVar 1) dNil))))
def t_all_forms (sp_by_runs : DSp) : DTS :=
  (dRet (dCall 2 sp_by_runs (dCons (dVar 0) (dCons (dC (fnD (0) [])) dNil))))
def t_gaps_of (sp_less : DSp) : DTS :=
  (dSeq (dAsg (dTup dNil) (gN 2))
  (dSeq (dFor (iZT (dCons (dVar 0) (dCons (dVar 1) dNil))) (gTupD 2 (gConsD (gN 3) (gConsD (gN 4) gNilD))) (dAsg (dOp rAdd (dVar 2) (dTup (dCons (dCall 2 sp_less (dCons (dOp rIx (dVar 3) (dC (.int 0))) (dCons (dOp rIx (dVar 4) (dC (.int 0))) dNil))) (dCons (dCall 2 sp_less (dCons (dOp rIx (dVar 3) (dC (.int 1))) (dCons (dOp rIx (dVar 4) (dC (.int 1))) dNil))) dNil)))) (gN 2)))
  (dRet (dVar 2))))
def t_is_same (sp_gaps_of : DSp) (sp_sign_of : DSp) : DTS :=
  (dSeq (dAsg (dCall 2 sp_gaps_of (dCons (dOp rIx (dVar 0) (dC (.int 0))) (dCons (dOp rIx (dVar 0) (dC (.int 1))) dNil))) (gN 2))
  (dRet (dTup (dCons (dCb sAll (dCons (dLc (iT (dVar 2)) (gN 3) dYes (dOp rEq (dCall 2 sp_sign_of (dCons (dVar 3) (dCons (dVar 1) dNil))) (dC (.int 0))) [3]) dNil)) (dCons (dVar 2) dNil)))))
def t_first_false : DTS :=
  (dSeq (dAsg (dLc (iL (dVar 0)) (gTupD 3 (gConsD (gN 2) (gConsD (gN 3) (gConsD (gN 4) gNilD)))) (dNot (dB (dVar 4))) (dVar 2) [2, 3, 4]) (gN 1))
  (dRet (dIf (dB (dOp rNe (dVar 1) (dLst dNil))) (dOp rIx (dVar 1) (dC (.int 0))) (dC .none))))
def t_parting_number (sp_first_false : DSp) (sp_cut : DSp) (sp_both : DSp) (sp_all_forms : DSp) : DTS :=
  (dSeq (dIfS (dB (dOp rNe (dCb sLen (dCons (dOp rIx (dVar 0) (dC (.int 2))) dNil)) (dCb sLen (dCons (dOp rIx (dVar 1) (dC (.int 2))) dNil)))) (dRet (dC (.int (2)))) dNext)
  (dRet (dCall 1 sp_first_false (dCons (dCall 2 sp_cut (dCons (dCall 2 sp_both (dCons (dCall 1 sp_all_forms (dCons (dVar 0) dNil)) (dCons (dCall 1 sp_all_forms (dCons (dVar 1) dNil)) dNil))) (dCons (dC (fnD (100) [])) dNil))) dNil))))
def t_alike (sp_need_two : DSp) (sp_parting_number : DSp) : DTS :=
  (dSeq (dDrop (dCall 2 sp_need_two (dCons (dVar 0) (dCons (dVar 1) dNil))))
  (dRet (dOp rIs (dCall 2 sp_parting_number (dCons (dVar 0) (dCons (dVar 1) dNil))) (dC .none))))
def t_parting (sp_need_two : DSp) (sp_parting_number : DSp) : DTS :=
  (dSeq (dDrop (dCall 2 sp_need_two (dCons (dVar 0) (dCons (dVar 1) dNil))))
  (dRet (dCall 2 sp_parting_number (dCons (dVar 0) (dCons (dVar 1) dNil)))))
def t__law_source : DTS :=
  (dSeq (dAsg (dC (.int 0)) (gN 2))
  (dSeq (dIfS (dB (dOp rLt (dVar 1) (dCb sLen (dCons (dVar 0) dNil)))) (dAsg (dCb sAbs (dCons (dCb sInt (dCons (dOp rIx (dVar 0) (dVar 1)) dNil)) dNil)) (gN 2)) dNext)
  (dSeq (dIfS (dB (dOp rLt (dVar 2) (dOp rPow (dC (.int 10)) (dC (.int 18))))) (dRet (dLst (dCons (dC (.int 0)) (dCons (dOp rAdd (dC (.int 1)) (dOp rMod (dCb sInt (dCons (dOp rAdd (dOp rMul (dVar 2) (dC (.int 7919))) (dOp rMul (dC (.int 104729)) (dVar 1))) dNil)) (dC (.int 2147483646)))) dNil)))) dNext)
  (dRet (dLst (dCons (dVar 2) (dCons (dOp rAdd (dC (.int 1)) (dOp rMod (dCb sInt (dCons (dOp rAdd (dVar 2) (dVar 1)) dNil)) (dC (.int 2147483646)))) dNil)))))))
def t__law_draw : DTS :=
  (dSeq (dIfS (dB (dOp rGt (dOp rSrc (dVar 0) (dC (.int 0))) (dC (.int 0)))) (dSeq (dAsg (dOp rMod (dCb sInt (dCons (dOp rSrc (dVar 0) (dC (.int 0))) dNil)) (dVar 1)) (gN 2))
  (dSeq (dSrcSet (dVar 0) (dC (.int 0)) (dOp rFdv (dOp rSrc (dVar 0) (dC (.int 0))) (dVar 1)))
  (dRet (dVar 2)))) dNext)
  (dSeq (dSrcSet (dVar 0) (dC (.int 1)) (dOp rMod (dCb sInt (dCons (dOp rMul (dOp rSrc (dVar 0) (dC (.int 1))) (dC (.int 48271))) dNil)) (dC (.int 2147483647))))
  (dRet (dOp rMod (dCb sInt (dCons (dOp rFdv (dOp rMod (dCb sInt (dCons (dOp rMul (dOp rSrc (dVar 0) (dC (.int 1))) (dOp rSrc (dVar 0) (dC (.int 1)))) dNil)) (dC (.int 2147483629))) (dC (.int 64))) dNil)) (dVar 1)))))
def t__law_of (sp__law_draw : DSp) : DTS :=
  (dRet (dOp rIx (dVar 1) (dCall 2 sp__law_draw (dCons (dVar 0) (dCons (dCb sLen (dCons (dVar 1) dNil)) dNil)))))
def t__law_rule (sp__law_of : DSp) : DTS :=
  (dRet (dCall 2 sp__law_of (dCons (dVar 0) (dCons (dLst (dCons (dTup (dCons (dC (.str "first")) dNil)) (dCons (dTup (dCons (dC (.str "soon")) dNil)) (dCons (dTup (dCons (dC (.str "soon")) dNil)) (dCons (dTup (dCons (dC (.str "batch")) (dCons (dC (.int 1)) dNil))) (dCons (dTup (dCons (dC (.str "batch")) (dCons (dC (.int 2)) dNil))) (dCons (dTup (dCons (dC (.str "batch")) (dCons (dC (.int 3)) dNil))) dNil))))))) dNil))))
def t__law_plan (sp__law_draw : DSp) (sp__law_of : DSp) (sp__law_rule : DSp) : DTS :=
  (dSeq (dAsg (dTup dNil) (gN 2))
  (dSeq (dFor (iR1 (dCons (dOp rAdd (dC (.int 1)) (dCall 2 sp__law_draw (dCons (dVar 0) (dCons (dVar 1) dNil)))) dNil)) (gN 3) (dSeq (dAsg (dCall 2 sp__law_of (dCons (dVar 0) (dCons (dLst (dCons (dC (.int 0)) (dCons (dCall 2 sp__law_draw (dCons (dVar 0) (dCons (dC (.int 8)) dNil))) (dCons (dCall 2 sp__law_draw (dCons (dVar 0) (dCons (dC (.int 61)) dNil))) dNil)))) dNil))) (gN 4))
  (dSeq (dAsg (dCall 2 sp__law_of (dCons (dVar 0) (dCons (dLst (dCons (dC (.str "up")) (dCons (dC (.str "down")) dNil))) dNil))) (gN 5))
  (dAsg (dOp rAdd (dVar 2) (dTup (dCons (dTup (dCons (dVar 5) (dCons (dVar 4) (dCons (dOp rAdd (dC (.int 1)) (dCall 2 sp__law_draw (dCons (dVar 0) (dCons (dC (.int 5)) dNil)))) dNil)))) dNil))) (gN 2)))))
  (dRet (dTup (dCons (dCall 2 sp__law_draw (dCons (dVar 0) (dCons (dC (.int 4)) dNil))) (dCons (dCall 1 sp__law_rule (dCons (dVar 0) dNil)) (dCons (dVar 2) dNil)))))))
def t__law_n (sp__law_draw : DSp) (sp__law_of : DSp) : DTS :=
  (dSeq (dPar 1 2 (dCons (dOp rAdd (dC (.int 2)) (dCall 2 sp__law_draw (dCons (dVar 0) (dCons (dC (.int 9)) dNil)))) (dCons (dOp rAdd (dOp rPow (dC (.int 10)) (dC (.int 9))) (dCall 2 sp__law_draw (dCons (dVar 0) (dCons (dOp rPow (dC (.int 10)) (dC (.int 9))) dNil)))) dNil)))
  (dRet (dCall 2 sp__law_of (dCons (dVar 0) (dCons (dLst (dCons (dC (.int 2)) (dCons (dVar 1) (dCons (dOp rAdd (dVar 1) (dCall 2 sp__law_draw (dCons (dVar 0) (dCons (dC (.int 60)) dNil)))) (dCons (dVar 2) (dCons (dOp rPow (dC (.int 10)) (dC (.int 30))) dNil)))))) dNil)))))
def t__law_step : DTS :=
  (dSeq (dAsg (dOp rIx (dOp rIx (dVar 0) (dC (.int 2))) (dVar 2)) (gTupD 3 (gConsD (gN 3) (gConsD (gN 4) (gConsD (gN 5) gNilD)))))
  (dSeq (dAsg (dOp rEq (dVar 3) (dC (.str "down"))) (gN 6))
  (dSeq (dIfS (dB (dOp rNe (dVar 1) (dLst dNil))) (dAsg (dOp rEq (dOp rIx (dOp rIx (dOp rIx (dVar 0) (dC (.int 2))) (dOp rIx (dOp rIx (dVar 1) (dUn rNeg (dC (.int 1)))) (dC (.int 0)))) (dC (.int 0))) (dVar 3)) (gN 6)) dNext)
  (dRet (dOp rAdd (dVar 5) (dIf (dB (dVar 6)) (dOp rIx (dVar 0) (dC (.int 0))) (dC (.int 0))))))))
def t__law_limits (sp__law_step : DSp) : DTS :=
  (dSeq (dAsg (dOp rIx (dOp rIx (dVar 0) (dC (.int 2))) (dVar 2)) (gTupD 3 (gConsD (gN 3) (gConsD (gN 4) (gConsD (gN 5) gNilD)))))
  (dSeq (dNew 6 (dCons (dTup (dCons (dC (.int 0)) (dCons (dVar 4) dNil))) dNil))
  (dSeq (dIfS (dB (dOp rNe (dVar 1) (dLst dNil))) (dSeq (dAsg (dOp rIx (dVar 1) (dUn rNeg (dC (.int 1)))) (gTupD 3 (gConsD (gN 7) (gConsD (gN 8) (gConsD (gN 9) gNilD)))))
  (dSeq (dIfS (dB (dOp rNe (dOp rIx (dOp rIx (dOp rIx (dVar 0) (dC (.int 2))) (dVar 7)) (dC (.int 0))) (dVar 3))) (dRet (dOp rAdd (dVar 6) (dLst (dCons (dVar 9) dNil)))) dNext)
  (dSeq (dApp 6 (dTup (dCons (dOp rIx (dVar 8) (dC (.int 0))) (dCons (dOp rSub (dOp rAdd (dOp rIx (dVar 8) (dC (.int 1))) (dOp rIx (dVar 9) (dC (.int 0)))) (dOp rIx (dVar 8) (dC (.int 0)))) dNil))))
  (dSeq (dAsg (dCall 3 sp__law_step (dCons (dVar 0) (dCons (dVar 1) (dCons (dVar 2) dNil)))) (gN 10))
  (dApp 6 (dTup (dCons (dOp rSub (dOp rIx (dVar 9) (dC (.int 0))) (dVar 10)) (dCons (dOp rAdd (dOp rIx (dVar 9) (dC (.int 1))) (dVar 10)) dNil)))))))) dNext)
  (dRet (dVar 6)))))
def t__law_top : DTS :=
  (dSeq (dAsg (dLc (iL (dVar 0)) (gTupD 2 (gConsD (gN 3) (gConsD (gN 4) gNilD))) dYes (dOp rAdd (dOp rMul (dVar 3) (dVar 1)) (dVar 4)) [3, 4]) (gN 2))
  (dRet (dOp rIx (dVar 0) (dIdx (dVar 2) (dCb sMaxI (dCons (dVar 2) dNil))))))
def t__law_heads : DTS :=
  (dSeq (dPar 2 3 (dCons (dLc (iL (dVar 1)) (gTupD 3 (gConsD (gN 8) (gConsD (gN 9) (gConsD (gN 10) gNilD)))) dYes (dVar 8) [8, 9, 10]) (dCons (dLst dNil) dNil)))
  (dSeq (dFor (iL (dLst (dCons (dC (.str "up")) (dCons (dC (.str "down")) dNil)))) (gN 4) (dSeq (dNew 5 dNil)
  (dSeq (dFor (iEn (dCons (dOp rIx (dVar 0) (dC (.int 2))) dNil)) (gTupD 2 (gConsD (gN 6) (gConsD (gN 7) gNilD))) (dIfS (dAnd (dB (dOp rNin (dVar 6) (dVar 2))) (dB (dOp rEq (dOp rIx (dVar 7) (dC (.int 0))) (dVar 4)))) (dApp 5 (dTup (dCons (dOp rIx (dVar 7) (dC (.int 1))) (dCons (dVar 6) dNil)))) dNext))
  (dAsg (dOp rAdd (dVar 3) (dIf (dFrzT (dB (dOp rNe (dVar 5) (dLst dNil)))) (dLst (dCons (dFrz (dOp rIx (dCb sMinD (dCons (dVar 5) dNil)) (dC (.int 1)))) dNil)) (dLst dNil))) (gN 3)))))
  (dRet (dVar 3))))
def t__law_next (sp__law_heads : DSp) (sp__law_top : DSp) (sp__law_limits : DSp) : DTS :=
  (dSeq (dAsg (dTup (dCons (dCall 2 sp__law_heads (dCons (dVar 0) (dCons (dVar 1) dNil))) (dCons (dOp rIx (dVar 0) (dC (.int 2))) dNil))) (gTupD 2 (gConsD (gN 3) (gConsD (gN 4) gNilD))))
  (dSeq (dIfS (dB (dOp rEq (dCb sLen (dCons (dVar 3) dNil)) (dC (.int 1)))) (dRet (dOp rIx (dVar 3) (dC (.int 0)))) dNext)
  (dSeq (dAsg (dOp rIx (dCb sMinD (dCons (dLc (iL (dVar 3)) (gN 8) dYes (dTup (dCons (dOp rIx (dOp rIx (dVar 4) (dVar 8)) (dC (.int 1))) (dCons (dVar 8) dNil))) [8]) dNil)) (dC (.int 1))) (gN 5))
  (dSeq (dIfS (dB (dOp rEq (dOp rIx (dVar 0) (dC (.int 1))) (dTup (dCons (dC (.str "first")) dNil)))) (dRet (dVar 5)) dNext)
  (dSeq (dAsg (dIf (dB (dOp rNe (dVar 1) (dLst dNil))) (dOp rIx (dOp rIx (dVar 4) (dOp rIx (dOp rIx (dVar 1) (dUn rNeg (dC (.int 1)))) (dC (.int 0)))) (dC (.int 0))) (dC (.str ""))) (gN 6))
  (dSeq (dIfS (dB (dOp rEq (dOp rIx (dVar 0) (dC (.int 1))) (dTup (dCons (dC (.str "soon")) dNil)))) (dSeq (dNew 7 dNil)
  (dSeq (dFor (iL (dVar 3)) (gN 8) (dSeq (dAsg (dCall 2 sp__law_top (dCons (dCall 3 sp__law_limits (dCons (dVar 0) (dCons (dVar 1) (dCons (dVar 8) dNil)))) (dCons (dVar 2) dNil))) (gTupD 2 (gConsD (gN 9) (gConsD (gN 10) gNilD))))
  (dApp 7 (dTup (dCons (dOp rAdd (dOp rMul (dVar 9) (dVar 2)) (dVar 10)) (dCons (dCb sInt (dCons (dOp rNe (dOp rIx (dOp rIx (dVar 4) (dVar 8)) (dC (.int 0))) (dVar 6)) dNil)) (dCons (dVar 8) dNil)))))))
  (dRet (dOp rIx (dCb sMinD (dCons (dVar 7) dNil)) (dC (.int 2)))))) dNext)
  (dSeq (dAsg (dC (.int 0)) (gN 11))
  (dSeq (dFor (iL (dVar 1)) (gTupD 3 (gConsD (gN 12) (gConsD (gN 13) (gConsD (gN 14) gNilD)))) (dAsg (dIf (dB (dOp rEq (dOp rIx (dOp rIx (dVar 4) (dVar 12)) (dC (.int 0))) (dVar 6))) (dOp rAdd (dVar 11) (dC (.int 1))) (dC (.int 0))) (gN 11)))
  (dSeq (dIfS (dB (dOp rEq (dVar 1) (dLst dNil))) (dRet (dVar 5)) dNext)
  (dSeq (dAsg (dLc (iL (dVar 3)) (gN 8) (dB (dOp rEq (dOp rIx (dOp rIx (dVar 4) (dVar 8)) (dC (.int 0))) (dVar 6))) (dVar 8) [8]) (gN 15))
  (dSeq (dAsg (dLc (iL (dVar 3)) (gN 8) (dB (dOp rNe (dOp rIx (dOp rIx (dVar 4) (dVar 8)) (dC (.int 0))) (dVar 6))) (dVar 8) [8]) (gN 16))
  (dRet (dIf (dB (dOp rLt (dVar 11) (dOp rIx (dOp rIx (dVar 0) (dC (.int 1))) (dC (.int 1))))) (dOp rIx (dVar 15) (dC (.int 0))) (dOp rIx (dVar 16) (dC (.int 0))))))))))))))))
def t__law_done (sp__law_next : DSp) (sp__law_top : DSp) (sp__law_limits : DSp) (sp__law_step : DSp) : DTS :=
  (dSeq (dNew 2 dNil)
  (dSeq (dFor (iR1 (dCons (dCb sLen (dCons (dOp rIx (dVar 0) (dC (.int 2))) dNil)) dNil)) (gN 3) (dSeq (dAsg (dFrz (dCall 3 sp__law_next (dCons (dVar 0) (dCons (dVar 2) (dCons (dVar 1) dNil))))) (gN 4))
  (dSeq (dAsg (dFrz (dCall 2 sp__law_top (dCons (dCall 3 sp__law_limits (dCons (dVar 0) (dCons (dVar 2) (dCons (dVar 4) dNil)))) (dCons (dVar 1) dNil)))) (gN 5))
  (dSeq (dAsg (dFrz (dCall 3 sp__law_step (dCons (dVar 0) (dCons (dVar 2) (dCons (dVar 4) dNil))))) (gN 6))
  (dApp 2 (dTup (dCons (dVar 4) (dCons (dVar 5) (dCons (dTup (dCons (dOp rAdd (dOp rIx (dVar 5) (dC (.int 0))) (dVar 6)) (dCons (dOp rIx (dVar 5) (dC (.int 1))) dNil))) dNil)))))))))
  (dRet (dVar 2))))
def t__law_minutes (sp__law_done : DSp) : DTS :=
  (dSeq (dDnew 2)
  (dSeq (dFor (iL (dCall 2 sp__law_done (dCons (dVar 0) (dCons (dVar 1) dNil)))) (gTupD 3 (gConsD (gN 3) (gConsD (gN 4) (gConsD (gN 5) gNilD)))) (dDput 2 (dVar 3) (dTup (dCons (dOp rAdd (dOp rMul (dOp rIx (dVar 4) (dC (.int 0))) (dVar 1)) (dOp rIx (dVar 4) (dC (.int 1)))) (dCons (dOp rAdd (dOp rMul (dOp rIx (dVar 5) (dC (.int 0))) (dVar 1)) (dOp rIx (dVar 5) (dC (.int 1)))) dNil)))))
  (dRet (dCb sTuple (dCons (dLc (iR1 (dCons (dCb sLen (dCons (dOp rIx (dVar 0) (dC (.int 2))) dNil)) dNil)) (gN 3) dYes (dDget (dVar 2) (dVar 3)) [3]) dNil)))))
def t__law_near (sp__law_draw : DSp) (sp__law_rule : DSp) : DTS :=
  (dSeq (dPar 2 3 (dCons (dCall 2 sp__law_draw (dCons (dVar 0) (dCons (dC (.int 5)) dNil))) (dCons (dOp rIx (dVar 1) (dC (.int 2))) dNil)))
  (dSeq (dAsg (dCall 2 sp__law_draw (dCons (dVar 0) (dCons (dCb sLen (dCons (dVar 3) dNil)) dNil))) (gN 4))
  (dSeq (dAsg (dOp rIx (dVar 3) (dVar 4)) (gTupD 3 (gConsD (gN 5) (gConsD (gN 6) (gConsD (gN 7) gNilD)))))
  (dSeq (dIfS (dB (dOp rEq (dVar 2) (dC (.int 0)))) (dRet (dTup (dCons (dOp rIx (dVar 1) (dC (.int 0))) (dCons (dCall 1 sp__law_rule (dCons (dVar 0) dNil)) (dCons (dVar 3) dNil))))) dNext)
  (dSeq (dIfS (dB (dOp rEq (dVar 2) (dC (.int 1)))) (dRet (dTup (dCons (dCall 2 sp__law_draw (dCons (dVar 0) (dCons (dC (.int 4)) dNil))) (dCons (dOp rIx (dVar 1) (dC (.int 1))) (dCons (dVar 3) dNil))))) dNext)
  (dSeq (dAsg (dTup (dCons (dDis [("up", "down"), ("down", "up")] (dVar 5)) (dCons (dVar 6) (dCons (dVar 7) dNil)))) (gN 8))
  (dSeq (dIfS (dB (dOp rEq (dVar 2) (dC (.int 2)))) (dAsg (dTup (dCons (dVar 5) (dCons (dCall 2 sp__law_draw (dCons (dVar 0) (dCons (dC (.int 61)) dNil))) (dCons (dVar 7) dNil)))) (gN 8)) dNext)
  (dSeq (dIfS (dB (dOp rEq (dVar 2) (dC (.int 3)))) (dAsg (dTup (dCons (dVar 5) (dCons (dVar 6) (dCons (dOp rAdd (dC (.int 1)) (dCall 2 sp__law_draw (dCons (dVar 0) (dCons (dC (.int 5)) dNil)))) dNil)))) (gN 8)) dNext)
  (dRet (dOp rAdd (dSl (dVar 1) dNo (dPart (dC (.int 2)))) (dTup (dCons (dOp rAdd (dOp rAdd (dSl (dVar 3) dNo (dPart (dVar 4))) (dTup (dCons (dVar 8) dNil))) (dSl (dVar 3) (dPart (dOp rAdd (dVar 4) (dC (.int 1)))) dNo)) dNil))))))))))))
def t__law_right (sp_parting : DSp) (sp__law_n : DSp) (sp_alike : DSp) (sp__law_minutes : DSp) : DTS :=
  (dSeq (dAsg (dCall 2 sp_parting (dCons (dVar 1) (dCons (dVar 2) dNil))) (gN 3))
  (dSeq (dAsg (dOp rAdd (dLrg (dC (.int 2)) (dC (.int 60))) (dLst (dCons (dCall 1 sp__law_n (dCons (dVar 0) dNil)) (dCons (dCall 1 sp__law_n (dCons (dVar 0) dNil)) (dCons (dOp rPow (dC (.int 10)) (dC (.int 30))) dNil))))) (gN 4))
  (dSeq (dIfS (dOr (dB (dOp rNe (dCall 2 sp_alike (dCons (dVar 1) (dCons (dVar 2) dNil))) (dOp rIs (dVar 3) (dC .none)))) (dB (dOp rNe (dCall 2 sp_parting (dCons (dVar 2) (dCons (dVar 1) dNil))) (dVar 3)))) (dRet (dC (.bool false))) dNext)
  (dSeq (dIfS (dB (dOp rNe (dCb sLen (dCons (dOp rIx (dVar 1) (dC (.int 2))) dNil)) (dCb sLen (dCons (dOp rIx (dVar 2) (dC (.int 2))) dNil)))) (dRet (dOp rEq (dVar 3) (dC (.int 2)))) dNext)
  (dSeq (dFor (iL (dVar 4)) (gN 5) (dIfS (dOr (dB (dOp rIs (dVar 3) (dC .none))) (dB (dOp rGt (dVar 3) (dVar 5)))) (dIfS (dB (dOp rNe (dCall 2 sp__law_minutes (dCons (dVar 1) (dCons (dVar 5) dNil))) (dCall 2 sp__law_minutes (dCons (dVar 2) (dCons (dVar 5) dNil))))) (dRet (dC (.bool false))) dNext) dNext))
  (dSeq (dIfS (dB (dOp rIs (dVar 3) (dC .none))) (dRet (dC (.bool true))) dNext)
  (dSeq (dIfS (dB (dOp rEq (dCall 2 sp__law_minutes (dCons (dVar 1) (dCons (dVar 3) dNil))) (dCall 2 sp__law_minutes (dCons (dVar 2) (dCons (dVar 3) dNil))))) (dRet (dC (.bool false))) dNext)
  (dRet (dOrV (dOp rEq (dVar 3) (dC (.int 2))) (dOp rEq (dCall 2 sp__law_minutes (dCons (dVar 1) (dCons (dOp rSub (dVar 3) (dC (.int 1))) dNil))) (dCall 2 sp__law_minutes (dCons (dVar 2) (dCons (dOp rSub (dVar 3) (dC (.int 1))) dNil)))))))))))))
end DL
namespace DL
open PySem PySem.Spec PyProof.Rows L2 LamX
/-! Encodings; what the readings come to. -/
abbrev Form := Int × Int
def eF (f : Form) : Dt := .tuple [.int f.1, .int f.2]
def eN (n : Nat) : Dt := .int (n : Int)
def eI (i : Int) : Dt := .int i
def eO (o : Option Int) : Dt := match o with
  | none => .none
  | some i => .int i
/-! ### shape -/
def Gd (n : Nat) (d : Dt) : Prop := d.canLay0 = true ∧ d.depth ≤ n
def GdA (n : Nat) (ds : List Dt) : Prop := PyData.canLayAll0 ds = true ∧ PyData.depthAll ds ≤ n
theorem Gd.mono {n m : Nat} {d : Dt} (g : Gd n d) (h : n ≤ m) : Gd m d := ⟨g.1, Nat.le_trans g.2 h⟩
theorem Gd.sh {n : Nat} {d : Dt} (g : Gd n d) (h : n ≤ 64 := by decide) : SeqAt.shaped d = true := by
  unfold SeqAt.shaped
  rw [g.1, decide_eq_true (Nat.le_trans g.2 h)]
  rfl
theorem GdA.nil {n : Nat} : GdA n [] := ⟨rfl, Nat.zero_le _⟩
theorem GdA.cons {n : Nat} {d : Dt} {ds : List Dt} (a : Gd n d) (b : GdA n ds) : GdA n (d :: ds) := by
  refine ⟨?_, ?_⟩
  · show (d.canLay0 && PyData.canLayAll0 ds) = true
    rw [a.1, b.1]; rfl
  · show max d.depth (PyData.depthAll ds) ≤ n
    exact Nat.max_le.mpr ⟨a.2, b.2⟩
theorem GdA.map {α : Type} {n : Nat} {f : α → Dt} : ∀ {l : List α}, (∀ a ∈ l, Gd n (f a)) → GdA n (l.map f)
  | [], _ => GdA.nil
  | a :: l, h => GdA.cons (h a (List.mem_cons_self ..)) (GdA.map fun b hb => h b (List.mem_cons_of_mem _ hb))
theorem Gd.tup {n : Nat} {ds : List Dt} (g : GdA n ds) : Gd (n + 1) (.tuple ds) := ⟨g.1, Nat.succ_le_succ g.2⟩
theorem Gd.lst {n : Nat} {ds : List Dt} (g : GdA n ds) : Gd (n + 1) (.list ds) := ⟨g.1, Nat.succ_le_succ g.2⟩
theorem Gd.int (i : Int) : Gd 0 (.int i) := ⟨rfl, Nat.le_refl _⟩
theorem Gd.bl (b : Bool) : Gd 0 (.bool b) := ⟨rfl, Nat.le_refl _⟩
theorem Gd.non : Gd 0 .none := ⟨rfl, Nat.le_refl _⟩
theorem Gd.str {x : Str} (h : (PyData.str x).canLay0 = true) : Gd 0 (.str x) := ⟨h, Nat.le_refl _⟩
theorem gd_eF (f : Form) : Gd 1 (eF f) := Gd.tup (GdA.cons (Gd.int _) (GdA.cons (Gd.int _) GdA.nil))
/-! ### slots, lists -/
@[simp] theorem isMut_none : isMut .none = false := rfl
@[simp] theorem isMut_bool (b : Bool) : isMut (.bool b) = false := rfl
@[simp] theorem isMut_int (i : Int) : isMut (.int i) = false := rfl
@[simp] theorem isMut_str (i : Str) : isMut (.str i) = false := rfl
@[simp] theorem isMut_list (i : List Dt) : isMut (.list i) = false := rfl
@[simp] theorem isMut_tuple (i : List Dt) : isMut (.tuple i) = false := rfl
@[simp] theorem isMut_fn (n : Int) (ds : List Dt) : isMut (fnD n ds) = false := rfl
@[simp] theorem thaw_fn (n : Int) (ds : List Dt) : thaw (fnD n ds) = fnD n ds := rfl
@[simp] theorem isMut_src : isMut srcD = false := rfl
@[simp] theorem thaw_none : thaw .none = .none := rfl
@[simp] theorem thaw_bool (b : Bool) : thaw (.bool b) = .bool b := rfl
@[simp] theorem thaw_int (i : Int) : thaw (.int i) = .int i := rfl
@[simp] theorem thaw_str (i : Str) : thaw (.str i) = .str i := rfl
@[simp] theorem thaw_list (i : List Dt) : thaw (.list i) = .list i := rfl
@[simp] theorem thaw_tuple (i : List Dt) : thaw (.tuple i) = .tuple i := rfl
@[simp] theorem thaw_src : thaw srcD = srcD := rfl
@[simp] theorem thaw_mut (ds : List Dt) : thaw (mutD ds) = .list ds := rfl
@[simp] theorem thawR_nil : thawR [] = [] := rfl
@[simp] theorem thawR_cons (o : Option Dt) (ρ : Rho) : thawR (o :: ρ) = o.map thaw :: thawR ρ := rfl
@[simp] theorem startD_1 (n : Nat) (a : Dt) : startD (n + 1) [a] = some a :: List.replicate n none := by simp [startD]
@[simp] theorem startD_2 (n : Nat) (a b : Dt) : startD (n + 2) [a, b] = some a :: some b :: List.replicate n none := by simp [startD]
@[simp] theorem startD_3 (n : Nat) (a b c : Dt) : startD (n + 3) [a, b, c] = some a :: some b :: some c :: List.replicate n none := by simp [startD]
@[simp] theorem startD_4 (n : Nat) (a b c d : Dt) : startD (n + 4) [a, b, c, d] = some a :: some b :: some c :: some d :: List.replicate n none := by simp [startD]
theorem atI_nat {α : Type} (xs : List α) (b : Nat) : atI xs (b : Int) = xs[b]? := by
  unfold atI ixN
  rw [if_pos (Int.natCast_nonneg b)]
  by_cases h : b < xs.length
  · rw [if_pos (by omega)]
    simp
  · rw [if_neg (by omega), List.getElem?_eq_none (by omega)]
    rfl
theorem atI_last {α : Type} (xs : List α) : atI xs (-1) = xs.getLast? := by
  unfold atI ixN
  rw [if_neg (by decide), List.getLast?_eq_getElem?]
  by_cases h : xs.length = 0
  · rw [if_neg (by omega), List.getElem?_eq_none (by omega)]
    rfl
  · rw [if_pos (by omega)]
    have : (-1 + (xs.length : Int)).toNat = xs.length - 1 := by omega
    simp [this]
theorem gT_tup (n : Nat) (t : DTGs) (ds : List Dt) (ρ : Rho) (P : Rho → Prop) : gTupD n t (.tuple ds) ρ P = (ds.length = n ∧ t ds ρ P) := rfl
theorem rIx_tup (xs : List Dt) (i : Int) (P : Dt → Prop) : rIx (.tuple xs) (.int i) P = ∃ d, atI xs i = some d ∧ P d := rfl
theorem rIx_lst (xs : List Dt) (i : Int) (P : Dt → Prop) : rIx (.list xs) (.int i) P = ∃ d, atI xs i = some d ∧ P d := rfl
@[simp] theorem atI_0 {α : Type} (a : α) (l : List α) : atI (a :: l) 0 = some a := atI_nat (a :: l) 0
@[simp] theorem atI_1 {α : Type} (a b : α) (l : List α) : atI (a :: b :: l) 1 = some b := atI_nat (a :: b :: l) 1
@[simp] theorem atI_2 {α : Type} (a b c : α) (l : List α) : atI (a :: b :: c :: l) 2 = some c := atI_nat (a :: b :: c :: l) 2
/-! ### forms -/
def worth (f : Form) (n : Int) : Int := f.1 * n + f.2
def sgn (f : Form) (n : Int) : Int := if worth f n > 0 then 1 else if worth f n < 0 then -1 else 0
def fadd (f g : Form) : Form := (f.1 + g.1, f.2 + g.2)
def fsub (f g : Form) : Form := (f.1 - g.1, f.2 - g.2)
def iabs (i : Int) : Int := if i < 0 then -i else i
def sameTo (f : Form) (n : Int) : Option Int := if f.1 = 0 ∨ (sgn f n ≠ 0 ∧ sgn f n * f.1 > 0) then none else if sgn f n = 0 then some n else some ((iabs f.2 - 1).fdiv (iabs f.1))
/-- small factors -/
def sm (f : Form) : Prop := f.1.natAbs < 1073741824
theorem sm_mul {f : Form} (h : sm f) (n : Int) : CMul f.1 n := by
  unfold sm at h
  left
  constructor <;> omega
@[simp] theorem isMut_eF (f : Form) : isMut (eF f) = false := rfl
@[simp] theorem thaw_eF (f : Form) : thaw (eF f) = eF f := rfl
@[simp] theorem isMut_eN (n : Nat) : isMut (eN n) = false := rfl
@[simp] theorem thaw_eN (n : Nat) : thaw (eN n) = eN n := rfl
@[simp] theorem isNon_eN (n : Nat) : isNon (eN n) = false := rfl
@[simp] theorem sh_eN (n : Nat) : SeqAt.shaped (eN n) = true := (Gd.int _).sh
@[simp] theorem isMut_eO (o : Option Int) : isMut (eO o) = false := by cases o <;> rfl
@[simp] theorem thaw_eO (o : Option Int) : thaw (eO o) = eO o := by cases o <;> rfl
def sp_added : DSp := fun ds P => ∃ f g : Form, ds = [eF f, eF g] ∧ P (eF (fadd f g))
def sp_less : DSp := fun ds P => ∃ f g : Form, ds = [eF f, eF g] ∧ P (eF (fsub f g))
def sp_worth : DSp := fun ds P => ∃ (f : Form) (n : Int), ds = [eF f, .int n] ∧ sm f ∧ P (.int (worth f n))
def sp_sign_of : DSp := fun ds P => ∃ (f : Form) (n : Int), ds = [eF f, .int n] ∧ sm f ∧ P (.int (sgn f n))
def sp_same_to : DSp := fun ds P => ∃ (f : Form) (n : Int), ds = [eF f, .int n] ∧ sm f ∧ P (eO (sameTo f n))
abbrev Hs (m n : Nat) (sp : DSp) (t : DTS) : Prop := ∀ (ds : List Dt) (Q : Dt → Prop), ds.length = n → sp ds Q → t { nx := fun _ => Q .none, rt := Q } (startD m ds)
theorem h_added : Hs 2 2 sp_added t_added := by
  rintro ds Q _ ⟨f, g, rfl, h⟩
  simp [t_added, dRet, dSeq, dAsg, dIfS, dNext, dDrop, dPar, dTup, dLst, dCons, dNil, dOp, dUn, dVar, dC, dB, onB, onI, onL, onT, dAnd, dOr, dNot, dAndV, dOrV, dNotV, dIf, dChain, dCall, dCb, gN, gT_tup, gConsD, gNilD, rIx_tup, rIx_lst, rAdd, rSub, rMul, rFdv, rMod, rPow, rLt, rLe, rGt, rGe, rEq, rNe, rIs, rIsn, rIn, rNin, rNeg, dSl, dPart, dNo, cutD, sLen, sInt, sAbs, sMin2, sMax2, sTuple, dFor, iL, iT, line, PyData.eqv, PyData.eqvAll, eF, fadd] at h ⊢
  exact h
theorem h_less : Hs 2 2 sp_less t_less := by
  rintro ds Q _ ⟨f, g, rfl, h⟩
  simp [t_less, dRet, dSeq, dAsg, dIfS, dNext, dDrop, dPar, dTup, dLst, dCons, dNil, dOp, dUn, dVar, dC, dB, onB, onI, onL, onT, dAnd, dOr, dNot, dAndV, dOrV, dNotV, dIf, dChain, dCall, dCb, gN, gT_tup, gConsD, gNilD, rIx_tup, rIx_lst, rAdd, rSub, rMul, rFdv, rMod, rPow, rLt, rLe, rGt, rGe, rEq, rNe, rIs, rIsn, rIn, rNin, rNeg, dSl, dPart, dNo, cutD, sLen, sInt, sAbs, sMin2, sMax2, sTuple, dFor, iL, iT, line, PyData.eqv, PyData.eqvAll, eF, fsub] at h ⊢
  exact h
theorem h_worth : Hs 2 2 sp_worth t_worth := by
  rintro ds Q _ ⟨f, n, rfl, hs, h⟩
  simp [t_worth, dRet, dSeq, dAsg, dIfS, dNext, dDrop, dPar, dTup, dLst, dCons, dNil, dOp, dUn, dVar, dC, dB, onB, onI, onL, onT, dAnd, dOr, dNot, dAndV, dOrV, dNotV, dIf, dChain, dCall, dCb, gN, gT_tup, gConsD, gNilD, rIx_tup, rIx_lst, rAdd, rSub, rMul, rFdv, rMod, rPow, rLt, rLe, rGt, rGe, rEq, rNe, rIs, rIsn, rIn, rNin, rNeg, dSl, dPart, dNo, cutD, sLen, sInt, sAbs, sMin2, sMax2, sTuple, dFor, iL, iT, line, PyData.eqv, PyData.eqvAll, eF, worth] at h ⊢
  exact ⟨sm_mul hs n, h⟩
theorem h_sign_of : Hs 3 2 sp_sign_of (t_sign_of sp_worth) := by
  rintro ds Q _ ⟨f, n, rfl, hs, h⟩
  simp [t_sign_of, dRet, dSeq, dAsg, dIfS, dNext, dDrop, dPar, dTup, dLst, dCons, dNil, dOp, dUn, dVar, dC, dB, onB, onI, onL, onT, dAnd, dOr, dNot, dAndV, dOrV, dNotV, dIf, dChain, dCall, dCb, gN, gT_tup, gConsD, gNilD, rIx_tup, rIx_lst, rAdd, rSub, rMul, rFdv, rMod, rPow, rLt, rLe, rGt, rGe, rEq, rNe, rIs, rIsn, rIn, rNin, rNeg, dSl, dPart, dNo, cutD, sLen, sInt, sAbs, sMin2, sMax2, sTuple, dFor, iL, iT, line, PyData.eqv, PyData.eqvAll, eF]
  refine ⟨f, n, by simp [eF], hs, ?_⟩
  simp [dRet, dSeq, dAsg, dIfS, dNext, dDrop, dPar, dTup, dLst, dCons, dNil, dOp, dUn, dVar, dC, dB, onB, onI, onL, onT, dAnd, dOr, dNot, dAndV, dOrV, dNotV, dIf, dChain, dCall, dCb, gN, gT_tup, gConsD, gNilD, rIx_tup, rIx_lst, rAdd, rSub, rMul, rFdv, rMod, rPow, rLt, rLe, rGt, rGe, rEq, rNe, rIs, rIsn, rIn, rNin, rNeg, dSl, dPart, dNo, cutD, sLen, sInt, sAbs, sMin2, sMax2, sTuple, dFor, iL, iT, line, PyData.eqv, PyData.eqvAll]
  unfold sgn at h
  by_cases h1 : 0 < worth f n
  · rw [if_pos h1] at h; rw [if_pos h1]; exact h
  · rw [if_neg h1] at h; rw [if_neg h1]
    by_cases h2 : worth f n < 0
    · rw [if_pos h2] at h; rw [if_pos h2]; exact h
    · rw [if_neg h2] at h; rw [if_neg h2]; exact h
@[simp] theorem sh_int (i : Int) : SeqAt.shaped (.int i) = true := (Gd.int i).sh
@[simp] theorem sh_bl (i : Bool) : SeqAt.shaped (.bool i) = true := (Gd.bl i).sh
@[simp] theorem sh_non : SeqAt.shaped .none = true := Gd.non.sh
@[simp] theorem sh_nilT : SeqAt.shaped (.tuple []) = true := (Gd.tup (n := 0) GdA.nil).sh
@[simp] theorem sh_nilL : SeqAt.shaped (.list []) = true := (Gd.lst (n := 0) GdA.nil).sh
theorem h_same_to : Hs 5 2 sp_same_to (t_same_to sp_sign_of) := by
  rintro ds Q _ ⟨f, n, rfl, hs, h⟩
  simp [t_same_to, dRet, dSeq, dAsg, dIfS, dNext, dDrop, dPar, dTup, dLst, dCons, dNil, dOp, dUn, dVar, dC, dB, onB, onI, onL, onT, dAnd, dOr, dNot, dAndV, dOrV, dNotV, dIf, dChain, dCall, dCb, gN, gT_tup, gConsD, gNilD, rIx_tup, rIx_lst, rAdd, rSub, rMul, rFdv, rMod, rPow, rLt, rLe, rGt, rGe, rEq, rNe, rIs, rIsn, rIn, rNin, rNeg, dSl, dPart, dNo, cutD, sLen, sInt, sAbs, sMin2, sMax2, sTuple, dFor, iL, iT, line, PyData.eqv, PyData.eqvAll, eF]
  refine ⟨f, n, by simp [eF], hs, ?_⟩
  simp [dRet, dSeq, dAsg, dIfS, dNext, dDrop, dPar, dTup, dLst, dCons, dNil, dOp, dUn, dVar, dC, dB, onB, onI, onL, onT, dAnd, dOr, dNot, dAndV, dOrV, dNotV, dIf, dChain, dCall, dCb, gN, gT_tup, gConsD, gNilD, rIx_tup, rIx_lst, rAdd, rSub, rMul, rFdv, rMod, rPow, rLt, rLe, rGt, rGe, rEq, rNe, rIs, rIsn, rIn, rNin, rNeg, dSl, dPart, dNo, cutD, sLen, sInt, sAbs, sMin2, sMax2, sTuple, dFor, iL, iT, line, PyData.eqv, PyData.eqvAll]
  unfold sameTo at h
  have s3 : sgn f n = 1 ∨ sgn f n = -1 ∨ sgn f n = 0 := by
    unfold sgn
    split
    · exact .inl rfl
    · split
      · exact .inr (.inl rfl)
      · exact .inr (.inr rfl)
  have cm : CMul (sgn f n) f.1 := by
    left
    rcases s3 with e | e | e <;> rw [e] <;> decide
  by_cases h0 : f.1 = 0
  · rw [if_pos (.inl h0)] at h
    simp [h0]
    exact h
  · simp [h0] at h ⊢
    by_cases h1 : sgn f n = 0
    · simp [h1] at h ⊢
      exact h
    · simp [h1] at h ⊢
      refine ⟨cm, ?_⟩
      by_cases h2 : 0 < sgn f n * f.1
      · rw [if_pos h2] at h; rw [if_pos h2]; exact h
      · rw [if_neg h2] at h; rw [if_neg h2]
        refine ⟨⟨?_, ?_⟩, h⟩
        · show (if f.1 < 0 then -f.1 else f.1) ≠ 0
          split <;> omega
        · show (if f.1 < 0 then -f.1 else f.1).natAbs < 1073741824
          unfold sm at hs
          split <;> omega
end DL
namespace DL
open PySem PySem.Spec PyProof.Rows L2 LamX
/-! Boats, plans, runs: turned, steps, bounds, the top form. -/
inductive Rule where
  | first | soon | batch (m : Int)
  deriving DecidableEq
structure Boat where
  down : Bool
  st : Int
  pc : Int
  deriving DecidableEq
structure Plan where
  gap : Int
  rule : Rule
  boats : List Boat
  deriving DecidableEq
structure Run where
  ord : List Nat
  tim : List (Form × Form)
  ask : List Form
  deriving DecidableEq
def wS (b : Bool) : Str := if b then "down" else "up"
def eB (b : Boat) : Dt := .tuple [.str (wS b.down), .int b.st, .int b.pc]
def eRu : Rule → Dt
  | .first => .tuple [.str "first"]
  | .soon => .tuple [.str "soon"]
  | .batch m => .tuple [.str "batch", .int m]
def eP (p : Plan) : Dt := .tuple [.int p.gap, eRu p.rule, .tuple (p.boats.map eB)]
def eFF (q : Form × Form) : Dt := .tuple [eF q.1, eF q.2]
def eRun (r : Run) : Dt := .tuple [.tuple (r.ord.map eN), .tuple (r.tim.map eFF), .tuple (r.ask.map eF)]
@[simp] theorem isMut_eB (f : Boat) : isMut (eB f) = false := rfl
@[simp] theorem thaw_eB (f : Boat) : thaw (eB f) = eB f := rfl
@[simp] theorem isMut_eP (f : Plan) : isMut (eP f) = false := rfl
@[simp] theorem thaw_eP (f : Plan) : thaw (eP f) = eP f := rfl
@[simp] theorem isMut_eRun (f : Run) : isMut (eRun f) = false := rfl
@[simp] theorem thaw_eRun (f : Run) : thaw (eRun f) = eRun f := rfl
@[simp] theorem isMut_eFF (f : Form × Form) : isMut (eFF f) = false := rfl
@[simp] theorem thaw_eFF (f : Form × Form) : thaw (eFF f) = eFF f := rfl
@[simp] theorem isMut_eRu (f : Rule) : isMut (eRu f) = false := by cases f <;> rfl
@[simp] theorem thaw_eRu (f : Rule) : thaw (eRu f) = eRu f := by cases f <;> rfl
def bt (bs : List Boat) (b : Nat) : Boat := bs.getD b ⟨false, 0, 1⟩
/-! ### lists at places -/
theorem atI_bt {bs : List Boat} {b : Nat} (h : b < bs.length) : atI (bs.map eB) (b : Int) = some (eB (bt bs b)) := by
  rw [atI_nat, List.getElem?_map, List.getElem?_eq_getElem h]
  unfold bt
  simp [List.getD, List.getElem?_eq_getElem h]
@[simp] theorem eqv_str (a b : Str) : PyData.eqv (.str a) (.str b) = (a == b) := rfl
theorem wS_eq (a b : Bool) : ((wS a : Str) == wS b) = (a == b) := by cases a <;> cases b <;> decide +kernel
theorem wS_down (a : Bool) : ((wS a : Str) == ("down" : Str)) = a := by cases a <;> decide +kernel
theorem wS_inj (a b : Bool) : ((wS a : Str) = wS b) = (a = b) := by cases a <;> cases b <;> decide +kernel
theorem st_bs : ((Str.ofString "batch") = Str.ofString "soon") = False := eq_false (by decide +kernel)
theorem st_bf : ((Str.ofString "batch") = Str.ofString "first") = False := eq_false (by decide +kernel)
theorem st_fs : ((Str.ofString "first") = Str.ofString "soon") = False := eq_false (by decide +kernel)
theorem st_fb : ((Str.ofString "first") = Str.ofString "batch") = False := eq_false (by decide +kernel)
theorem st_sb : ((Str.ofString "soon") = Str.ofString "batch") = False := eq_false (by decide +kernel)
theorem st_sf : ((Str.ofString "soon") = Str.ofString "first") = False := eq_false (by decide +kernel)
theorem gd_wS (a : Bool) : Gd 0 (.str (wS a)) := by cases a <;> exact ⟨by decide +kernel, Nat.le_refl _⟩
@[simp] theorem sh_wS (a : Bool) : SeqAt.shaped (.str (wS a)) = true := (gd_wS a).sh
theorem gd_eB (b : Boat) : Gd 1 (eB b) := Gd.tup (GdA.cons (gd_wS _) (GdA.cons (Gd.int _) (GdA.cons (Gd.int _) GdA.nil)))
theorem gd_ord (l : List Nat) : Gd 1 (.tuple (l.map eN)) := Gd.tup (GdA.map fun a _ => Gd.int _)
theorem gd_ordL (l : List Nat) : Gd 1 (.list (l.map eN)) := Gd.lst (GdA.map fun a _ => Gd.int _)
@[simp] theorem sh_ord (l : List Nat) : SeqAt.shaped (.tuple (l.map eN)) = true := (gd_ord l).sh
@[simp] theorem sh_ordL (l : List Nat) : SeqAt.shaped (.list (l.map eN)) = true := (gd_ordL l).sh
theorem eqvAll_nil (l : List Dt) : PyData.eqvAll l [] = l.isEmpty := by cases l <;> rfl
@[simp] theorem sh_str (x : Str) (h : (PyData.str x).canLay0 = true) : SeqAt.shaped (.str x) = true := (Gd.str h).sh
@[simp] theorem lay_down : (PyData.str "down").canLay0 = true := by decide +kernel
@[simp] theorem lay_up : (PyData.str "up").canLay0 = true := by decide +kernel
@[simp] theorem lay_first : (PyData.str "first").canLay0 = true := by decide +kernel
@[simp] theorem lay_soon : (PyData.str "soon").canLay0 = true := by decide +kernel
@[simp] theorem lay_batch : (PyData.str "batch").canLay0 = true := by decide +kernel
theorem rIx_eP0 (p : Plan) (P : Dt → Prop) : rIx (eP p) (.int 0) P = P (.int p.gap) := by simp [rIx, eP]
theorem rIx_eP1 (p : Plan) (P : Dt → Prop) : rIx (eP p) (.int 1) P = P (eRu p.rule) := by simp [rIx, eP]
theorem rIx_eP2 (p : Plan) (P : Dt → Prop) : rIx (eP p) (.int 2) P = P (.tuple (p.boats.map eB)) := by simp [rIx, eP]
theorem rIx_eRun0 (p : Run) (P : Dt → Prop) : rIx (eRun p) (.int 0) P = P (.tuple (p.ord.map eN)) := by simp [rIx, eRun]
theorem rIx_eRun1 (p : Run) (P : Dt → Prop) : rIx (eRun p) (.int 1) P = P (.tuple (p.tim.map eFF)) := by simp [rIx, eRun]
theorem rIx_eRun2 (p : Run) (P : Dt → Prop) : rIx (eRun p) (.int 2) P = P (.tuple (p.ask.map eF)) := by simp [rIx, eRun]
theorem rIx_eB0 (b : Boat) (P : Dt → Prop) : rIx (eB b) (.int 0) P = P (.str (wS b.down)) := by simp [rIx, eB]
theorem rIx_eB1 (b : Boat) (P : Dt → Prop) : rIx (eB b) (.int 1) P = P (.int b.st) := by simp [rIx, eB]
theorem rIx_eB2 (b : Boat) (P : Dt → Prop) : rIx (eB b) (.int 2) P = P (.int b.pc) := by simp [rIx, eB]
theorem rIx_eF0 (f : Form) (P : Dt → Prop) : rIx (eF f) (.int 0) P = P (.int f.1) := by simp [rIx, eF]
theorem rIx_eF1 (f : Form) (P : Dt → Prop) : rIx (eF f) (.int 1) P = P (.int f.2) := by simp [rIx, eF]
theorem rIx_eFF0 (f : Form × Form) (P : Dt → Prop) : rIx (eFF f) (.int 0) P = P (eF f.1) := by simp [rIx, eFF]
theorem rIx_eFF1 (f : Form × Form) (P : Dt → Prop) : rIx (eFF f) (.int 1) P = P (eF f.2) := by simp [rIx, eFF]
theorem rIx_bt {bs : List Boat} {b : Nat} (h : b < bs.length) (P : Dt → Prop) : rIx (.tuple (bs.map eB)) (eN b) P = P (eB (bt bs b)) := by
  have e := atI_bt h
  show (∃ d, atI (bs.map eB) (b : Int) = some d ∧ P d) = _
  rw [e]
  simp
theorem rIx_btL {bs : List Boat} {b : Nat} (h : b < bs.length) (P : Dt → Prop) : rIx (.tuple (bs.map eB)) (.int (b : Int)) P = P (eB (bt bs b)) := rIx_bt h P
theorem rIx_lastN {l : List Nat} {x : Nat} (h : l.getLast? = some x) (P : Dt → Prop) : rIx (.tuple (l.map eN)) (.int (-1)) P = P (eN x) := by
  show (∃ d, atI (l.map eN) (-1) = some d ∧ P d) = _
  rw [atI_last]
  simp [h]
theorem gT_eRun (t : DTGs) (r : Run) (ρ : Rho) (P : Rho → Prop) : gTupD 3 t (eRun r) ρ P = t [.tuple (r.ord.map eN), .tuple (r.tim.map eFF), .tuple (r.ask.map eF)] ρ P := by simp [gTupD, eRun]
theorem gT_eF (t : DTGs) (f : Form) (ρ : Rho) (P : Rho → Prop) : gTupD 2 t (eF f) ρ P = t [.int f.1, .int f.2] ρ P := by simp [gTupD, eF]
theorem gT_eFF (t : DTGs) (f : Form × Form) (ρ : Rho) (P : Rho → Prop) : gTupD 2 t (eFF f) ρ P = t [eF f.1, eF f.2] ρ P := by simp [gTupD, eFF]
/-! ### is_turned, step_of -/
def turned (bs : List Boat) (ord : List Nat) (b : Nat) : Bool := match ord.getLast? with
  | none => (bt bs b).down
  | some l => (bt bs l).down == (bt bs b).down
def stepOf (p : Plan) (ord : List Nat) (b : Nat) : Int := (bt p.boats b).pc + if turned p.boats ord b then p.gap else 0
def OrdOk (bs : List Boat) (ord : List Nat) : Prop := ∀ x ∈ ord, x < bs.length
theorem OrdOk.last {bs : List Boat} {ord : List Nat} (h : OrdOk bs ord) {l : Nat} (e : ord.getLast? = some l) : l < bs.length := h l (List.mem_of_getLast? e)
def sp_is_turned : DSp := fun ds P => ∃ (bs : List Boat) (ord : List Nat) (b : Nat), ds = [.tuple (bs.map eB), .tuple (ord.map eN), eN b] ∧ b < bs.length ∧ OrdOk bs ord ∧ P (.bool (turned bs ord b))
def sp_step_of : DSp := fun ds P => ∃ (p : Plan) (ord : List Nat) (b : Nat), ds = [eP p, .tuple (ord.map eN), eN b] ∧ b < p.boats.length ∧ OrdOk p.boats ord ∧ P (.int (stepOf p ord b))
theorem last_map {α β : Type} (f : α → β) (l : List α) : (l.map f).getLast? = l.getLast?.map f := by simp
theorem h_is_turned : Hs 3 3 sp_is_turned t_is_turned := by
  rintro ds Q _ ⟨bs, ord, b, rfl, hb, ho, h⟩
  unfold turned at h
  have e1 := atI_bt hb
  by_cases hn : ord = []
  · subst hn
    simp [t_is_turned, dRet, dSeq, dAsg, dIfS, dNext, dDrop, dPar, dTup, dLst, dCons, dNil, dOp, dUn, dVar, dC, dB, onB, onI, onL, onT, dAnd, dOr, dNot, dAndV, dOrV, dNotV, dIf, dChain, dCall, dCb, gN, gT_tup, gConsD, gNilD, rIx_tup, rIx_lst, rAdd, rSub, rMul, rFdv, rMod, rPow, rLt, rLe, rGt, rGe, rEq, rNe, rIs, rIsn, rIn, rNin, rNeg, dSl, dPart, dNo, cutD, sLen, sInt, sAbs, sMin2, sMax2, sTuple, dFor, iL, iT, line, PyData.eqv, PyData.eqvAll, eN, e1] at h ⊢
    simp [rIx_tup, rIx_lst, eB, wS_down]
    exact h
  · obtain ⟨l, hl⟩ : ∃ l, ord.getLast? = some l := by
      cases e : ord.getLast? with
      | none => exact absurd (List.getLast?_eq_none_iff.mp e) hn
      | some l => exact ⟨l, rfl⟩
    have e2 := atI_bt (ho.last hl)
    rw [hl] at h
    simp [t_is_turned, dRet, dSeq, dAsg, dIfS, dNext, dDrop, dPar, dTup, dLst, dCons, dNil, dOp, dUn, dVar, dC, dB, onB, onI, onL, onT, dAnd, dOr, dNot, dAndV, dOrV, dNotV, dIf, dChain, dCall, dCb, gN, gT_tup, gConsD, gNilD, rIx_tup, rIx_lst, rAdd, rSub, rMul, rFdv, rMod, rPow, rLt, rLe, rGt, rGe, rEq, rNe, rIs, rIsn, rIn, rNin, rNeg, dSl, dPart, dNo, cutD, sLen, sInt, sAbs, sMin2, sMax2, sTuple, dFor, iL, iT, line, PyData.eqv, PyData.eqvAll, eqvAll_nil, hn, atI_last, last_map, hl, eN, e1, e2]
    simp [rIx_tup, rIx_lst, eB, wS_eq]
    exact h
theorem h_step_of : Hs 3 3 sp_step_of (t_step_of sp_is_turned) := by
  rintro ds Q _ ⟨p, ord, b, rfl, hb, ho, h⟩
  have e1 := atI_bt hb
  simp [t_step_of, dRet, dSeq, dAsg, dIfS, dNext, dDrop, dPar, dTup, dLst, dCons, dNil, dOp, dUn, dVar, dC, dB, onB, onI, onL, onT, dAnd, dOr, dNot, dAndV, dOrV, dNotV, dIf, dChain, dCall, dCb, gN, gT_tup, gConsD, gNilD, rIx_tup, rIx_lst, rAdd, rSub, rMul, rFdv, rMod, rPow, rLt, rLe, rGt, rGe, rEq, rNe, rIs, rIsn, rIn, rNin, rNeg, dSl, dPart, dNo, cutD, sLen, sInt, sAbs, sMin2, sMax2, sTuple, dFor, iL, iT, line, PyData.eqv, PyData.eqvAll, eP, eN, e1]
  simp [rIx_tup, rIx_lst, eB]
  refine ⟨p.boats, ord, b, rfl, hb, ho, ?_⟩
  unfold stepOf at h
  cases e : turned p.boats ord b <;> simp [e] at h ⊢ <;> exact h
end DL
namespace DL
open PySem PySem.Spec PyProof.Rows L2 LamX
/-! Bounds, the top form, heads. -/
def RunOk (p : Plan) (r : Run) : Prop := OrdOk p.boats r.ord ∧ r.tim.length = r.ord.length
def bounds (p : Plan) (r : Run) (b : Nat) : List Form := match r.ord.getLast?, r.tim.getLast? with
  | some l, some t => if (bt p.boats l).down = (bt p.boats b).down then [(0, (bt p.boats b).st), fadd t.1 (0, (fsub t.2 t.1).1), fadd t.2 (-(stepOf p r.ord b), stepOf p r.ord b)] else [(0, (bt p.boats b).st), t.2]
  | _, _ => [(0, (bt p.boats b).st)]
def sp_bounds_of : DSp := fun ds P => ∃ (p : Plan) (r : Run) (b : Nat), ds = [eP p, eRun r, eN b] ∧ b < p.boats.length ∧ RunOk p r ∧ P (.list ((bounds p r b).map eF))
theorem ne_last {α : Type} {l : List α} (h : l ≠ []) : ∃ x, l.getLast? = some x := by
  cases e : l.getLast? with
  | none => exact absurd (List.getLast?_eq_none_iff.mp e) h
  | some x => exact ⟨x, rfl⟩
theorem wS_ne (a b : Bool) : (!((wS a : Str) == wS b)) = !(a == b) := by rw [wS_eq]
theorem h_bounds_of : Hs 11 3 sp_bounds_of (t_bounds_of sp_less sp_step_of sp_added) := by
  rintro ds Q _ ⟨p, r, b, rfl, hb, ⟨ho, hl⟩, h⟩
  have e1 := atI_bt hb
  by_cases hn : r.ord = []
  · have ht : r.tim = [] := List.eq_nil_of_length_eq_zero (by rw [hl, hn]; rfl)
    simp [bounds, hn, ht] at h
    simp [t_bounds_of, dRet, dSeq, dAsg, dIfS, dNext, dDrop, dPar, dTup, dLst, dCons, dNil, dOp, dUn, dVar, dC, dB, onB, onI, onL, onT, dAnd, dOr, dNot, dAndV, dOrV, dNotV, dIf, dChain, dCall, dCb, gN, gT_tup, gConsD, gNilD, rIx_tup, rIx_lst, rAdd, rSub, rMul, rFdv, rMod, rPow, rLt, rLe, rGt, rGe, rEq, rNe, rIs, rIsn, rIn, rNin, rNeg, dSl, dPart, dNo, cutD, sLen, sInt, sAbs, sMin2, sMax2, sTuple, dFor, iL, iT, line, PyData.eqv, PyData.eqvAll, eP, eRun, eN, e1, hn, ht, eB, List.replicate]
    simpa [eF] using h
  · have ht : r.tim ≠ [] := fun z => hn (List.eq_nil_of_length_eq_zero (by rw [← hl, z]; rfl))
    obtain ⟨l, hL⟩ := ne_last hn
    obtain ⟨t, hT⟩ := ne_last ht
    have e2 := atI_bt (ho.last hL)
    simp [bounds, hL, hT] at h
    simp [t_bounds_of, dRet, dSeq, dAsg, dIfS, dNext, dDrop, dPar, dTup, dLst, dCons, dNil, dOp, dUn, dVar, dC, dB, onB, onI, onL, onT, dAnd, dOr, dNot, dAndV, dOrV, dNotV, dIf, dChain, dCall, dCb, gN, gT_tup, gConsD, gNilD, rIx_tup, rIx_lst, rAdd, rSub, rMul, rFdv, rMod, rPow, rLt, rLe, rGt, rGe, rEq, rNe, rIs, rIsn, rIn, rNin, rNeg, dSl, dPart, dNo, cutD, sLen, sInt, sAbs, sMin2, sMax2, sTuple, dFor, iL, iT, line, PyData.eqv, PyData.eqvAll, eP, eRun, eN, e1, eB, List.replicate, eqvAll_nil, hn, atI_last, last_map, hT, hL, eFF, e2, wS_eq]
    by_cases hw : (bt p.boats l).down = (bt p.boats b).down
    · simp [hw] at h ⊢
      refine ⟨p, r.ord, b, by simp [eP, eN], hb, ho, t.2, t.1, rfl, ?_⟩
      simp [eF, rIx_tup]
      refine ⟨t.1, (0, (fsub t.2 t.1).1), by simp [eF], t.2, (-(stepOf p r.ord b), stepOf p r.ord b), by simp [eF], ?_⟩
      simpa [eF] using h
    · have hw' : ((bt p.boats l).down == (bt p.boats b).down) = false := by simpa using hw
      simp [hw, hw'] at h ⊢
      simpa [eF] using h
/-! ### the top form -/
def topF (best : Form) (asked : List Form) (n : Int) : List Form → Form × List Form
  | [] => (best, asked)
  | f :: r => topF (if sgn (fsub f best) n > 0 then f else best) (asked ++ [fsub f best]) n r
def topForm (fs : List Form) (n : Int) : Form × List Form := match fs with
  | [] => ((0, 0), [])
  | f :: r => topF f [] n r
def bd (f : Form) : Prop := f.1.natAbs ≤ 100000
theorem bd_sub {f g : Form} (a : bd f) (b : bd g) : sm (fsub f g) := by
  unfold bd at a b
  unfold sm fsub
  show (f.1 - g.1).natAbs < _
  omega
def sp_top_form : DSp := fun ds P => ∃ (fs : List Form) (n : Int), ds = [.list (fs.map eF), .int n] ∧ fs ≠ [] ∧ (∀ f ∈ fs, bd f) ∧ fs.length ≤ 1000 ∧ P (.tuple [eF (topForm fs n).1, .tuple ((topForm fs n).2.map eF)])
theorem cut_tail {α : Type} (a : α) (l : List α) : cutL (a :: l) (some 1) none = l := by
  unfold cutL HT.sIx
  simp
theorem loop_top (n : Int) (x0 : Option Dt) (Q : Dt → Prop) : ∀ (fs : List Form) (best : Form) (asked : List Form) (o : Option Dt), bd best → (∀ f ∈ fs, bd f) → asked.length + fs.length ≤ 1000 →
    Q (.tuple [eF (topF best asked n fs).1, .tuple ((topF best asked n fs).2.map eF)]) →
    forW (gN 4) (dSeq (dAsg (dOp rAdd (dVar 3) (dTup (dCons (dCall 2 sp_less (dCons (dVar 4) (dCons (dVar 2) dNil))) dNil))) (gN 3))
      (dAsg (dIf (dB (dOp rGt (dCall 2 sp_sign_of (dCons (dOp rIx (dVar 3) (dUn rNeg (dC (.int 1)))) (dCons (dVar 1) dNil))) (dC (.int 0)))) (dVar 4) (dVar 2)) (gN 2)))
      (fs.map eF) { nx := dRet (dTup (dCons (dVar 2) (dCons (dVar 3) dNil))) { nx := fun _ => Q .none, rt := Q }, rt := Q } [x0, some (.int n), some (eF best), some (.tuple (asked.map eF)), o]
  | [], best, asked, o, _, _, _, h => by
    simp [forW, dRet, dSeq, dAsg, dIfS, dNext, dDrop, dPar, dTup, dLst, dCons, dNil, dOp, dUn, dVar, dC, dB, onB, onI, onL, onT, dAnd, dOr, dNot, dAndV, dOrV, dNotV, dIf, dChain, dCall, dCb, gN, gT_tup, gConsD, gNilD, rIx_tup, rIx_lst, rAdd, rSub, rMul, rFdv, rMod, rPow, rLt, rLe, rGt, rGe, rEq, rNe, rIs, rIsn, rIn, rNin, rNeg, dSl, dPart, dNo, cutD, sLen, sInt, sAbs, sMin2, sMax2, sTuple, dFor, iL, iT, line, PyData.eqv, PyData.eqvAll, topF, eF] at h ⊢
    exact h
  | f :: r, best, asked, o, hb, hf, hl, h => by
    have bf := hf f (List.mem_cons_self ..)
    have ih := loop_top n x0 Q r (if sgn (fsub f best) n > 0 then f else best) (asked ++ [fsub f best]) (some (eF f)) (by split <;> assumption) (fun g hg => hf g (List.mem_cons_of_mem _ hg)) (by simp at hl ⊢; omega) h
    simp [forW, dRet, dSeq, dAsg, dIfS, dNext, dDrop, dPar, dTup, dLst, dCons, dNil, dOp, dUn, dVar, dC, dB, onB, onI, onL, onT, dAnd, dOr, dNot, dAndV, dOrV, dNotV, dIf, dChain, dCall, dCb, gN, gT_tup, gConsD, gNilD, rIx_tup, rIx_lst, rAdd, rSub, rMul, rFdv, rMod, rPow, rLt, rLe, rGt, rGe, rEq, rNe, rIs, rIsn, rIn, rNin, rNeg, dSl, dPart, dNo, cutD, sLen, sInt, sAbs, sMin2, sMax2, sTuple, dFor, iL, iT, line, PyData.eqv, PyData.eqvAll, eF] at ih ⊢
    refine ⟨f, best, by simp [eF], ?_⟩
    simp [eF, atI_last, rIx_tup]
    refine ⟨by simp at hl; omega, fsub f best, n, by simp [eF], bd_sub bf hb, ?_⟩
    by_cases hs : 0 < sgn (fsub f best) n
    · simp [hs] at ih ⊢
      exact ih
    · simp [hs] at ih ⊢
      exact ih
theorem h_top_form : Hs 5 2 sp_top_form (t_top_form sp_less sp_sign_of) := by
  rintro ds Q _ ⟨fs, n, rfl, hn, hf, hl, h⟩
  cases fs with
  | nil => exact absurd rfl hn
  | cons f r =>
    have := loop_top n (some (.list ((f :: r).map eF))) Q r f [] none (hf f (List.mem_cons_self ..)) (fun g hg => hf g (List.mem_cons_of_mem _ hg)) (by simp at hl ⊢; omega) h
    simp [t_top_form, dRet, dSeq, dAsg, dIfS, dNext, dDrop, dPar, dTup, dLst, dCons, dNil, dOp, dUn, dVar, dC, dB, onB, onI, onL, onT, dAnd, dOr, dNot, dAndV, dOrV, dNotV, dIf, dChain, dCall, dCb, gN, gT_tup, gConsD, gNilD, rIx_tup, rIx_lst, rAdd, rSub, rMul, rFdv, rMod, rPow, rLt, rLe, rGt, rGe, rEq, rNe, rIs, rIsn, rIn, rNin, rNeg, dSl, dPart, dNo, cutD, sLen, sInt, sAbs, sMin2, sMax2, sTuple, dFor, iL, iT, line, PyData.eqv, PyData.eqvAll, eF, List.replicate, cut_tail] at this ⊢
    exact this
end DL
namespace DL
open PySem PySem.Spec PyProof.Rows L2 LamX
/-! Comprehensions; the first by start; the row behind. -/
theorem lcW_map {α : Type} {g : DTG} {tt : DTT} {te : DTE} {ρ : Rho} (enc : α → Dt) (f : α → Option Dt) : ∀ (items : List α) (acc : List Dt) (P : List Dt → Prop),
    (∀ a ∈ items, ∀ R : Option Dt → Prop, R (f a) → g (enc a) ρ (fun ρ2 => tt ρ2 fun b => if b = true then te ρ2 (fun y => R (some y)) else R none)) → acc.length + items.length ≤ line → P (acc ++ items.filterMap f) → lcW g tt te (items.map enc) acc ρ P
  | [], acc, P, _, _, h => by
    rw [List.filterMap_nil, List.append_nil] at h
    exact h
  | a :: r, acc, P, hg, hl, h => by
    have hl' : acc.length + (r.length + 1) ≤ line := hl
    refine hg a (List.mem_cons_self ..) (fun o => match o with
      | some y => acc.length < line ∧ lcW g tt te (r.map enc) (acc ++ [y]) ρ P
      | none => lcW g tt te (r.map enc) acc ρ P) ?_
    have hr : ∀ b ∈ r, ∀ R : Option Dt → Prop, R (f b) → g (enc b) ρ (fun ρ2 => tt ρ2 fun b => if b = true then te ρ2 (fun y => R (some y)) else R none) := fun b hb => hg b (List.mem_cons_of_mem _ hb)
    cases e : f a with
    | none =>
      rw [List.filterMap_cons, e] at h
      exact lcW_map enc f r acc P hr (by omega) h
    | some y =>
      rw [List.filterMap_cons, e] at h
      refine ⟨by omega, lcW_map enc f r (acc ++ [y]) P hr (by rw [List.length_append]; show acc.length + 1 + r.length ≤ line; omega) ?_⟩
      rw [List.append_assoc]
      exact h
/-- no test, one value each -/
theorem lcW_all {α : Type} {g : DTG} {te : DTE} {ρ : Rho} (enc : α → Dt) (f : α → Dt) (items : List α) (P : List Dt → Prop)
    (hg : ∀ a ∈ items, ∀ R : Dt → Prop, R (f a) → g (enc a) ρ (fun ρ2 => te ρ2 R)) (hl : items.length ≤ line) (h : P (items.map f)) : lcW g dYes te (items.map enc) [] ρ P := by
  refine lcW_map enc (fun a => some (f a)) items [] P (fun a ha R hR => ?_) (by simpa using hl) (by simpa using h)
  exact hg a ha (fun y => R (some y)) hR
/-! ### pairs, sorted -/
def ePr (x : Int × Nat) : Dt := .tuple [.int x.1, .int (x.2 : Int)]
def leP (x y : Int × Nat) : Bool := decide (x.1 < y.1 ∨ (x.1 = y.1 ∧ x.2 ≤ y.2))
def minP (x : Int × Nat) : List (Int × Nat) → Int × Nat
  | [] => x
  | y :: r => minP (if leP x y = true then x else y) r
def firstP : List (Int × Nat) → Option (Int × Nat)
  | [] => none
  | x :: r => some (minP x r)
theorem leP_trans (a b c : Int × Nat) (h : leP a b = true) (g : leP b c = true) : leP a c = true := by
  unfold leP at *
  simp only [decide_eq_true_eq] at *
  omega
theorem leP_total (a b : Int × Nat) : (leP a b || leP b a) = true := by
  unfold leP
  simp only [Bool.or_eq_true, decide_eq_true_eq]
  omega
theorem leP_anti {a b : Int × Nat} (h : leP a b = true) (g : leP b a = true) : a = b := by
  unfold leP at *
  simp only [decide_eq_true_eq] at *
  exact Prod.ext (by omega) (by omega)
theorem leP_refl (a : Int × Nat) : leP a a = true := by unfold leP; simp
theorem minP_mem : ∀ (r : List (Int × Nat)) (x : Int × Nat), minP x r ∈ x :: r
  | [], x => by simp [minP]
  | y :: r, x => by
    unfold minP
    have := minP_mem r (if leP x y = true then x else y)
    rcases List.mem_cons.mp this with e | e
    · rw [e]; split <;> simp
    · exact List.mem_cons_of_mem _ (List.mem_cons_of_mem _ e)
theorem minP_le : ∀ (r : List (Int × Nat)) (x : Int × Nat), ∀ z ∈ x :: r, leP (minP x r) z = true
  | [], x, z, hz => by
    have : z = x := by simpa using hz
    subst this
    exact leP_refl _
  | y :: r, x, z, hz => by
    unfold minP
    have ih := minP_le r (if leP x y = true then x else y)
    have h0 := ih _ (List.mem_cons_self ..)
    have hxy : leP (if leP x y = true then x else y) x = true ∧ leP (if leP x y = true then x else y) y = true := by
      by_cases h : leP x y = true
      · rw [if_pos h]; exact ⟨leP_refl _, h⟩
      · rw [if_neg h]
        have := leP_total x y
        rw [Bool.or_eq_true] at this
        exact ⟨this.resolve_left h, leP_refl _⟩
    rcases List.mem_cons.mp hz with e | hz
    · rw [e]; exact leP_trans _ _ _ h0 hxy.1
    · rcases List.mem_cons.mp hz with e | hz
      · rw [e]; exact leP_trans _ _ _ h0 hxy.2
      · exact ih z (List.mem_cons_of_mem _ hz)
theorem dataLe_ePr (x y : Int × Nat) : leP x y = PySem.W.dataLe false id (ePr x) (ePr y) := by
  rw [PySem.W.dataLe_eq]
  show leP x y = !PySem.W.dataLt (ePr y) (ePr x)
  unfold ePr leP
  rw [PySem.W.dataLt_ii, ← decide_not]
  apply decide_eq_decide.mpr
  omega
theorem sort_ePr (xs : List (Int × Nat)) : (xs.map ePr).mergeSort (PySem.W.dataLe false id) = (xs.mergeSort leP).map ePr := (List.map_mergeSort fun a _ b _ => dataLe_ePr a b).symm
theorem sort_head (xs : List (Int × Nat)) : (xs.mergeSort leP).head? = firstP xs := by
  have hp := List.mergeSort_perm xs leP
  have hs := List.pairwise_mergeSort leP_trans leP_total xs
  cases xs with
  | nil => simp [firstP]
  | cons x r =>
    cases e : (x :: r).mergeSort leP with
    | nil =>
      rw [e] at hp
      have := hp.length_eq
      simp at this
    | cons y s =>
      rw [e] at hp hs
      show some y = some (minP x r)
      congr 1
      apply leP_anti
      · have hm : minP x r ∈ y :: s := hp.mem_iff.mpr (minP_mem r x)
        rcases List.mem_cons.mp hm with e | hm
        · rw [e]; exact leP_refl _
        · exact (List.pairwise_cons.mp hs).1 _ hm
      · exact minP_le r x y (hp.mem_iff.mp (List.mem_cons_self ..))
theorem gd_ePr (x : Int × Nat) : Gd 1 (ePr x) := Gd.tup (GdA.cons (Gd.int _) (GdA.cons (Gd.int _) GdA.nil))
theorem sSort_pr {xs : List (Int × Nat)} {P : Dt → Prop} (hl : xs.length ≤ line) (h : P (.list ((xs.mergeSort leP).map ePr))) : sSort [.list (xs.map ePr)] P := by
  refine ⟨(GdA.map (n := 1) fun a _ => gd_ePr a).1, PySem.W.AllAlike.of fun b b' => rfl, PySem.W.Sortable.tuples fun b => ⟨_, _, rfl⟩, fun x hx => ?_, by simpa using hl, ?_⟩
  · obtain ⟨a, _, rfl⟩ := List.mem_map.mp hx
    exact Nat.le_trans (gd_ePr a).2 (by decide)
  · rw [sort_ePr]; exact h
/-! ### head_of -/
def eNO (o : Option Nat) : Dt := match o with
  | none => .none
  | some n => eN n
@[simp] theorem isMut_eNO (o : Option Nat) : isMut (eNO o) = false := by cases o <;> rfl
@[simp] theorem thaw_eNO (o : Option Nat) : thaw (eNO o) = eNO o := by cases o <;> rfl
def headOf (bs : List Boat) (w : Bool) (left : List Nat) : Option Nat := (firstP (left.filterMap fun b => if (bt bs b).down = w then some ((bt bs b).st, b) else none)).map (·.2)
def earlier (bs : List Boat) (heads : List Nat) : Nat := ((firstP (heads.map fun b => ((bt bs b).st, b))).map (·.2)).getD 0
def sp_head_of : DSp := fun ds P => ∃ (bs : List Boat) (w : Bool) (left : List Nat), ds = [.tuple (bs.map eB), .str (wS w), .list (left.map eN)] ∧ OrdOk bs left ∧ left.length ≤ 1000 ∧ P (eNO (headOf bs w left))
def sp_earlier_start : DSp := fun ds P => ∃ (bs : List Boat) (heads : List Nat), ds = [.tuple (bs.map eB), .list (heads.map eN)] ∧ OrdOk bs heads ∧ heads.length ≤ 1000 ∧ heads ≠ [] ∧ P (eN (earlier bs heads))
theorem filterMap_pr {α : Type} (l : List α) (f : α → Option (Int × Nat)) : l.filterMap (fun a => (f a).map ePr) = (l.filterMap f).map ePr := by
  induction l with
  | nil => rfl
  | cons a r ih =>
    rw [List.filterMap_cons, List.filterMap_cons]
    cases f a with
    | none => simpa using ih
    | some y => simp [ih]
theorem h_head_of : Hs 5 3 sp_head_of t_head_of := by
  rintro ds Q _ ⟨bs, w, left, rfl, ho, hl, h⟩
  simp only [t_head_of, dSeq, dAsg, dCb, dCons, dNil, dLc, iL]
  simp [dVar, onL, wipeR, List.replicate]
  refine lcW_map eN (fun b => (if (bt bs b).down = w then some ((bt bs b).st, b) else none).map ePr) left [] _ (fun b hb R hR => ?_) (by simp [line]; omega) ?_
  · have e1 := atI_bt (ho b hb)
    simp [dRet, dSeq, dAsg, dIfS, dNext, dDrop, dPar, dTup, dLst, dCons, dNil, dOp, dUn, dVar, dC, dB, onB, onI, onL, onT, dAnd, dOr, dNot, dAndV, dOrV, dNotV, dIf, dChain, dCall, dCb, gN, gT_tup, gConsD, gNilD, rIx_tup, rIx_lst, rAdd, rSub, rMul, rFdv, rMod, rPow, rLt, rLe, rGt, rGe, rEq, rNe, rIs, rIsn, rIn, rNin, rNeg, dSl, dPart, dNo, cutD, sLen, sInt, sAbs, sMin2, sMax2, sTuple, dFor, iL, iT, line, PyData.eqv, PyData.eqvAll, eN, e1, eB, wS_eq] at hR ⊢
    by_cases hw : (bt bs b).down = w
    · simp [hw] at hR ⊢
      exact hR
    · simp [hw] at hR ⊢
      exact hR
  · rw [List.nil_append, filterMap_pr]
    have hlen : (left.filterMap fun b => if (bt bs b).down = w then some ((bt bs b).st, b) else none).length ≤ line := Nat.le_trans (List.length_filterMap_le _ _) (by unfold line; omega)
    refine sSort_pr hlen ?_
    unfold headOf at h
    rw [← sort_head] at h
    generalize (left.filterMap fun b => if (bt bs b).down = w then some ((bt bs b).st, b) else none).mergeSort leP = s at h
    have gs : SeqAt.shaped (.list (s.map ePr)) = true := (Gd.lst (GdA.map (n := 1) fun a _ => gd_ePr a)).sh
    cases s with
    | nil =>
      simp [dRet, dSeq, dAsg, dIfS, dNext, dDrop, dPar, dTup, dLst, dCons, dNil, dOp, dUn, dVar, dC, dB, onB, onI, onL, onT, dAnd, dOr, dNot, dAndV, dOrV, dNotV, dIf, dChain, dCall, dCb, gN, gT_tup, gConsD, gNilD, rIx_tup, rIx_lst, rAdd, rSub, rMul, rFdv, rMod, rPow, rLt, rLe, rGt, rGe, rEq, rNe, rIs, rIsn, rIn, rNin, rNeg, dSl, dPart, dNo, cutD, sLen, sInt, sAbs, sMin2, sMax2, sTuple, dFor, iL, iT, line, PyData.eqv, PyData.eqvAll] at h ⊢
      exact h
    | cons y s =>
      have gs2 : SeqAt.shaped (.list (.tuple [.int y.1, .int (y.2 : Int)] :: s.map ePr)) = true := gs
      simp [dRet, dSeq, dAsg, dIfS, dNext, dDrop, dPar, dTup, dLst, dCons, dNil, dOp, dUn, dVar, dC, dB, onB, onI, onL, onT, dAnd, dOr, dNot, dAndV, dOrV, dNotV, dIf, dChain, dCall, dCb, gN, gT_tup, gConsD, gNilD, rIx_tup, rIx_lst, rAdd, rSub, rMul, rFdv, rMod, rPow, rLt, rLe, rGt, rGe, rEq, rNe, rIs, rIsn, rIn, rNin, rNeg, dSl, dPart, dNo, cutD, sLen, sInt, sAbs, sMin2, sMax2, sTuple, dFor, iL, iT, line, PyData.eqv, PyData.eqvAll, eqvAll_nil, ePr] at h ⊢
      exact ⟨gs2, h⟩
theorem h_earlier_start : Hs 3 2 sp_earlier_start t_earlier_start := by
  rintro ds Q _ ⟨bs, heads, rfl, ho, hl, hn, h⟩
  simp only [t_earlier_start, dRet, dOp, dCb, dCons, dNil, dLc, iL]
  simp [dVar, onL, wipeR, List.replicate]
  refine lcW_all eN (fun b => ePr ((bt bs b).st, b)) heads _ (fun b hb R hR => ?_) (by unfold line; omega) ?_
  · have e1 := atI_bt (ho b hb)
    simp [dRet, dSeq, dAsg, dIfS, dNext, dDrop, dPar, dTup, dLst, dCons, dNil, dOp, dUn, dVar, dC, dB, onB, onI, onL, onT, dAnd, dOr, dNot, dAndV, dOrV, dNotV, dIf, dChain, dCall, dCb, gN, gT_tup, gConsD, gNilD, rIx_tup, rIx_lst, rAdd, rSub, rMul, rFdv, rMod, rPow, rLt, rLe, rGt, rGe, rEq, rNe, rIs, rIsn, rIn, rNin, rNeg, dSl, dPart, dNo, cutD, sLen, sInt, sAbs, sMin2, sMax2, sTuple, dFor, iL, iT, line, PyData.eqv, PyData.eqvAll, eN, e1, eB] at hR ⊢
    exact hR
  · have : heads.map (fun b => ePr ((bt bs b).st, b)) = (heads.map fun b => ((bt bs b).st, b)).map ePr := by simp
    rw [this]
    refine sSort_pr (by simp [line]; omega) ?_
    unfold earlier at h
    rw [← sort_head] at h
    have hne : (heads.map fun b => ((bt bs b).st, b)).mergeSort leP ≠ [] := fun z => hn (by
      have := (List.mergeSort_perm (heads.map fun b => ((bt bs b).st, b)) leP).length_eq
      rw [z] at this
      exact List.eq_nil_of_length_eq_zero (by simpa using this.symm))
    generalize (heads.map fun b => ((bt bs b).st, b)).mergeSort leP = s at h hne
    cases s with
    | nil => exact absurd rfl hne
    | cons y s =>
      simp [dRet, dSeq, dAsg, dIfS, dNext, dDrop, dPar, dTup, dLst, dCons, dNil, dOp, dUn, dVar, dC, dB, onB, onI, onL, onT, dAnd, dOr, dNot, dAndV, dOrV, dNotV, dIf, dChain, dCall, dCb, gN, gT_tup, gConsD, gNilD, rIx_tup, rIx_lst, rAdd, rSub, rMul, rFdv, rMod, rPow, rLt, rLe, rGt, rGe, rEq, rNe, rIs, rIsn, rIn, rNin, rNeg, dSl, dPart, dNo, cutD, sLen, sInt, sAbs, sMin2, sMax2, sTuple, dFor, iL, iT, line, PyData.eqv, PyData.eqvAll, ePr] at h ⊢
      exact h
/-! ### row_behind -/
def rowBehind (bs : List Boat) (ord : List Nat) : Nat := match ord.getLast? with
  | none => 0
  | some l => (ord.reverse.takeWhile fun b => (bt bs b).down == (bt bs l).down).length
def sp_row_behind : DSp := fun ds P => ∃ (bs : List Boat) (ord : List Nat), ds = [.tuple (bs.map eB), .tuple (ord.map eN)] ∧ OrdOk bs ord ∧ P (eN (rowBehind bs ord))
theorem loop_row {bs : List Boat} {ord : List Nat} {l : Nat} (ho : OrdOk bs ord) (hl : ord.getLast? = some l) (Q : Dt → Prop) : ∀ (r : List Nat) (k : Nat) (o : Option Dt), OrdOk bs r → Q (eN (k + (r.takeWhile fun b => (bt bs b).down == (bt bs l).down).length)) →
    forW (gN 3) (dSeq (dIfS (dB (dOp rNe (dOp rIx (dOp rIx (dVar 0) (dVar 3)) (dC (.int 0))) (dOp rIx (dOp rIx (dVar 0) (dOp rIx (dVar 1) (dUn rNeg (dC (.int 1))))) (dC (.int 0))))) (dRet (dVar 2)) dNext)
      (dAsg (dOp rAdd (dVar 2) (dC (.int 1))) (gN 2))) (r.map eN) { nx := dRet (dVar 2) { nx := fun _ => Q .none, rt := Q }, rt := Q } [some (.tuple (bs.map eB)), some (.tuple (ord.map eN)), some (.int (k : Int)), o]
  | [], k, o, _, h => by
    simp [forW, dRet, dSeq, dAsg, dIfS, dNext, dDrop, dPar, dTup, dLst, dCons, dNil, dOp, dUn, dVar, dC, dB, onB, onI, onL, onT, dAnd, dOr, dNot, dAndV, dOrV, dNotV, dIf, dChain, dCall, dCb, gN, gT_tup, gConsD, gNilD, rIx_tup, rIx_lst, rAdd, rSub, rMul, rFdv, rMod, rPow, rLt, rLe, rGt, rGe, rEq, rNe, rIs, rIsn, rIn, rNin, rNeg, dSl, dPart, dNo, cutD, sLen, sInt, sAbs, sMin2, sMax2, sTuple, dFor, iL, iT, line, PyData.eqv, PyData.eqvAll, eN] at h ⊢
    exact h
  | b :: r, k, o, hr, h => by
    have e1 := atI_bt (hr b (List.mem_cons_self ..))
    have e2 := atI_bt (ho.last hl)
    simp [forW, dRet, dSeq, dAsg, dIfS, dNext, dDrop, dPar, dTup, dLst, dCons, dNil, dOp, dUn, dVar, dC, dB, onB, onI, onL, onT, dAnd, dOr, dNot, dAndV, dOrV, dNotV, dIf, dChain, dCall, dCb, gN, gT_tup, gConsD, gNilD, rIx_tup, rIx_lst, rAdd, rSub, rMul, rFdv, rMod, rPow, rLt, rLe, rGt, rGe, rEq, rNe, rIs, rIsn, rIn, rNin, rNeg, dSl, dPart, dNo, cutD, sLen, sInt, sAbs, sMin2, sMax2, sTuple, dFor, iL, iT, line, PyData.eqv, PyData.eqvAll, eN, e1, e2, atI_last, last_map, hl, eB, wS_eq]
    by_cases hw : (bt bs b).down = (bt bs l).down
    · have ih := loop_row ho hl Q r (k + 1) (some (.int (b : Int))) (fun x hx => hr x (List.mem_cons_of_mem _ hx)) (by
        simp [List.takeWhile_cons, hw] at h
        have e : k + 1 + (r.takeWhile fun b => (bt bs b).down == (bt bs l).down).length = k + ((r.takeWhile fun b => (bt bs b).down == (bt bs l).down).length + 1) := by omega
        rw [e]; exact h)
      simp [dRet, dSeq, dAsg, dIfS, dNext, dDrop, dPar, dTup, dLst, dCons, dNil, dOp, dUn, dVar, dC, dB, onB, onI, onL, onT, dAnd, dOr, dNot, dAndV, dOrV, dNotV, dIf, dChain, dCall, dCb, gN, gT_tup, gConsD, gNilD, rIx_tup, rIx_lst, rAdd, rSub, rMul, rFdv, rMod, rPow, rLt, rLe, rGt, rGe, rEq, rNe, rIs, rIsn, rIn, rNin, rNeg, dSl, dPart, dNo, cutD, sLen, sInt, sAbs, sMin2, sMax2, sTuple, dFor, iL, iT, line, PyData.eqv, PyData.eqvAll, eB] at ih
      simp [hw]
      exact ih
    · simp [hw]
      simp [List.takeWhile_cons, hw, eN] at h
      exact h
theorem h_row_behind : Hs 4 2 sp_row_behind t_row_behind := by
  rintro ds Q _ ⟨bs, ord, rfl, ho, h⟩
  unfold rowBehind at h
  cases e : ord.getLast? with
  | none =>
    have := List.getLast?_eq_none_iff.mp e
    subst this
    simp [t_row_behind, dRet, dSeq, dAsg, dIfS, dNext, dDrop, dPar, dTup, dLst, dCons, dNil, dOp, dUn, dVar, dC, dB, onB, onI, onL, onT, dAnd, dOr, dNot, dAndV, dOrV, dNotV, dIf, dChain, dCall, dCb, gN, gT_tup, gConsD, gNilD, rIx_tup, rIx_lst, rAdd, rSub, rMul, rFdv, rMod, rPow, rLt, rLe, rGt, rGe, rEq, rNe, rIs, rIsn, rIn, rNin, rNeg, dSl, dPart, dNo, cutD, sLen, sInt, sAbs, sMin2, sMax2, sTuple, dFor, iL, iT, line, PyData.eqv, PyData.eqvAll, dRev, forW, List.replicate, eN] at h ⊢
    exact h
  | some l =>
    rw [e] at h
    have := loop_row ho e Q ord.reverse 0 none (fun x hx => ho x (List.mem_reverse.mp hx)) (by simpa using h)
    simp [t_row_behind, dRet, dSeq, dAsg, dIfS, dNext, dDrop, dPar, dTup, dLst, dCons, dNil, dOp, dUn, dVar, dC, dB, onB, onI, onL, onT, dAnd, dOr, dNot, dAndV, dOrV, dNotV, dIf, dChain, dCall, dCb, gN, gT_tup, gConsD, gNilD, rIx_tup, rIx_lst, rAdd, rSub, rMul, rFdv, rMod, rPow, rLt, rLe, rGt, rGe, rEq, rNe, rIs, rIsn, rIn, rNin, rNeg, dSl, dPart, dNo, cutD, sLen, sInt, sAbs, sMin2, sMax2, sTuple, dFor, iL, iT, line, PyData.eqv, PyData.eqvAll, dRev, List.replicate, ← List.map_reverse] at this ⊢
    exact this
end DL
namespace DL
open PySem PySem.Spec PyProof.Rows L2 LamX
/-! The next boat. -/
structure Plan.Ok (p : Plan) : Prop where
  g0 : 0 ≤ p.gap
  g1 : p.gap ≤ 3
  rule : ∀ m, p.rule = .batch m → 1 ≤ m ∧ m ≤ 3
  len0 : 0 < p.boats.length
  len1 : p.boats.length ≤ 5
  st0 : ∀ b ∈ p.boats, 0 ≤ b.st ∧ b.st ≤ 60
  pc0 : ∀ b ∈ p.boats, 1 ≤ b.pc ∧ b.pc ≤ 5
def cap (k : Nat) (f : Form) : Prop := f.1.natAbs ≤ k
def RunCap (r : Run) (k : Nat) : Prop := ∀ t ∈ r.tim, cap k t.1 ∧ cap k t.2
theorem bt_mem {bs : List Boat} {b : Nat} (h : b < bs.length) : bt bs b ∈ bs := by
  unfold bt
  simp [List.getD, List.getElem?_eq_getElem h]
theorem step_le {p : Plan} (ok : p.Ok) {ord : List Nat} {b : Nat} (h : b < p.boats.length) : 1 ≤ stepOf p ord b ∧ stepOf p ord b ≤ 8 := by
  have h1 := ok.pc0 _ (bt_mem h)
  have h2 := ok.g0
  have h3 := ok.g1
  unfold stepOf
  split <;> omega
theorem bounds_cap {p : Plan} (ok : p.Ok) {r : Run} {k b : Nat} (hr : RunCap r k) (h : b < p.boats.length) : ∀ f ∈ bounds p r b, cap (k + 8) f := by
  have hs := step_le ok (ord := r.ord) h
  intro f hf
  unfold bounds at hf
  split at hf
  · rename_i l t e1 e2
    have ht := hr t (List.mem_of_getLast? e2)
    unfold cap at ht ⊢
    split at hf
    · rcases List.mem_cons.mp hf with e | hf
      · subst e; show (0 : Int).natAbs ≤ _; simp
      · rcases List.mem_cons.mp hf with e | hf
        · subst e; show (t.1.1 + 0).natAbs ≤ _; omega
        · rw [List.mem_singleton] at hf
          subst hf; show (t.2.1 + -(stepOf p r.ord b)).natAbs ≤ _; omega
    · rcases List.mem_cons.mp hf with e | hf
      · subst e; show (0 : Int).natAbs ≤ _; simp
      · rw [List.mem_singleton] at hf
        subst hf; omega
  · rw [List.mem_singleton] at hf
    subst hf; unfold cap; simp
theorem bounds_ne (p : Plan) (r : Run) (b : Nat) : bounds p r b ≠ [] := by
  unfold bounds
  split
  · split <;> simp
  · simp
theorem bounds_len (p : Plan) (r : Run) (b : Nat) : (bounds p r b).length ≤ 3 := by
  unfold bounds
  split
  · split <;> simp
  · simp
theorem topF_mem (n : Int) : ∀ (fs : List Form) (best : Form) (asked : List Form), (topF best asked n fs).1 ∈ best :: fs
  | [], best, asked => by simp [topF]
  | f :: r, best, asked => by
    unfold topF
    have := topF_mem n r (if sgn (fsub f best) n > 0 then f else best) (asked ++ [fsub f best])
    rcases List.mem_cons.mp this with e | e
    · rw [e]; split <;> simp
    · exact List.mem_cons_of_mem _ (List.mem_cons_of_mem _ e)
theorem top_mem {fs : List Form} (h : fs ≠ []) (n : Int) : (topForm fs n).1 ∈ fs := by
  cases fs with
  | nil => exact absurd rfl h
  | cons f r => exact topF_mem n r f []
theorem topF_len (n : Int) : ∀ (fs : List Form) (best : Form) (asked : List Form), (topF best asked n fs).2.length = asked.length + fs.length
  | [], best, asked => rfl
  | f :: r, best, asked => by
    unfold topF
    rw [topF_len n r]
    simp
    omega
theorem top_len (fs : List Form) (n : Int) : (topForm fs n).2.length ≤ fs.length := by
  cases fs with
  | nil => exact Nat.le_refl _
  | cons f r => show (topF f [] n r).2.length ≤ _; rw [topF_len]; simp
/-! ### next_soon -/
def sameWay (p : Plan) (r : Run) (b : Nat) : Bool := match r.ord.getLast? with
  | none => false
  | some l => (bt p.boats b).down == (bt p.boats l).down
def gapOf (p : Plan) (r : Run) (n : Int) (a b : Nat) : Form := fsub (topForm (bounds p r a) n).1 (topForm (bounds p r b) n).1
def nextSoon (p : Plan) (r : Run) (n : Int) (a b : Nat) : Nat × List Form :=
  (if sgn (gapOf p r n a b) n ≠ 0 then (if sgn (gapOf p r n a b) n < 0 then a else b) else match [a, b].filter (sameWay p r) with
    | x :: _ => x
    | [] => min a b, (topForm (bounds p r a) n).2 ++ (topForm (bounds p r b) n).2 ++ [gapOf p r n a b])
structure RunPre (p : Plan) (r : Run) : Prop where
  ok : p.Ok
  run : RunOk p r
  cap : RunCap r 1000
def sp_next_soon : DSp := fun ds P => ∃ (p : Plan) (r : Run) (a b : Nat) (n : Int), ds = [eP p, eRun r, .list [eN a, eN b], .int n] ∧ RunPre p r ∧ a < p.boats.length ∧ b < p.boats.length ∧ P (.tuple [eN (nextSoon p r n a b).1, .tuple ((nextSoon p r n a b).2.map eF)])
theorem bounds_sp {p : Plan} {r : Run} (pre : RunPre p r) {b : Nat} (h : b < p.boats.length) (n : Int) {P : Dt → Prop} (hp : P (.tuple [eF (topForm (bounds p r b) n).1, .tuple ((topForm (bounds p r b) n).2.map eF)])) : sp_top_form [.list ((bounds p r b).map eF), .int n] P :=
  ⟨bounds p r b, n, rfl, bounds_ne p r b, fun f hf => Nat.le_trans (bounds_cap pre.ok pre.cap h f hf) (by decide), Nat.le_trans (bounds_len p r b) (by decide), hp⟩
theorem minN (a b : Nat) : PyData.int (if b < a then (b : Int) else (a : Int)) = eN (min a b) := by
  unfold eN
  by_cases h : b < a
  · rw [if_pos h, Nat.min_eq_right (by omega)]
  · rw [if_neg h, Nat.min_eq_left (by omega)]
@[simp] theorem eqv_eN (a b : Nat) : PyData.eqv (eN a) (eN b) = (a == b) := by
  show ((a : Int) == (b : Int)) = (a == b)
  by_cases h : a = b
  · subst h; simp
  · rw [beq_eq_false_iff_ne.mpr h, beq_eq_false_iff_ne.mpr (fun z => h (by omega))]
theorem h_next_soon : Hs 12 4 sp_next_soon (t_next_soon sp_top_form sp_bounds_of sp_less sp_sign_of) := by
  rintro ds Q _ ⟨p, r, a, b, n, rfl, pre, ha, hb, h⟩
  have ca : cap 1008 (topForm (bounds p r a) n).1 := bounds_cap pre.ok pre.cap ha _ (top_mem (bounds_ne p r a) n)
  have cb : cap 1008 (topForm (bounds p r b) n).1 := bounds_cap pre.ok pre.cap hb _ (top_mem (bounds_ne p r b) n)
  have la := Nat.le_trans (top_len (bounds p r a) n) (bounds_len p r a)
  have lb := Nat.le_trans (top_len (bounds p r b) n) (bounds_len p r b)
  have e1 := atI_bt ha
  have e2 := atI_bt hb
  simp [t_next_soon, dRet, dSeq, dAsg, dIfS, dNext, dDrop, dPar, dTup, dLst, dCons, dNil, dOp, dUn, dVar, dC, dB, onB, onI, onL, onT, dAnd, dOr, dNot, dAndV, dOrV, dNotV, dIf, dChain, dCall, dCb, gN, gT_tup, gConsD, gNilD, rIx_tup, rIx_lst, rAdd, rSub, rMul, rFdv, rMod, rPow, rLt, rLe, rGt, rGe, rEq, rNe, rIs, rIsn, rIn, rNin, rNeg, dSl, dPart, dNo, cutD, sLen, sInt, sAbs, sMin2, sMax2, sTuple, dFor, iL, iT, line, PyData.eqv, PyData.eqvAll, List.replicate, forW]
  refine ⟨p, r, a, rfl, ha, pre.run, bounds_sp pre ha n ?_⟩
  simp [dRet, dSeq, dAsg, dIfS, dNext, dDrop, dPar, dTup, dLst, dCons, dNil, dOp, dUn, dVar, dC, dB, onB, onI, onL, onT, dAnd, dOr, dNot, dAndV, dOrV, dNotV, dIf, dChain, dCall, dCb, gN, gT_tup, gConsD, gNilD, rIx_tup, rIx_lst, rAdd, rSub, rMul, rFdv, rMod, rPow, rLt, rLe, rGt, rGe, rEq, rNe, rIs, rIsn, rIn, rNin, rNeg, dSl, dPart, dNo, cutD, sLen, sInt, sAbs, sMin2, sMax2, sTuple, dFor, iL, iT, line, PyData.eqv, PyData.eqvAll]
  refine ⟨by omega, p, r, b, rfl, hb, pre.run, bounds_sp pre hb n ?_⟩
  simp [dRet, dSeq, dAsg, dIfS, dNext, dDrop, dPar, dTup, dLst, dCons, dNil, dOp, dUn, dVar, dC, dB, onB, onI, onL, onT, dAnd, dOr, dNot, dAndV, dOrV, dNotV, dIf, dChain, dCall, dCb, gN, gT_tup, gConsD, gNilD, rIx_tup, rIx_lst, rAdd, rSub, rMul, rFdv, rMod, rPow, rLt, rLe, rGt, rGe, rEq, rNe, rIs, rIsn, rIn, rNin, rNeg, dSl, dPart, dNo, cutD, sLen, sInt, sAbs, sMin2, sMax2, sTuple, dFor, iL, iT, line, PyData.eqv, PyData.eqvAll]
  refine ⟨by omega, _, _, rfl, ?_⟩
  simp [dRet, dSeq, dAsg, dIfS, dNext, dDrop, dPar, dTup, dLst, dCons, dNil, dOp, dUn, dVar, dC, dB, onB, onI, onL, onT, dAnd, dOr, dNot, dAndV, dOrV, dNotV, dIf, dChain, dCall, dCb, gN, gT_tup, gConsD, gNilD, rIx_tup, rIx_lst, rAdd, rSub, rMul, rFdv, rMod, rPow, rLt, rLe, rGt, rGe, rEq, rNe, rIs, rIsn, rIn, rNin, rNeg, dSl, dPart, dNo, cutD, sLen, sInt, sAbs, sMin2, sMax2, sTuple, dFor, iL, iT, line, PyData.eqv, PyData.eqvAll]
  refine ⟨gapOf p r n a b, n, rfl, bd_sub (Nat.le_trans ca (by decide)) (Nat.le_trans cb (by decide)), ?_⟩
  simp [dRet, dSeq, dAsg, dIfS, dNext, dDrop, dPar, dTup, dLst, dCons, dNil, dOp, dUn, dVar, dC, dB, onB, onI, onL, onT, dAnd, dOr, dNot, dAndV, dOrV, dNotV, dIf, dChain, dCall, dCb, gN, gT_tup, gConsD, gNilD, rIx_tup, rIx_lst, rAdd, rSub, rMul, rFdv, rMod, rPow, rLt, rLe, rGt, rGe, rEq, rNe, rIs, rIsn, rIn, rNin, rNeg, dSl, dPart, dNo, cutD, sLen, sInt, sAbs, sMin2, sMax2, sTuple, dFor, iL, iT, line, PyData.eqv, PyData.eqvAll]
  unfold nextSoon at h
  by_cases hs : sgn (gapOf p r n a b) n = 0
  · simp [hs] at h ⊢
    by_cases hn : r.ord = []
    · simp [sameWay, hn, List.filter] at h
      simp [dLc, lcW, wipeR, dRet, dSeq, dAsg, dIfS, dNext, dDrop, dPar, dTup, dLst, dCons, dNil, dOp, dUn, dVar, dC, dB, onB, onI, onL, onT, dAnd, dOr, dNot, dAndV, dOrV, dNotV, dIf, dChain, dCall, dCb, gN, gT_tup, gConsD, gNilD, rIx_tup, rIx_lst, rAdd, rSub, rMul, rFdv, rMod, rPow, rLt, rLe, rGt, rGe, rEq, rNe, rIs, rIsn, rIn, rNin, rNeg, dSl, dPart, dNo, cutD, sLen, sInt, sAbs, sMin2, sMax2, sTuple, dFor, iL, iT, line, PyData.eqv, PyData.eqvAll, eRun, hn]
      simp [eN]
      rw [minN]
      exact ⟨by omega, h⟩
    · obtain ⟨l, hl⟩ := ne_last hn
      have e4 := atI_bt (pre.run.1.last hl)
      have s2 : SeqAt.shaped (.list [.int (a : Int), .int (b : Int)]) = true := (gd_ordL [a, b]).sh
      have sa : SeqAt.shaped (.list [.int (a : Int)]) = true := (gd_ordL [a]).sh
      have sb : SeqAt.shaped (.list [.int (b : Int)]) = true := (gd_ordL [b]).sh
      simp [sameWay, hl, List.filter] at h
      simp [dLc, lcW, wipeR, dRet, dSeq, dAsg, dIfS, dNext, dDrop, dPar, dTup, dLst, dCons, dNil, dOp, dUn, dVar, dC, dB, onB, onI, onL, onT, dAnd, dOr, dNot, dAndV, dOrV, dNotV, dIf, dChain, dCall, dCb, gN, gT_tup, gConsD, gNilD, rIx_tup, rIx_lst, rAdd, rSub, rMul, rFdv, rMod, rPow, rLt, rLe, rGt, rGe, rEq, rNe, rIs, rIsn, rIn, rNin, rNeg, dSl, dPart, dNo, cutD, sLen, sInt, sAbs, sMin2, sMax2, sTuple, dFor, iL, iT, line, PyData.eqv, PyData.eqvAll, eRun, hn, eqvAll_nil, eP, eN, e1, e2, e4, atI_last, last_map, hl, eB, wS_eq]
      rw [minN]
      by_cases wa : (bt p.boats a).down = (bt p.boats l).down
      · by_cases wb : (bt p.boats b).down = (bt p.boats l).down
        · simp [wa, wb] at h ⊢
          exact ⟨s2, by omega, h⟩
        · have wb' : ((bt p.boats b).down == (bt p.boats l).down) = false := by simpa using wb
          simp [wa, wb, wb'] at h ⊢
          exact ⟨sa, by omega, h⟩
      · have wa' : ((bt p.boats a).down == (bt p.boats l).down) = false := by simpa using wa
        by_cases wb : (bt p.boats b).down = (bt p.boats l).down
        · simp [wa, wa', wb] at h ⊢
          exact ⟨sb, by omega, h⟩
        · have wb' : ((bt p.boats b).down == (bt p.boats l).down) = false := by simpa using wb
          simp [wa, wb, wa', wb'] at h ⊢
          exact ⟨by omega, h⟩
  · simp [hs, PyData.eqv] at h ⊢
    by_cases h2 : sgn (gapOf p r n a b) n < 0
    · simp [h2] at h ⊢; exact ⟨by omega, h⟩
    · simp [h2] at h ⊢; exact ⟨by omega, h⟩
end DL
namespace DL
open PySem PySem.Spec PyProof.Rows L2 LamX
/-! The next boat, over all rules. -/
def leftOf (p : Plan) (ord : List Nat) : List Nat := (List.range p.boats.length).filter fun b => !(ord.contains b)
def nextBoat (p : Plan) (r : Run) (n : Int) : Nat × List Form := match headOf p.boats false (leftOf p r.ord), headOf p.boats true (leftOf p r.ord) with
  | none, none => (0, [])
  | some a, none => (a, [])
  | none, some b => (b, [])
  | some a, some b => match p.rule with
    | .soon => nextSoon p r n a b
    | .first => (earlier p.boats [a, b], [])
    | .batch m => match r.ord.getLast? with
      | none => (earlier p.boats [a, b], [])
      | some l => (if (rowBehind p.boats r.ord : Int) < m then (if (bt p.boats l).down = false then a else b) else (if (bt p.boats l).down = false then b else a), [])
def sp_next_boat : DSp := fun ds P => ∃ (p : Plan) (r : Run) (n : Int), ds = [eP p, eRun r, .int n] ∧ RunPre p r ∧ (∃ b, b < p.boats.length ∧ b ∉ r.ord) ∧ P (.tuple [eN (nextBoat p r n).1, .tuple ((nextBoat p r n).2.map eF)])
theorem firstP_mem {xs : List (Int × Nat)} {x : Int × Nat} (h : firstP xs = some x) : x ∈ xs := by
  cases xs with
  | nil => cases h
  | cons y r =>
    have : minP y r = x := Option.some.inj h
    rw [← this]
    exact minP_mem r y
theorem headOf_mem {bs : List Boat} {w : Bool} {left : List Nat} {a : Nat} (h : headOf bs w left = some a) : a ∈ left ∧ (bt bs a).down = w := by
  unfold headOf at h
  cases e : firstP (left.filterMap fun b => if (bt bs b).down = w then some ((bt bs b).st, b) else none) with
  | none => rw [e] at h; cases h
  | some x =>
    rw [e] at h
    have hx : x.2 = a := Option.some.inj h
    obtain ⟨b, hb, hc⟩ := List.mem_filterMap.mp (firstP_mem e)
    split at hc
    · rename_i hw
      have := Option.some.inj hc
      rw [← this] at hx
      have hx : b = a := hx
      subst hx
      exact ⟨hb, hw⟩
    · cases hc
theorem headOf_none {bs : List Boat} {w : Bool} {left : List Nat} (h : headOf bs w left = none) : ∀ b ∈ left, (bt bs b).down ≠ w := by
  intro b hb hw
  unfold headOf at h
  have hm : ((bt bs b).st, b) ∈ left.filterMap fun b => if (bt bs b).down = w then some ((bt bs b).st, b) else none := List.mem_filterMap.mpr ⟨b, hb, by rw [if_pos hw]⟩
  cases e : left.filterMap fun b => if (bt bs b).down = w then some ((bt bs b).st, b) else none with
  | nil => rw [e] at hm; cases hm
  | cons x r => rw [e] at h; cases h
theorem left_mem {p : Plan} {ord : List Nat} {b : Nat} : b ∈ leftOf p ord ↔ b < p.boats.length ∧ b ∉ ord := by
  unfold leftOf
  rw [List.mem_filter, List.mem_range]
  simp
theorem any_eN (ord : List Nat) (b : Nat) : (ord.map eN).any (fun z => PyData.eqv z (.int (b : Int))) = ord.contains b := by
  induction ord with
  | nil => rfl
  | cons a r ih =>
    rw [List.map_cons, List.any_cons, ih, List.contains_cons]
    congr 1
    have := eqv_eN a b
    show PyData.eqv (eN a) (eN b) = _
    rw [this]
    exact Bool.beq_comm
theorem flat_eN (ord : List Nat) : (ord.map eN).all flatD = true := by
  induction ord with
  | nil => rfl
  | cons a r ih => rw [List.map_cons, List.all_cons, ih]; rfl
theorem wS0 : (wS false : Str) = "up" := rfl
theorem wS1 : (wS true : Str) = "down" := rfl
theorem lc_left (p : Plan) (ord : List Nat) (h5 : p.boats.length ≤ 5) (x0 x1 x2 x5 x6 x7 x8 x9 x10 : Option Dt) (P : Dt → Prop) (h : P (.list ((leftOf p ord).map eN))) :
    dLc (iR1 (dCons (dCb sLen (dCons (dVar 3) dNil)) dNil)) (gN 9) (dB (dOp rNin (dVar 9) (dVar 4))) (dVar 9) [9] [x0, x1, x2, some (.tuple (p.boats.map eB)), some (.tuple (ord.map eN)), x5, x6, x7, x8, x9, x10] P := by
  simp [dLc, iR1, dCons, dNil, dCb, sLen, dVar]
  refine ⟨by unfold big; omega, ?_⟩
  unfold rngD
  refine lcW_map (fun (i : Nat) => PyData.int (0 + (i : Int))) (fun i => if ord.contains i = true then none else some (eN i)) _ [] _ (fun i hi R hR => ?_) (by simp [line]; omega) ?_
  · have f1 := flat_eN ord
    have f2 : flatD (.int (i : Int)) = true := rfl
    have f3 := any_eN ord i
    simp only [wipeR, gN, dB, dOp, dVar, rNin, onB, List.set_cons_zero, List.set_cons_succ, List.getElem?_cons_zero, List.getElem?_cons_succ, Int.zero_add]
    refine ⟨rfl, rfl, f2, f1, ?_⟩
    rw [f3]
    cases hc : ord.contains i
    · rw [hc] at hR
      exact ⟨rfl, hR⟩
    · rw [hc] at hR
      exact hR
  · have e : (List.range p.boats.length).filterMap (fun i => if ord.contains i = true then none else some (eN i)) = (leftOf p ord).map eN := by
      unfold leftOf
      induction (List.range p.boats.length) with
      | nil => rfl
      | cons a l ih =>
        rw [List.filterMap_cons, List.filter_cons, ih]
        cases hc : ord.contains a <;> rfl
    simp only [Int.toNat_natCast, List.nil_append]
    rw [e]
    exact h
theorem h_next_boat : Hs 11 3 sp_next_boat (t_next_boat sp_head_of sp_next_soon sp_earlier_start sp_row_behind) := by
  rintro ds Q _ ⟨p, r, n, rfl, pre, hleft, h⟩
  have ho := pre.run.1
  have len5 := pre.ok.len1
  have lo : OrdOk p.boats (leftOf p r.ord) := fun x hx => (left_mem.mp hx).1
  have ll : (leftOf p r.ord).length ≤ 1000 := by
    unfold leftOf
    exact Nat.le_trans (List.length_filter_le _ _) (by simp; omega)
  simp only [t_next_boat]
  simp [dSeq, dAsg, dTup, dCons, dNil, dOp, rIx_eP0, rIx_eP1, rIx_eP2, rIx_eRun0, rIx_eRun1, rIx_eRun2, rIx_eB0, rIx_eB1, rIx_eB2, rIx_eF0, rIx_eF1, rIx_eFF0, rIx_eFF1, gT_eRun, gT_eF, gT_eFF, wS_inj, st_bs, st_bf, st_fs, st_fb, st_sb, st_sf, dVar, dC, gTupD, gConsD, gN, gNilD, line, List.replicate]
  refine lc_left p r.ord len5 _ _ _ _ _ _ _ _ _ _ ?_
  simp [dLc, iT, onT, dTup, dCons, dNil, dC, wipeR, lcW, gN, dYes, dCall, dVar, line]
  refine ⟨p.boats, false, leftOf p r.ord, rfl, lo, ll, p.boats, true, leftOf p r.ord, rfl, lo, ll, ?_⟩
  unfold nextBoat at h
  cases ea : headOf p.boats false (leftOf p r.ord) with
  | none =>
    cases eb : headOf p.boats true (leftOf p r.ord) with
    | none =>
      obtain ⟨b, hb, hno⟩ := hleft
      have hm := left_mem.mpr ⟨hb, hno⟩
      have h1 := headOf_none ea b hm
      have h2 := headOf_none eb b hm
      cases e : (bt p.boats b).down
      · exact absurd e h1
      · exact absurd e h2
    | some b =>
      simp [ea, eb] at h
      simp [dRet, dSeq, dAsg, dIfS, dNext, dDrop, dPar, dTup, dLst, dCons, dNil, dOp, dUn, dVar, dC, dB, onB, onI, onL, onT, dAnd, dOr, dNot, dAndV, dOrV, dNotV, dIf, dChain, dCall, dCb, gN, gT_tup, gConsD, gNilD, rIx_tup, rIx_lst, rAdd, rSub, rMul, rFdv, rMod, rPow, rLt, rLe, rGt, rGe, rEq, rNe, rIs, rIsn, rIn, rNin, rNeg, dSl, dPart, dNo, cutD, sLen, sInt, sAbs, sMin2, sMax2, sTuple, dFor, iL, iT, line, PyData.eqv, PyData.eqvAll, eNO, lcW, eN] at h ⊢
      exact h
  | some a =>
    cases eb : headOf p.boats true (leftOf p r.ord) with
    | none =>
      simp [ea, eb] at h
      simp [dRet, dSeq, dAsg, dIfS, dNext, dDrop, dPar, dTup, dLst, dCons, dNil, dOp, dUn, dVar, dC, dB, onB, onI, onL, onT, dAnd, dOr, dNot, dAndV, dOrV, dNotV, dIf, dChain, dCall, dCb, gN, gT_tup, gConsD, gNilD, rIx_tup, rIx_lst, rAdd, rSub, rMul, rFdv, rMod, rPow, rLt, rLe, rGt, rGe, rEq, rNe, rIs, rIsn, rIn, rNin, rNeg, dSl, dPart, dNo, cutD, sLen, sInt, sAbs, sMin2, sMax2, sTuple, dFor, iL, iT, line, PyData.eqv, PyData.eqvAll, eNO, lcW, eN] at h ⊢
      exact h
    | some b =>
      have ha := headOf_mem ea
      have hb := headOf_mem eb
      have la := lo a ha.1
      have lb := lo b hb.1
      simp [ea, eb] at h
      simp [dVar, iL, onL, eNO, lcW, gN, dB, dOp, rIsn, onB, dC, line]
      cases er : p.rule with
      | soon =>
        simp [er] at h
        simp [dRet, dSeq, dAsg, dIfS, dNext, dDrop, dPar, dTup, dLst, dCons, dNil, dOp, dUn, dVar, dC, dB, onB, onI, onL, onT, dAnd, dOr, dNot, dAndV, dOrV, dNotV, dIf, dChain, dCall, dCb, gN, gT_tup, gConsD, gNilD, rIx_tup, rIx_lst, rAdd, rSub, rMul, rFdv, rMod, rPow, rLt, rLe, rGt, rGe, rEq, rNe, rIs, rIsn, rIn, rNin, rNeg, dSl, dPart, dNo, cutD, sLen, sInt, sAbs, sMin2, sMax2, sTuple, dFor, iL, iT, line, PyData.eqv, PyData.eqvAll, rIx_eP0, rIx_eP1, rIx_eP2, rIx_eRun0, rIx_eRun1, rIx_eRun2, rIx_eB0, rIx_eB1, rIx_eB2, rIx_eF0, rIx_eF1, rIx_eFF0, rIx_eFF1, gT_eRun, gT_eF, gT_eFF, wS_inj, st_bs, st_bf, st_fs, st_fb, st_sb, st_sf, er, eRu]
        exact ⟨p, r, a, b, n, rfl, pre, la, lb, h⟩
      | first =>
        simp [er] at h
        simp [dRet, dSeq, dAsg, dIfS, dNext, dDrop, dPar, dTup, dLst, dCons, dNil, dOp, dUn, dVar, dC, dB, onB, onI, onL, onT, dAnd, dOr, dNot, dAndV, dOrV, dNotV, dIf, dChain, dCall, dCb, gN, gT_tup, gConsD, gNilD, rIx_tup, rIx_lst, rAdd, rSub, rMul, rFdv, rMod, rPow, rLt, rLe, rGt, rGe, rEq, rNe, rIs, rIsn, rIn, rNin, rNeg, dSl, dPart, dNo, cutD, sLen, sInt, sAbs, sMin2, sMax2, sTuple, dFor, iL, iT, line, PyData.eqv, PyData.eqvAll, rIx_eP0, rIx_eP1, rIx_eP2, rIx_eRun0, rIx_eRun1, rIx_eRun2, rIx_eB0, rIx_eB1, rIx_eB2, rIx_eF0, rIx_eF1, rIx_eFF0, rIx_eFF1, gT_eRun, gT_eF, gT_eFF, wS_inj, st_bs, st_bf, st_fs, st_fb, st_sb, st_sf, er, eRu]
        refine ⟨p.boats, [a, b], rfl, ?_, by simp, by simp, ?_⟩
        · intro x hx
          rcases List.mem_cons.mp hx with e | hx
          · rw [e]; exact la
          · rw [List.mem_singleton.mp hx]; exact lb
        · simp
          exact h
      | batch m =>
        cases el : r.ord.getLast? with
        | none =>
          have hn := List.getLast?_eq_none_iff.mp el
          simp [er, el] at h
          simp [dRet, dSeq, dAsg, dIfS, dNext, dDrop, dPar, dTup, dLst, dCons, dNil, dOp, dUn, dVar, dC, dB, onB, onI, onL, onT, dAnd, dOr, dNot, dAndV, dOrV, dNotV, dIf, dChain, dCall, dCb, gN, gT_tup, gConsD, gNilD, rIx_tup, rIx_lst, rAdd, rSub, rMul, rFdv, rMod, rPow, rLt, rLe, rGt, rGe, rEq, rNe, rIs, rIsn, rIn, rNin, rNeg, dSl, dPart, dNo, cutD, sLen, sInt, sAbs, sMin2, sMax2, sTuple, dFor, iL, iT, line, PyData.eqv, PyData.eqvAll, rIx_eP0, rIx_eP1, rIx_eP2, rIx_eRun0, rIx_eRun1, rIx_eRun2, rIx_eB0, rIx_eB1, rIx_eB2, rIx_eF0, rIx_eF1, rIx_eFF0, rIx_eFF1, gT_eRun, gT_eF, gT_eFF, wS_inj, st_bs, st_bf, st_fs, st_fb, st_sb, st_sf, er, eRu, hn]
          refine ⟨p.boats, [a, b], rfl, ?_, by simp, by simp, ?_⟩
          · intro x hx
            rcases List.mem_cons.mp hx with e | hx
            · rw [e]; exact la
            · rw [List.mem_singleton.mp hx]; exact lb
          · simp
            exact h
        | some l =>
          have hn : r.ord ≠ [] := fun z => by rw [z] at el; cases el
          have lL := ho.last el
          simp [er, el] at h
          have nab : a ≠ b := fun z => by rw [z, hb.2] at ha; cases ha.2
          simp [dRet, dSeq, dAsg, dIfS, dNext, dDrop, dPar, dTup, dLst, dCons, dNil, dOp, dUn, dVar, dC, dB, onB, onI, onL, onT, dAnd, dOr, dNot, dAndV, dOrV, dNotV, dIf, dChain, dCall, dCb, gN, gT_tup, gConsD, gNilD, rIx_tup, rIx_lst, rAdd, rSub, rMul, rFdv, rMod, rPow, rLt, rLe, rGt, rGe, rEq, rNe, rIs, rIsn, rIn, rNin, rNeg, dSl, dPart, dNo, cutD, sLen, sInt, sAbs, sMin2, sMax2, sTuple, dFor, iL, iT, line, PyData.eqv, PyData.eqvAll, rIx_eP0, rIx_eP1, rIx_eP2, rIx_eRun0, rIx_eRun1, rIx_eRun2, rIx_eB0, rIx_eB1, rIx_eB2, rIx_eF0, rIx_eF1, rIx_eFF0, rIx_eFF1, gT_eRun, gT_eF, gT_eFF, wS_inj, st_bs, st_bf, st_fs, st_fb, st_sb, st_sf, er, eRu, hn, eqvAll_nil, dLc, lcW, wipeR, rIx_bt la, rIx_bt lb, rIx_bt lL, rIx_lastN el, ha.2, hb.2, nab, nab.symm]
          cases dl : (bt p.boats l).down
          · simp [dl] at h ⊢
            refine ⟨p.boats, r.ord, rfl, ho, ?_⟩
            simp [eN] at h ⊢
            by_cases hm : (rowBehind p.boats r.ord : Int) < m
            · simp [hm] at h ⊢; exact h
            · simp [hm] at h ⊢; exact h
          · simp [dl] at h ⊢
            refine ⟨p.boats, r.ord, rfl, ho, ?_⟩
            simp [eN] at h ⊢
            by_cases hm : (rowBehind p.boats r.ord : Int) < m
            · simp [hm] at h ⊢; exact h
            · simp [hm] at h ⊢; exact h
end DL
namespace DL
open PySem PySem.Spec PyProof.Rows L2 LamX
/-! Runs; the forms by boats. -/
def runStep (p : Plan) (n : Int) (r : Run) : Run :=
  ⟨r.ord ++ [(nextBoat p r n).1], r.tim ++ [((topForm (bounds p r (nextBoat p r n).1) n).1, fadd (topForm (bounds p r (nextBoat p r n).1) n).1 (stepOf p r.ord (nextBoat p r n).1, 0))], r.ask ++ (nextBoat p r n).2 ++ (topForm (bounds p r (nextBoat p r n).1) n).2⟩
def runK (p : Plan) (n : Int) : Nat → Run → Run
  | 0, r => r
  | k + 1, r => runK p n k (runStep p n r)
def run0 : Run := ⟨[], [], []⟩
def runWith (p : Plan) (n : Int) : Run := runK p n p.boats.length run0
structure RunInv (p : Plan) (r : Run) (k : Nat) : Prop where
  nd : r.ord.Nodup
  ok : OrdOk p.boats r.ord
  lo : r.ord.length = k
  lt : r.tim.length = k
  cap : RunCap r (16 * k)
  ask : r.ask.length ≤ 100 * k
theorem inv0 (p : Plan) : RunInv p run0 0 := ⟨List.nodup_nil, fun _ h => absurd h (List.not_mem_nil), rfl, rfl, fun _ h => absurd h (List.not_mem_nil), Nat.zero_le _⟩
theorem room_left {m : Nat} {l : List Nat} (nd : l.Nodup) (h : l.length < m) : ∃ b, b < m ∧ b ∉ l := by
  apply Classical.byContradiction
  intro hn
  have hs : List.range m ⊆ l := fun b hb => Classical.byContradiction fun hc => hn ⟨b, List.mem_range.mp hb, hc⟩
  have := (List.nodup_range (n := m)).length_le_of_subset hs
  rw [List.length_range] at this
  omega
theorem full_ord {m : Nat} {l : List Nat} (nd : l.Nodup) (hl : l.length = m) (ok : ∀ x ∈ l, x < m) {b : Nat} (hb : b < m) : b ∈ l := by
  apply Classical.byContradiction
  intro hn
  have nd2 : (b :: l).Nodup := List.nodup_cons.mpr ⟨hn, nd⟩
  have hs : (b :: l) ⊆ List.range m := fun x hx => by
    rcases List.mem_cons.mp hx with e | hx
    · rw [e]; exact List.mem_range.mpr hb
    · exact List.mem_range.mpr (ok x hx)
  have := nd2.length_le_of_subset hs
  rw [List.length_range, List.length_cons] at this
  omega
theorem earlier_mem {bs : List Boat} {l : List Nat} (h : l ≠ []) : earlier bs l ∈ l := by
  unfold earlier
  cases e : firstP (l.map fun b => ((bt bs b).st, b)) with
  | none =>
    cases l with
    | nil => exact absurd rfl h
    | cons a r => cases e
  | some x =>
    obtain ⟨b, hb, hx⟩ := List.mem_map.mp (firstP_mem e)
    show x.2 ∈ l
    rw [← hx]
    exact hb
theorem nextSoon_mem (p : Plan) (r : Run) (n : Int) (a b : Nat) : (nextSoon p r n a b).1 = a ∨ (nextSoon p r n a b).1 = b := by
  unfold nextSoon
  split
  · show (if sgn (gapOf p r n a b) n < 0 then a else b) = a ∨ _
    split
    · exact .inl rfl
    · exact .inr rfl
  · simp only
    cases ea : sameWay p r a <;> cases eb : sameWay p r b <;> simp [List.filter, ea, eb]
    · exact (Nat.le_total a b).elim (fun h => .inl (Nat.min_eq_left h)) fun h => .inr (Nat.min_eq_right h)
theorem nextBoat_mem {p : Plan} {r : Run} (n : Int) (hl : ∃ b, b < p.boats.length ∧ b ∉ r.ord) : (nextBoat p r n).1 ∈ leftOf p r.ord := by
  unfold nextBoat
  cases ea : headOf p.boats false (leftOf p r.ord) with
  | none =>
    cases eb : headOf p.boats true (leftOf p r.ord) with
    | none =>
      obtain ⟨b, hb, hno⟩ := hl
      have hm := left_mem.mpr ⟨hb, hno⟩
      have h1 := headOf_none ea b hm
      have h2 := headOf_none eb b hm
      cases e : (bt p.boats b).down
      · exact absurd e h1
      · exact absurd e h2
    | some b => exact (headOf_mem eb).1
  | some a =>
    have ma := (headOf_mem ea).1
    cases eb : headOf p.boats true (leftOf p r.ord) with
    | none => exact ma
    | some b =>
      have mb := (headOf_mem eb).1
      have he : earlier p.boats [a, b] ∈ leftOf p r.ord := by
        have := earlier_mem (bs := p.boats) (l := [a, b]) (by simp)
        rcases List.mem_cons.mp this with e | e
        · rw [e]; exact ma
        · rw [List.mem_singleton.mp e]; exact mb
      cases er : p.rule with
      | first => exact he
      | soon =>
        rcases nextSoon_mem p r n a b with e | e
        · show (nextSoon p r n a b).1 ∈ _; rw [e]; exact ma
        · show (nextSoon p r n a b).1 ∈ _; rw [e]; exact mb
      | batch m =>
        cases el : r.ord.getLast? with
        | none => exact he
        | some l =>
          show (if (rowBehind p.boats r.ord : Int) < m then (if (bt p.boats l).down = false then a else b) else (if (bt p.boats l).down = false then b else a)) ∈ _
          split <;> split <;> assumption
theorem nextBoat_ask (p : Plan) (r : Run) (n : Int) : (nextBoat p r n).2.length ≤ 7 := by
  unfold nextBoat
  have hs : ∀ a b, (nextSoon p r n a b).2.length ≤ 7 := fun a b => by
    have h1 := Nat.le_trans (top_len (bounds p r a) n) (bounds_len p r a)
    have h2 := Nat.le_trans (top_len (bounds p r b) n) (bounds_len p r b)
    show ((topForm (bounds p r a) n).2 ++ (topForm (bounds p r b) n).2 ++ [gapOf p r n a b]).length ≤ 7
    simp
    omega
  split
  · exact Nat.zero_le _
  · exact Nat.zero_le _
  · exact Nat.zero_le _
  · split
    · exact hs _ _
    · exact Nat.zero_le _
    · split <;> exact Nat.zero_le _
theorem RunInv.pre {p : Plan} {r : Run} {k : Nat} (ok : p.Ok) (i : RunInv p r k) (h : k ≤ p.boats.length) : RunPre p r := by
  have := ok.len1
  refine ⟨ok, ⟨i.ok, i.lt.trans i.lo.symm⟩, fun t ht => ?_⟩
  have := i.cap t ht
  unfold DL.cap at this ⊢
  omega
theorem RunInv.next {p : Plan} {r : Run} {k : Nat} (ok : p.Ok) (n : Int) (i : RunInv p r k) (h : k < p.boats.length) : RunInv p (runStep p n r) (k + 1) := by
  have hl := room_left i.nd (m := p.boats.length) (by rw [i.lo]; exact h)
  have hm := left_mem.mp (nextBoat_mem n hl)
  have hb := bounds_cap ok i.cap hm.1 _ (top_mem (bounds_ne p r (nextBoat p r n).1) n)
  have hs := step_le ok (ord := r.ord) hm.1
  have l1 := Nat.le_trans (top_len (bounds p r (nextBoat p r n).1) n) (bounds_len p r (nextBoat p r n).1)
  have l2 := nextBoat_ask p r n
  refine ⟨?_, ?_, ?_, ?_, ?_, ?_⟩
  · show (r.ord ++ [_]).Nodup
    rw [List.nodup_append]
    refine ⟨i.nd, by simp, fun a ha b hb => ?_⟩
    rw [List.mem_singleton] at hb
    subst hb
    exact fun z => hm.2 (by rw [← z]; exact ha)
  · intro x hx
    rcases List.mem_append.mp hx with hx | hx
    · exact i.ok x hx
    · rw [List.mem_singleton] at hx; subst hx; exact hm.1
  · show (r.ord ++ [_]).length = k + 1; rw [List.length_append, i.lo]; rfl
  · show (r.tim ++ [_]).length = k + 1; rw [List.length_append, i.lt]; rfl
  · intro t ht
    rcases List.mem_append.mp ht with ht | ht
    · have := i.cap t ht
      unfold DL.cap at this ⊢
      omega
    · rw [List.mem_singleton] at ht
      subst ht
      unfold DL.cap at hb ⊢
      refine ⟨by show ((topForm (bounds p r (nextBoat p r n).1) n).1.1).natAbs ≤ _; omega, ?_⟩
      show ((topForm (bounds p r (nextBoat p r n).1) n).1.1 + stepOf p r.ord (nextBoat p r n).1).natAbs ≤ _
      omega
  · show (r.ask ++ _ ++ _).length ≤ _
    have := i.ask
    rw [List.length_append, List.length_append]
    omega
theorem runK_inv {p : Plan} (ok : p.Ok) (n : Int) : ∀ (j k : Nat) (r : Run), RunInv p r k → k + j = p.boats.length → RunInv p (runK p n j r) p.boats.length
  | 0, k, r, i, h => by
    have : k = p.boats.length := by omega
    subst this
    exact i
  | j + 1, k, r, i, h => runK_inv ok n j (k + 1) (runStep p n r) (i.next ok n (by omega)) (by omega)
theorem runWith_inv {p : Plan} (ok : p.Ok) (n : Int) : RunInv p (runWith p n) p.boats.length := runK_inv ok n p.boats.length 0 run0 (inv0 p) (by omega)
def sp_run_with : DSp := fun ds P => ∃ (p : Plan) (n : Int), ds = [eP p, .int n] ∧ p.Ok ∧ P (eRun (runWith p n))
theorem loop_run {p : Plan} (ok : p.Ok) (n : Int) (Q : Dt → Prop) : ∀ (l : List Dt) (k : Nat) (r : Run) (o3 o4 o5 o6 o7 o8 : Option Dt), RunInv p r k → k + l.length = p.boats.length → Q (eRun (runK p n l.length r)) →
    forW (gN 3) (dSeq (dAsg (dCall 3 sp_next_boat (dCons (dVar 0) (dCons (dVar 2) (dCons (dVar 1) dNil)))) (gTupD 2 (gConsD (gN 4) (gConsD (gN 5) gNilD))))
      (dSeq (dAsg (dCall 2 sp_top_form (dCons (dCall 3 sp_bounds_of (dCons (dVar 0) (dCons (dVar 2) (dCons (dVar 4) dNil)))) (dCons (dVar 1) dNil))) (gTupD 2 (gConsD (gN 6) (gConsD (gN 7) gNilD))))
      (dSeq (dAsg (dCall 2 sp_added (dCons (dVar 6) (dCons (dTup (dCons (dCall 3 sp_step_of (dCons (dVar 0) (dCons (dOp rIx (dVar 2) (dC (.int 0))) (dCons (dVar 4) dNil)))) (dCons (dC (.int 0)) dNil))) dNil))) (gN 8))
      (dAsg (dTup (dCons (dOp rAdd (dOp rIx (dVar 2) (dC (.int 0))) (dTup (dCons (dVar 4) dNil))) (dCons (dOp rAdd (dOp rIx (dVar 2) (dC (.int 1))) (dTup (dCons (dTup (dCons (dVar 6) (dCons (dVar 8) dNil))) dNil))) (dCons (dOp rAdd (dOp rAdd (dOp rIx (dVar 2) (dC (.int 2))) (dVar 5)) (dVar 7)) dNil)))) (gN 2)))))
      l { nx := dRet (dVar 2) { nx := fun _ => Q .none, rt := Q }, rt := Q } [some (eP p), some (.int n), some (eRun r), o3, o4, o5, o6, o7, o8]
  | [], k, r, o3, o4, o5, o6, o7, o8, i, hk, h => by
    simp [forW, dRet, dSeq, dAsg, dIfS, dNext, dDrop, dPar, dTup, dLst, dCons, dNil, dOp, dUn, dVar, dC, dB, onB, onI, onL, onT, dAnd, dOr, dNot, dAndV, dOrV, dNotV, dIf, dChain, dCall, dCb, gN, gT_tup, gConsD, gNilD, rIx_tup, rIx_lst, rAdd, rSub, rMul, rFdv, rMod, rPow, rLt, rLe, rGt, rGe, rEq, rNe, rIs, rIsn, rIn, rNin, rNeg, dSl, dPart, dNo, cutD, sLen, sInt, sAbs, sMin2, sMax2, sTuple, dFor, iL, iT, line, PyData.eqv, PyData.eqvAll] at h ⊢
    exact h
  | d :: l, k, r, o3, o4, o5, o6, o7, o8, i, hk, h => by
    have hk' : k < p.boats.length := by simp at hk; omega
    have pre := i.pre ok (Nat.le_of_lt hk')
    have hl := room_left i.nd (m := p.boats.length) (by rw [i.lo]; exact hk')
    have hm := left_mem.mp (nextBoat_mem n hl)
    have l1 := Nat.le_trans (top_len (bounds p r (nextBoat p r n).1) n) (bounds_len p r (nextBoat p r n).1)
    have l2 := nextBoat_ask p r n
    have h5 := ok.len1
    have ia := i.ask
    have io := i.lo
    have it := i.lt
    simp [forW, dRet, dSeq, dAsg, dIfS, dNext, dDrop, dPar, dTup, dLst, dCons, dNil, dOp, dUn, dVar, dC, dB, onB, onI, onL, onT, dAnd, dOr, dNot, dAndV, dOrV, dNotV, dIf, dChain, dCall, dCb, gN, gT_tup, gConsD, gNilD, rIx_tup, rIx_lst, rAdd, rSub, rMul, rFdv, rMod, rPow, rLt, rLe, rGt, rGe, rEq, rNe, rIs, rIsn, rIn, rNin, rNeg, dSl, dPart, dNo, cutD, sLen, sInt, sAbs, sMin2, sMax2, sTuple, dFor, iL, iT, line, PyData.eqv, PyData.eqvAll, rIx_eP0, rIx_eP1, rIx_eP2, rIx_eRun0, rIx_eRun1, rIx_eRun2, rIx_eB0, rIx_eB1, rIx_eB2, rIx_eF0, rIx_eF1, rIx_eFF0, rIx_eFF1, gT_eRun, gT_eF, gT_eFF, wS_inj, st_bs, st_bf, st_fs, st_fb, st_sb, st_sf]
    refine ⟨p, r, n, rfl, pre, hl, ?_⟩
    simp [dRet, dSeq, dAsg, dIfS, dNext, dDrop, dPar, dTup, dLst, dCons, dNil, dOp, dUn, dVar, dC, dB, onB, onI, onL, onT, dAnd, dOr, dNot, dAndV, dOrV, dNotV, dIf, dChain, dCall, dCb, gN, gT_tup, gConsD, gNilD, rIx_tup, rIx_lst, rAdd, rSub, rMul, rFdv, rMod, rPow, rLt, rLe, rGt, rGe, rEq, rNe, rIs, rIsn, rIn, rNin, rNeg, dSl, dPart, dNo, cutD, sLen, sInt, sAbs, sMin2, sMax2, sTuple, dFor, iL, iT, line, PyData.eqv, PyData.eqvAll, rIx_eP0, rIx_eP1, rIx_eP2, rIx_eRun0, rIx_eRun1, rIx_eRun2, rIx_eB0, rIx_eB1, rIx_eB2, rIx_eF0, rIx_eF1, rIx_eFF0, rIx_eFF1, gT_eRun, gT_eF, gT_eFF, wS_inj, st_bs, st_bf, st_fs, st_fb, st_sb, st_sf]
    refine ⟨p, r, (nextBoat p r n).1, rfl, hm.1, pre.run, bounds_sp pre hm.1 n ?_⟩
    simp [dRet, dSeq, dAsg, dIfS, dNext, dDrop, dPar, dTup, dLst, dCons, dNil, dOp, dUn, dVar, dC, dB, onB, onI, onL, onT, dAnd, dOr, dNot, dAndV, dOrV, dNotV, dIf, dChain, dCall, dCb, gN, gT_tup, gConsD, gNilD, rIx_tup, rIx_lst, rAdd, rSub, rMul, rFdv, rMod, rPow, rLt, rLe, rGt, rGe, rEq, rNe, rIs, rIsn, rIn, rNin, rNeg, dSl, dPart, dNo, cutD, sLen, sInt, sAbs, sMin2, sMax2, sTuple, dFor, iL, iT, line, PyData.eqv, PyData.eqvAll, rIx_eP0, rIx_eP1, rIx_eP2, rIx_eRun0, rIx_eRun1, rIx_eRun2, rIx_eB0, rIx_eB1, rIx_eB2, rIx_eF0, rIx_eF1, rIx_eFF0, rIx_eFF1, gT_eRun, gT_eF, gT_eFF, wS_inj, st_bs, st_bf, st_fs, st_fb, st_sb, st_sf]
    refine ⟨p, r.ord, (nextBoat p r n).1, rfl, hm.1, pre.run.1, (topForm (bounds p r (nextBoat p r n).1) n).1, (stepOf p r.ord (nextBoat p r n).1, 0), rfl, ?_⟩
    simp [dRet, dSeq, dAsg, dIfS, dNext, dDrop, dPar, dTup, dLst, dCons, dNil, dOp, dUn, dVar, dC, dB, onB, onI, onL, onT, dAnd, dOr, dNot, dAndV, dOrV, dNotV, dIf, dChain, dCall, dCb, gN, gT_tup, gConsD, gNilD, rIx_tup, rIx_lst, rAdd, rSub, rMul, rFdv, rMod, rPow, rLt, rLe, rGt, rGe, rEq, rNe, rIs, rIsn, rIn, rNin, rNeg, dSl, dPart, dNo, cutD, sLen, sInt, sAbs, sMin2, sMax2, sTuple, dFor, iL, iT, line, PyData.eqv, PyData.eqvAll, rIx_eP0, rIx_eP1, rIx_eP2, rIx_eRun0, rIx_eRun1, rIx_eRun2, rIx_eB0, rIx_eB1, rIx_eB2, rIx_eF0, rIx_eF1, rIx_eFF0, rIx_eFF1, gT_eRun, gT_eF, gT_eFF, wS_inj, st_bs, st_bf, st_fs, st_fb, st_sb, st_sf]
    refine ⟨by omega, by omega, by omega, by omega, ?_⟩
    have ih := loop_run ok n Q l (k + 1) (runStep p n r) (some d) (some (eN (nextBoat p r n).1)) (some (.tuple ((nextBoat p r n).2.map eF))) (some (eF (topForm (bounds p r (nextBoat p r n).1) n).1)) (some (.tuple ((topForm (bounds p r (nextBoat p r n).1) n).2.map eF))) (some (eF (fadd (topForm (bounds p r (nextBoat p r n).1) n).1 (stepOf p r.ord (nextBoat p r n).1, 0)))) (i.next ok n hk') (by simp at hk; omega) h
    simp [dRet, dSeq, dAsg, dIfS, dNext, dDrop, dPar, dTup, dLst, dCons, dNil, dOp, dUn, dVar, dC, dB, onB, onI, onL, onT, dAnd, dOr, dNot, dAndV, dOrV, dNotV, dIf, dChain, dCall, dCb, gN, gT_tup, gConsD, gNilD, rIx_tup, rIx_lst, rAdd, rSub, rMul, rFdv, rMod, rPow, rLt, rLe, rGt, rGe, rEq, rNe, rIs, rIsn, rIn, rNin, rNeg, dSl, dPart, dNo, cutD, sLen, sInt, sAbs, sMin2, sMax2, sTuple, dFor, iL, iT, line, PyData.eqv, PyData.eqvAll, rIx_eP0, rIx_eP1, rIx_eP2, rIx_eRun0, rIx_eRun1, rIx_eRun2, rIx_eB0, rIx_eB1, rIx_eB2, rIx_eF0, rIx_eF1, rIx_eFF0, rIx_eFF1, gT_eRun, gT_eF, gT_eFF, wS_inj, st_bs, st_bf, st_fs, st_fb, st_sb, st_sf, runStep, eRun, eFF] at ih ⊢
    exact ih
theorem h_run_with : Hs 9 2 sp_run_with (t_run_with sp_next_boat sp_top_form sp_bounds_of sp_added sp_step_of) := by
  rintro ds Q _ ⟨p, n, rfl, ok, h⟩
  have h5 := ok.len1
  have := loop_run ok n Q (rngD 0 p.boats.length) 0 run0 none none none none none none (inv0 p) (by rw [rngD_len]; omega) (by rw [rngD_len]; exact h)
  simp [t_run_with, dRet, dSeq, dAsg, dIfS, dNext, dDrop, dPar, dTup, dLst, dCons, dNil, dOp, dUn, dVar, dC, dB, onB, onI, onL, onT, dAnd, dOr, dNot, dAndV, dOrV, dNotV, dIf, dChain, dCall, dCb, gN, gT_tup, gConsD, gNilD, rIx_tup, rIx_lst, rAdd, rSub, rMul, rFdv, rMod, rPow, rLt, rLe, rGt, rGe, rEq, rNe, rIs, rIsn, rIn, rNin, rNeg, dSl, dPart, dNo, cutD, sLen, sInt, sAbs, sMin2, sMax2, sTuple, dFor, iL, iT, line, PyData.eqv, PyData.eqvAll, rIx_eP0, rIx_eP1, rIx_eP2, rIx_eRun0, rIx_eRun1, rIx_eRun2, rIx_eB0, rIx_eB1, rIx_eB2, rIx_eF0, rIx_eF1, rIx_eFF0, rIx_eFF1, gT_eRun, gT_eF, gT_eFF, wS_inj, st_bs, st_bf, st_fs, st_fb, st_sb, st_sf, List.replicate, iR1, eRun, run0] at this ⊢
  exact ⟨by unfold big; omega, this⟩
end DL
namespace DL
open PySem PySem.Spec PyProof.Rows L2 LamX
/-! The forms by boats; until; ends. -/
def timeAt (r : Run) (b : Nat) : Form × Form := match (r.ord.zip r.tim).find? (fun q => q.1 == b) with
  | some q => q.2
  | none => ((0, 0), (0, 0))
def formsOf (r : Run) : List (Form × Form) := (List.range r.ord.length).map (timeAt r)
def eZ (q : Nat × (Form × Form)) : Dt := .tuple [eN q.1, eFF q.2]
structure RunAll (p : Plan) (r : Run) : Prop where
  nd : r.ord.Nodup
  lo : r.ord.length = p.boats.length
  lt : r.tim.length = p.boats.length
  ok : ∀ x ∈ r.ord, x < p.boats.length
theorem runWith_all {p : Plan} (ok : p.Ok) (n : Int) : RunAll p (runWith p n) := let i := runWith_inv ok n; ⟨i.nd, i.lo, i.lt, i.ok⟩
def sp_forms_in : DSp := fun ds P => ∃ (p : Plan) (r : Run), ds = [eRun r] ∧ RunAll p r ∧ p.boats.length ≤ 5 ∧ P (.tuple ((formsOf r).map eFF))
theorem alike_eFF (a b : Form × Form) : PySem.W.alike (eFF a) (eFF b) = true := rfl
theorem alike_eZ (a b : Nat × (Form × Form)) : PySem.W.alike (eZ a) (eZ b) = true := rfl
theorem eqv_refl_eF (f : Form) : PyData.eqv (eF f) (eF f) = true := by simp [eF, PyData.eqv, PyData.eqvAll]
theorem eqv_refl_eFF (f : Form × Form) : PyData.eqv (eFF f) (eFF f) = true := by simp [eFF, PyData.eqv, PyData.eqvAll, eqv_refl_eF]
theorem dataLt_int (i j : Int) : PySem.W.dataLt (.int i) (.int j) = decide (i < j) := by
  have h := congrFun (congrFun (PySem.W.dataLe_int (fun i : Int => i)) j) i
  rw [PySem.W.dataLe_eq] at h
  have h' : (!PySem.W.dataLt (.int i) (.int j)) = decide (j ≤ i) := h
  have e : PySem.W.dataLt (.int i) (.int j) = !decide (j ≤ i) := by rw [← h', Bool.not_not]
  rw [e, ← decide_not]
  apply decide_eq_decide.mpr
  omega
theorem dataLe_eZ {l : List (Nat × (Form × Form))} (nd : (l.map (·.1)).Nodup) : ∀ a ∈ l, ∀ b ∈ l, decide (a.1 ≤ b.1) = PySem.W.dataLe false id (eZ a) (eZ b) := by
  intro a ha b hb
  rw [PySem.W.dataLe_eq]
  show decide (a.1 ≤ b.1) = !PySem.W.dataLt (eZ b) (eZ a)
  unfold eZ
  rw [PySem.W.dataLt_pair rfl (alike_eFF _ _), eqv_eN]
  by_cases h : b.1 = a.1
  · have hab : a = b := by
      obtain ⟨i, hi, ei⟩ := List.mem_iff_getElem.mp ha
      obtain ⟨j, hj, ej⟩ := List.mem_iff_getElem.mp hb
      have hij : i = j := by
        have h1 : (l.map (·.1))[i]'(by simpa using hi) = (l.map (·.1))[j]'(by simpa using hj) := by simp [ei, ej, h]
        exact (List.getElem_inj nd).mp h1
      subst hij
      rw [← ei, ← ej]
    subst hab
    rw [if_pos (by simp), if_pos (eqv_refl_eFF _)]
    simp
  · rw [if_neg (by simpa using h)]
    show _ = !PySem.W.dataLt (.int (b.1 : Int)) (.int (a.1 : Int))
    rw [dataLt_int, ← decide_not]
    apply decide_eq_decide.mpr
    omega
theorem zip_fst {α β : Type} : ∀ {l : List α} {m : List β}, l.length = m.length → (l.zip m).map (·.1) = l
  | [], [], _ => rfl
  | a :: l, b :: m, h => by
    rw [List.zip_cons_cons, List.map_cons, zip_fst (by simpa using h)]
theorem find_fst {l : List (Nat × (Form × Form))} (nd : (l.map (·.1)).Nodup) {q : Nat × (Form × Form)} (hq : q ∈ l) : l.find? (fun z => z.1 == q.1) = some q := by
  induction l with
  | nil => cases hq
  | cons a r ih =>
    rw [List.map_cons, List.nodup_cons] at nd
    rw [List.find?_cons]
    by_cases h : a.1 = q.1
    · rw [beq_iff_eq.mpr h]
      rcases List.mem_cons.mp hq with e | hq
      · rw [e]
      · exact absurd (List.mem_map.mpr ⟨q, hq, h.symm⟩) nd.1
    · rw [beq_eq_false_iff_ne.mpr h]
      rcases List.mem_cons.mp hq with e | hq
      · exact absurd (by rw [e]) h
      · exact ih nd.2 hq
theorem RunAll.nd1 {p : Plan} {r : Run} (a : RunAll p r) : ((r.ord.zip r.tim).map (·.1)).Nodup := by
  rw [zip_fst (a.lo.trans a.lt.symm)]
  exact a.nd
theorem RunAll.time {p : Plan} {r : Run} (a : RunAll p r) {q : Nat × (Form × Form)} (hq : q ∈ r.ord.zip r.tim) : timeAt r q.1 = q.2 := by
  unfold timeAt
  rw [find_fst a.nd1 hq]
theorem RunAll.mem {p : Plan} {r : Run} (a : RunAll p r) {b : Nat} (hb : b < p.boats.length) : (b, timeAt r b) ∈ r.ord.zip r.tim := by
  have hm := full_ord a.nd a.lo a.ok hb
  rw [← zip_fst (a.lo.trans a.lt.symm)] at hm
  obtain ⟨q, hq, e⟩ := List.mem_map.mp hm
  subst e
  rw [a.time hq]
  exact hq
theorem nodup_of_fst {l : List (Nat × (Form × Form))} (nd : (l.map (·.1)).Nodup) : l.Nodup := by
  induction l with
  | nil => exact List.nodup_nil
  | cons a r ih =>
    rw [List.map_cons, List.nodup_cons] at nd
    exact List.nodup_cons.mpr ⟨fun h => nd.1 (List.mem_map.mpr ⟨a, h, rfl⟩), ih nd.2⟩
theorem RunAll.sorted {p : Plan} {r : Run} (a : RunAll p r) : (r.ord.zip r.tim).mergeSort (fun x y => decide (x.1 ≤ y.1)) = (List.range r.ord.length).map fun b => (b, timeAt r b) := by
  have hp := List.mergeSort_perm (r.ord.zip r.tim) (fun x y => decide (x.1 ≤ y.1))
  have hs := List.pairwise_mergeSort (le := fun (x y : Nat × (Form × Form)) => decide (x.1 ≤ y.1)) (fun a b c h g => by
    simp only [decide_eq_true_eq] at *
    omega) (fun a b => by
    simp only [Bool.or_eq_true, decide_eq_true_eq]
    omega) (r.ord.zip r.tim)
  have np : (r.ord.zip r.tim).Perm ((List.range r.ord.length).map fun b => (b, timeAt r b)) := by
    have nd2 : ((List.range r.ord.length).map fun b => (b, timeAt r b)).Nodup := nodup_of_fst (by
      rw [List.map_map]
      have : ((fun x : Nat × (Form × Form) => x.1) ∘ fun b => (b, timeAt r b)) = id := rfl
      rw [this, List.map_id]
      exact List.nodup_range)
    refine (List.perm_ext_iff_of_nodup (nodup_of_fst a.nd1) nd2).mpr fun q => ⟨fun hq => ?_, fun hq => ?_⟩
    · refine List.mem_map.mpr ⟨q.1, List.mem_range.mpr ?_, by rw [a.time hq]⟩
      rw [a.lo]
      exact a.ok _ (List.of_mem_zip hq).1
    · obtain ⟨b, hb, e⟩ := List.mem_map.mp hq
      rw [← e]
      exact a.mem (by rw [← a.lo]; exact List.mem_range.mp hb)
  refine List.Perm.eq_of_pairwise (le := fun x y => x.1 ≤ y.1) (fun x y hx hy h1 h2 => ?_) (hs.imp fun h => by simpa using h) ?_ (hp.trans np)
  · have hx' := hp.mem_iff.mp hx
    obtain ⟨b, hb, e⟩ := List.mem_map.mp hy
    have e1 : x.1 = y.1 := by omega
    have := a.time hx'
    rw [← e] at e1 ⊢
    exact Prod.ext e1 (by rw [← this, e1])
  · rw [List.pairwise_map]
    exact (List.pairwise_lt_range).imp fun h => Nat.le_of_lt h
theorem zipD_eZ (l : List Nat) (m : List (Form × Form)) : zipD (l.map eN) (m.map eFF) = (l.zip m).map eZ := by
  unfold zipD
  rw [List.zip_map, List.map_map]
  rfl
theorem gd_eFF (q : Form × Form) : Gd 2 (eFF q) := Gd.tup (GdA.cons (gd_eF _) (GdA.cons (gd_eF _) GdA.nil))
theorem gd_eZ (q : Nat × (Form × Form)) : Gd 3 (eZ q) := Gd.tup (GdA.cons ((Gd.int _).mono (by decide)) (GdA.cons (gd_eFF _) GdA.nil))
theorem nl_map {α : Type} {f : α → Dt} (h : ∀ a, nolst (f a) = true) : ∀ l : List α, nolstAll (l.map f) = true
  | [] => rfl
  | a :: l => by
    show (nolst (f a) && nolstAll (l.map f)) = true
    rw [h a, nl_map h l]; rfl
theorem h_forms_in : Hs 3 1 sp_forms_in t_forms_in := by
  rintro ds Q _ ⟨p, r, rfl, a, h5, h⟩
  simp [t_forms_in, dRet, dCb, dCons, dNil, dLc, iL, dSortZ, dOp, dVar, dC, rIx_eP0, rIx_eP1, rIx_eP2, rIx_eRun0, rIx_eRun1, rIx_eRun2, rIx_eB0, rIx_eB1, rIx_eB2, rIx_eF0, rIx_eF1, rIx_eFF0, rIx_eFF1, gT_eRun, gT_eF, gT_eFF, wS_inj, st_bs, st_bf, st_fs, st_fb, st_sb, st_sf, List.replicate]
  have hlen : r.ord.length = r.tim.length := a.lo.trans a.lt.symm
  have h6 := a.lo
  have hz : (r.ord.zip r.tim).length ≤ line := by
    rw [List.length_zip]
    unfold line
    omega
  rw [zipD_eZ]
  refine ⟨hlen, by unfold line; omega, (GdA.map (n := 3) fun q _ => gd_eZ q).1, nl_map (fun _ => rfl) _, PySem.W.AllAlike.of fun b b' => alike_eZ b b', fun x hx => ?_, ?_⟩
  · obtain ⟨q, _, rfl⟩ := List.mem_map.mp hx
    exact Nat.le_trans (gd_eZ q).2 (by decide)
  · rw [← List.map_mergeSort (dataLe_eZ a.nd1), a.sorted]
    simp only [onL, wipeR]
    refine lcW_all eZ (fun q => eFF q.2) _ _ (fun q _ R hR => ?_) (by simp [line]; omega) ?_
    · simp [dRet, dSeq, dAsg, dIfS, dNext, dDrop, dPar, dTup, dLst, dCons, dNil, dOp, dUn, dVar, dC, dB, onB, onI, onL, onT, dAnd, dOr, dNot, dAndV, dOrV, dNotV, dIf, dChain, dCall, dCb, gN, gT_tup, gConsD, gNilD, rIx_tup, rIx_lst, rAdd, rSub, rMul, rFdv, rMod, rPow, rLt, rLe, rGt, rGe, rEq, rNe, rIs, rIsn, rIn, rNin, rNeg, dSl, dPart, dNo, cutD, sLen, sInt, sAbs, sMin2, sMax2, sTuple, dFor, iL, iT, line, PyData.eqv, PyData.eqvAll, eZ] at hR ⊢
      exact hR
    · simp only [sTuple]
      rw [List.map_map]
      unfold formsOf at h
      rw [List.map_map] at h
      exact h
/-! ### until -/
def untilOf (asked : List Form) (n : Int) : Option Int := match asked.filterMap (fun f => sameTo f n) with
  | [] => none
  | x :: r => some (r.foldl min x)
def sp_until : DSp := fun ds P => ∃ (asked : List Form) (n : Int), ds = [.tuple (asked.map eF), .int n] ∧ (∀ f ∈ asked, sm f) ∧ asked.length ≤ 10000 ∧ P (eO (untilOf asked n))
theorem foldl_min : ∀ (r : List Int) (x : Int), r.foldl min x ∈ x :: r ∧ ∀ y ∈ x :: r, r.foldl min x ≤ y
  | [], x => ⟨by simp, fun y hy => by rw [List.mem_singleton.mp hy]; exact Int.le_refl _⟩
  | a :: r, x => by
    rw [List.foldl_cons]
    obtain ⟨h1, h2⟩ := foldl_min r (min x a)
    have h3 := h2 _ (List.mem_cons_self ..)
    refine ⟨?_, fun y hy => ?_⟩
    · rcases List.mem_cons.mp h1 with e | e
      · rw [e]
        rcases Int.le_total x a with h | h
        · rw [Int.min_eq_left h]; simp
        · rw [Int.min_eq_right h]; simp
      · exact List.mem_cons_of_mem _ (List.mem_cons_of_mem _ e)
    · rcases List.mem_cons.mp hy with e | hy
      · rw [e]; exact Int.le_trans h3 (Int.min_le_left _ _)
      · rcases List.mem_cons.mp hy with e | hy
        · rw [e]; exact Int.le_trans h3 (Int.min_le_right _ _)
        · exact h2 y (List.mem_cons_of_mem _ hy)
theorem h_until : Hs 5 2 sp_until (t_until sp_same_to) := by
  rintro ds Q _ ⟨asked, n, rfl, hs, hl, h⟩
  simp [t_until, dSeq, dAsg, dLc, iT, onT, dVar, List.replicate, wipeR]
  refine lcW_all eF (fun f => eO (sameTo f n)) asked _ (fun f hf R hR => ?_) (by unfold line; omega) ?_
  · simp [dRet, dSeq, dAsg, dIfS, dNext, dDrop, dPar, dTup, dLst, dCons, dNil, dOp, dUn, dVar, dC, dB, onB, onI, onL, onT, dAnd, dOr, dNot, dAndV, dOrV, dNotV, dIf, dChain, dCall, dCb, gN, gT_tup, gConsD, gNilD, rIx_tup, rIx_lst, rAdd, rSub, rMul, rFdv, rMod, rPow, rLt, rLe, rGt, rGe, rEq, rNe, rIs, rIsn, rIn, rNin, rNeg, dSl, dPart, dNo, cutD, sLen, sInt, sAbs, sMin2, sMax2, sTuple, dFor, iL, iT, line, PyData.eqv, PyData.eqvAll]
    exact ⟨f, n, rfl, hs f hf, hR⟩
  · simp [dSeq, dAsg, dLc, gN, iL, onL, dVar, wipeR]
    refine lcW_map (fun f => eO (sameTo f n)) (fun f => (sameTo f n).map PyData.int) asked [] _ (fun f hf R hR => ?_) (by simp [line]; omega) ?_
    · cases e : sameTo f n with
      | none => simp [e] at hR; simp [dRet, dSeq, dAsg, dIfS, dNext, dDrop, dPar, dTup, dLst, dCons, dNil, dOp, dUn, dVar, dC, dB, onB, onI, onL, onT, dAnd, dOr, dNot, dAndV, dOrV, dNotV, dIf, dChain, dCall, dCb, gN, gT_tup, gConsD, gNilD, rIx_tup, rIx_lst, rAdd, rSub, rMul, rFdv, rMod, rPow, rLt, rLe, rGt, rGe, rEq, rNe, rIs, rIsn, rIn, rNin, rNeg, dSl, dPart, dNo, cutD, sLen, sInt, sAbs, sMin2, sMax2, sTuple, dFor, iL, iT, line, PyData.eqv, PyData.eqvAll, e, eO, isNon]; exact hR
      | some i => simp [e] at hR; simp [dRet, dSeq, dAsg, dIfS, dNext, dDrop, dPar, dTup, dLst, dCons, dNil, dOp, dUn, dVar, dC, dB, onB, onI, onL, onT, dAnd, dOr, dNot, dAndV, dOrV, dNotV, dIf, dChain, dCall, dCb, gN, gT_tup, gConsD, gNilD, rIx_tup, rIx_lst, rAdd, rSub, rMul, rFdv, rMod, rPow, rLt, rLe, rGt, rGe, rEq, rNe, rIs, rIsn, rIn, rNin, rNeg, dSl, dPart, dNo, cutD, sLen, sInt, sAbs, sMin2, sMax2, sTuple, dFor, iL, iT, line, PyData.eqv, PyData.eqvAll, e, eO, isNon]; exact hR
    · have e : asked.filterMap (fun f => (sameTo f n).map PyData.int) = (asked.filterMap fun f => sameTo f n).map PyData.int := by
        clear h hl hs
        induction asked with
        | nil => rfl
        | cons a r ih =>
          rw [List.filterMap_cons, List.filterMap_cons, ih rfl]
          cases sameTo a n <;> rfl
      rw [List.nil_append, e]
      unfold untilOf at h
      generalize (asked.filterMap fun f => sameTo f n) = ns at h
      have gs : SeqAt.shaped (.list (ns.map PyData.int)) = true := (Gd.lst (GdA.map (n := 0) fun a _ => Gd.int a)).sh
      cases ns with
      | nil => simp [dRet, dSeq, dAsg, dIfS, dNext, dDrop, dPar, dTup, dLst, dCons, dNil, dOp, dUn, dVar, dC, dB, onB, onI, onL, onT, dAnd, dOr, dNot, dAndV, dOrV, dNotV, dIf, dChain, dCall, dCb, gN, gT_tup, gConsD, gNilD, rIx_tup, rIx_lst, rAdd, rSub, rMul, rFdv, rMod, rPow, rLt, rLe, rGt, rGe, rEq, rNe, rIs, rIsn, rIn, rNin, rNeg, dSl, dPart, dNo, cutD, sLen, sInt, sAbs, sMin2, sMax2, sTuple, dFor, iL, iT, line, PyData.eqv, PyData.eqvAll] at h ⊢; exact h
      | cons x r =>
        have hne : PyData.eqv (.list ((x :: r).map PyData.int)) (.list []) = false := rfl
        have gs' : SeqAt.shaped (.list (.int x :: r.map PyData.int)) = true := gs
        simp [dRet, dSeq, dAsg, dIfS, dNext, dDrop, dPar, dTup, dLst, dCons, dNil, dOp, dUn, dVar, dC, dB, onB, onI, onL, onT, dAnd, dOr, dNot, dAndV, dOrV, dNotV, dIf, dChain, dCall, dCb, gN, gT_tup, gConsD, gNilD, rIx_tup, rIx_lst, rAdd, rSub, rMul, rFdv, rMod, rPow, rLt, rLe, rGt, rGe, rEq, rNe, rIs, rIsn, rIn, rNin, rNeg, dSl, dPart, dNo, cutD, sLen, sInt, sAbs, sMin2, sMax2, sTuple, dFor, iL, iT, line, PyData.eqv, PyData.eqvAll]
        refine ⟨gs', x :: r, rfl, by simp, fun m hm hle => ?_⟩
        obtain ⟨h1, h2⟩ := foldl_min r x
        have e : m = r.foldl min x := Int.le_antisymm (hle _ h1) (h2 _ hm)
        have h' : Q (.int (r.foldl min x)) := h
        rw [e]
        simpa using h'
/-! ### lesser_end -/
def lesserEnd (a b : Option Int) : Option Int := match a, b with
  | none, b => b
  | some i, none => some i
  | some i, some j => if i < j then some i else some j
def sp_lesser_end : DSp := fun ds P => ∃ (a b : Option Int), ds = [eO a, eO b] ∧ P (eO (lesserEnd a b))
theorem h_lesser_end : Hs 2 2 sp_lesser_end t_lesser_end := by
  rintro ds Q _ ⟨a, b, rfl, h⟩
  cases a with
  | none =>
    cases b with
    | none => simp [t_lesser_end, dRet, dSeq, dAsg, dIfS, dNext, dDrop, dPar, dTup, dLst, dCons, dNil, dOp, dUn, dVar, dC, dB, onB, onI, onL, onT, dAnd, dOr, dNot, dAndV, dOrV, dNotV, dIf, dChain, dCall, dCb, gN, gT_tup, gConsD, gNilD, rIx_tup, rIx_lst, rAdd, rSub, rMul, rFdv, rMod, rPow, rLt, rLe, rGt, rGe, rEq, rNe, rIs, rIsn, rIn, rNin, rNeg, dSl, dPart, dNo, cutD, sLen, sInt, sAbs, sMin2, sMax2, sTuple, dFor, iL, iT, line, PyData.eqv, PyData.eqvAll, eO, isNon, lesserEnd] at h ⊢; exact h
    | some j => simp [t_lesser_end, dRet, dSeq, dAsg, dIfS, dNext, dDrop, dPar, dTup, dLst, dCons, dNil, dOp, dUn, dVar, dC, dB, onB, onI, onL, onT, dAnd, dOr, dNot, dAndV, dOrV, dNotV, dIf, dChain, dCall, dCb, gN, gT_tup, gConsD, gNilD, rIx_tup, rIx_lst, rAdd, rSub, rMul, rFdv, rMod, rPow, rLt, rLe, rGt, rGe, rEq, rNe, rIs, rIsn, rIn, rNin, rNeg, dSl, dPart, dNo, cutD, sLen, sInt, sAbs, sMin2, sMax2, sTuple, dFor, iL, iT, line, PyData.eqv, PyData.eqvAll, eO, isNon, lesserEnd] at h ⊢; exact h
  | some i =>
    cases b with
    | none =>
      simp [t_lesser_end, dRet, dSeq, dAsg, dIfS, dNext, dDrop, dPar, dTup, dLst, dCons, dNil, dOp, dUn, dVar, dC, dB, onB, onI, onL, onT, dAnd, dOr, dNot, dAndV, dOrV, dNotV, dIf, dChain, dCall, dCb, gN, gT_tup, gConsD, gNilD, rIx_tup, rIx_lst, rAdd, rSub, rMul, rFdv, rMod, rPow, rLt, rLe, rGt, rGe, rEq, rNe, rIs, rIsn, rIn, rNin, rNeg, dSl, dPart, dNo, cutD, sLen, sInt, sAbs, sMin2, sMax2, sTuple, dFor, iL, iT, line, PyData.eqv, PyData.eqvAll, eO, isNon, lesserEnd] at h ⊢
      exact h
    | some j =>
      simp [t_lesser_end, dRet, dSeq, dAsg, dIfS, dNext, dDrop, dPar, dTup, dLst, dCons, dNil, dOp, dUn, dVar, dC, dB, onB, onI, onL, onT, dAnd, dOr, dNot, dAndV, dOrV, dNotV, dIf, dChain, dCall, dCb, gN, gT_tup, gConsD, gNilD, rIx_tup, rIx_lst, rAdd, rSub, rMul, rFdv, rMod, rPow, rLt, rLe, rGt, rGe, rEq, rNe, rIs, rIsn, rIn, rNin, rNeg, dSl, dPart, dNo, cutD, sLen, sInt, sAbs, sMin2, sMax2, sTuple, dFor, iL, iT, line, PyData.eqv, PyData.eqvAll, eO, isNon, lesserEnd] at h ⊢
      by_cases hij : i < j
      · simp [hij] at h ⊢; exact h
      · simp [hij] at h ⊢; exact h
end DL
namespace DL
open PySem PySem.Spec PyProof.Rows L2 LamX
/-! Rows: joined, both, the first false one. -/
abbrev Row (α : Type) := Int × Option Int × α
def eRow {α : Type} (enc : α → Dt) (r : Row α) : Dt := .tuple [.int r.1, eO r.2.1, enc r.2.2]
@[simp] theorem isMut_eRow {α : Type} (enc : α → Dt) (r : Row α) : isMut (eRow enc r) = false := rfl
@[simp] theorem thaw_eRow {α : Type} (enc : α → Dt) (r : Row α) : thaw (eRow enc r) = eRow enc r := rfl
/-- an encoding that tells its values apart -/
structure EncOk {α : Type} [DecidableEq α] (enc : α → Dt) : Prop where
  gd : ∀ a, Gd 40 (enc a)
  eq : ∀ a b, PyData.eqv (enc a) (enc b) = decide (a = b)
  mu : ∀ a, isMut (enc a) = false
  th : ∀ a, thaw (enc a) = enc a
theorem gd_eO (o : Option Int) : Gd 0 (eO o) := by cases o <;> exact ⟨rfl, Nat.le_refl _⟩
theorem gd_eRow {α : Type} [DecidableEq α] {enc : α → Dt} (ok : EncOk enc) (r : Row α) : Gd 41 (eRow enc r) := Gd.tup (GdA.cons ((Gd.int _).mono (by decide)) (GdA.cons ((gd_eO _).mono (by decide)) (GdA.cons (ok.gd _) GdA.nil)))
theorem gT_eRow {α : Type} {enc : α → Dt} (t : DTGs) (r : Row α) (ρ : Rho) (P : Rho → Prop) : gTupD 3 t (eRow enc r) ρ P = t [.int r.1, eO r.2.1, enc r.2.2] ρ P := by simp [gTupD, eRow]
theorem rIx_eRow0 {α : Type} {enc : α → Dt} (r : Row α) (P : Dt → Prop) : rIx (eRow enc r) (.int 0) P = P (.int r.1) := by simp [rIx, eRow]
theorem rIx_eRow2 {α : Type} {enc : α → Dt} (r : Row α) (P : Dt → Prop) : rIx (eRow enc r) (.int 2) P = P (enc r.2.2) := by simp [rIx, eRow]
def joinStep {α : Type} [DecidableEq α] (found : List (Row α)) (r : Row α) : List (Row α) := match found.getLast? with
  | some x => if x.2.2 = r.2.2 then found.dropLast ++ [(x.1, r.2.1, r.2.2)] else found ++ [r]
  | none => found ++ [r]
def joined {α : Type} [DecidableEq α] (rows : List (Row α)) : List (Row α) := rows.foldl joinStep []
theorem joinStep_len {α : Type} [DecidableEq α] (found : List (Row α)) (r : Row α) : (joinStep found r).length ≤ found.length + 1 := by
  unfold joinStep
  split
  · split
    · rw [List.length_append, List.length_dropLast, List.length_singleton]; omega
    · simp
  · simp
theorem join_len {α : Type} [DecidableEq α] : ∀ (rows : List (Row α)) (found : List (Row α)), (rows.foldl joinStep found).length ≤ found.length + rows.length
  | [], found => Nat.le_refl _
  | r :: rows, found => by
    rw [List.foldl_cons]
    have h1 := join_len rows (joinStep found r)
    have h2 := joinStep_len found r
    rw [List.length_cons]
    omega
def sp_joined : DSp := fun ds P => ∃ (α : Type) (_ : DecidableEq α) (enc : α → Dt) (rows : List (Row α)), EncOk enc ∧ ds = [.list (rows.map (eRow enc))] ∧ rows.length ≤ 50000 ∧ P (.list ((joined rows).map (eRow enc)))
theorem cut_butlast {α : Type} (l : List α) : cutL l none (some (-1)) = l.dropLast := by
  unfold cutL HT.sIx
  simp only [List.drop_zero, Nat.sub_zero]
  rw [List.dropLast_eq_take]
  congr 1
  by_cases h : l.length = 0
  · simp [h]
  · simp
    omega
theorem loop_join {α : Type} [DecidableEq α] {enc : α → Dt} (ok : EncOk enc) (x0 : Option Dt) (Q : Dt → Prop) : ∀ (rows found : List (Row α)) (o2 o3 o4 : Option Dt), found.length + rows.length ≤ 50000 → Q (.list ((rows.foldl joinStep found).map (eRow enc))) →
    forW (gTupD 3 (gConsD (gN 2) (gConsD (gN 3) (gConsD (gN 4) gNilD)))) (dIfS (dAnd (dB (dOp rNe (dVar 1) (dLst dNil))) (dB (dOp rEq (dOp rIx (dOp rIx (dVar 1) (dUn rNeg (dC (.int 1)))) (dC (.int 2))) (dVar 4)))) (dAsg (dOp rAdd (dSl (dVar 1) dNo (dPart (dUn rNeg (dC (.int 1))))) (dLst (dCons (dTup (dCons (dOp rIx (dOp rIx (dVar 1) (dUn rNeg (dC (.int 1)))) (dC (.int 0))) (dCons (dVar 3) (dCons (dVar 4) dNil)))) dNil))) (gN 1)) (dAsg (dOp rAdd (dVar 1) (dLst (dCons (dTup (dCons (dVar 2) (dCons (dVar 3) (dCons (dVar 4) dNil)))) dNil))) (gN 1)))
      (rows.map (eRow enc)) { nx := dRet (dVar 1) { nx := fun _ => Q .none, rt := Q }, rt := Q } [x0, some (.list (found.map (eRow enc))), o2, o3, o4]
  | [], found, o2, o3, o4, hl, h => by
    simp [forW, dRet, dSeq, dAsg, dIfS, dNext, dDrop, dPar, dTup, dLst, dCons, dNil, dOp, dUn, dVar, dC, dB, onB, onI, onL, onT, dAnd, dOr, dNot, dAndV, dOrV, dNotV, dIf, dChain, dCall, dCb, gN, gT_tup, gConsD, gNilD, rIx_tup, rIx_lst, rAdd, rSub, rMul, rFdv, rMod, rPow, rLt, rLe, rGt, rGe, rEq, rNe, rIs, rIsn, rIn, rNin, rNeg, dSl, dPart, dNo, cutD, sLen, sInt, sAbs, sMin2, sMax2, sTuple, dFor, iL, iT, line, PyData.eqv, PyData.eqvAll] at h ⊢
    exact h
  | r :: rows, found, o2, o3, o4, hl, h => by
    have hl' : found.length + (rows.length + 1) ≤ 50000 := hl
    have hj := joinStep_len found r
    have ih := loop_join ok x0 Q rows (joinStep found r) (some (.int r.1)) (some (eO r.2.1)) (some (enc r.2.2)) (by omega) h
    have gs : SeqAt.shaped (.list (found.map (eRow enc))) = true := (Gd.lst (GdA.map fun a _ => gd_eRow ok a)).sh
    have ge : SeqAt.shaped (enc r.2.2) = true := (ok.gd _).sh
    simp [forW, dRet, dSeq, dAsg, dIfS, dNext, dDrop, dPar, dTup, dLst, dCons, dNil, dOp, dUn, dVar, dC, dB, onB, onI, onL, onT, dAnd, dOr, dNot, dAndV, dOrV, dNotV, dIf, dChain, dCall, dCb, gN, gT_tup, gConsD, gNilD, rIx_tup, rIx_lst, rAdd, rSub, rMul, rFdv, rMod, rPow, rLt, rLe, rGt, rGe, rEq, rNe, rIs, rIsn, rIn, rNin, rNeg, dSl, dPart, dNo, cutD, sLen, sInt, sAbs, sMin2, sMax2, sTuple, dFor, iL, iT, line, PyData.eqv, PyData.eqvAll, gT_eRow, ok.mu, eqvAll_nil, gs, ge]
    unfold joinStep at ih
    cases e : found.getLast? with
    | none =>
      have hn := List.getLast?_eq_none_iff.mp e
      subst hn
      simp [e] at ih
      simp [dRet, dSeq, dAsg, dIfS, dNext, dDrop, dPar, dTup, dLst, dCons, dNil, dOp, dUn, dVar, dC, dB, onB, onI, onL, onT, dAnd, dOr, dNot, dAndV, dOrV, dNotV, dIf, dChain, dCall, dCb, gN, gT_tup, gConsD, gNilD, rIx_tup, rIx_lst, rAdd, rSub, rMul, rFdv, rMod, rPow, rLt, rLe, rGt, rGe, rEq, rNe, rIs, rIsn, rIn, rNin, rNeg, dSl, dPart, dNo, cutD, sLen, sInt, sAbs, sMin2, sMax2, sTuple, dFor, iL, iT, line, PyData.eqv, PyData.eqvAll] at ih ⊢
      exact ih
    | some x =>
      have hn : found ≠ [] := fun z => by rw [z] at e; cases e
      have gx : SeqAt.shaped (enc x.2.2) = true := (ok.gd _).sh
      simp only [e] at ih
      simp [hn, rIx_lst, atI_last, e, rIx_eRow2, rIx_eRow0, gx, ok.eq, cut_butlast]
      by_cases hx : x.2.2 = r.2.2
      · simp [hx] at ih ⊢
        refine ⟨by omega, ?_⟩
        simp [dRet, dSeq, dAsg, dIfS, dNext, dDrop, dPar, dTup, dLst, dCons, dNil, dOp, dUn, dVar, dC, dB, onB, onI, onL, onT, dAnd, dOr, dNot, dAndV, dOrV, dNotV, dIf, dChain, dCall, dCb, gN, gT_tup, gConsD, gNilD, rIx_tup, rIx_lst, rAdd, rSub, rMul, rFdv, rMod, rPow, rLt, rLe, rGt, rGe, rEq, rNe, rIs, rIsn, rIn, rNin, rNeg, dSl, dPart, dNo, cutD, sLen, sInt, sAbs, sMin2, sMax2, sTuple, dFor, iL, iT, line, PyData.eqv, PyData.eqvAll, eRow] at ih ⊢
        exact ih
      · simp [hx] at ih ⊢
        refine ⟨by omega, ?_⟩
        simp [dRet, dSeq, dAsg, dIfS, dNext, dDrop, dPar, dTup, dLst, dCons, dNil, dOp, dUn, dVar, dC, dB, onB, onI, onL, onT, dAnd, dOr, dNot, dAndV, dOrV, dNotV, dIf, dChain, dCall, dCb, gN, gT_tup, gConsD, gNilD, rIx_tup, rIx_lst, rAdd, rSub, rMul, rFdv, rMod, rPow, rLt, rLe, rGt, rGe, rEq, rNe, rIs, rIsn, rIn, rNin, rNeg, dSl, dPart, dNo, cutD, sLen, sInt, sAbs, sMin2, sMax2, sTuple, dFor, iL, iT, line, PyData.eqv, PyData.eqvAll, eRow] at ih ⊢
        exact ih
theorem h_joined : Hs 5 1 sp_joined t_joined := by
  rintro ds Q _ ⟨α, inst, enc, rows, ok, rfl, hl, h⟩
  have := loop_join ok (some (.list (rows.map (eRow enc)))) Q rows [] none none none (by simpa using hl) h
  simp [t_joined, dRet, dSeq, dAsg, dIfS, dNext, dDrop, dPar, dTup, dLst, dCons, dNil, dOp, dUn, dVar, dC, dB, onB, onI, onL, onT, dAnd, dOr, dNot, dAndV, dOrV, dNotV, dIf, dChain, dCall, dCb, gN, gT_tup, gConsD, gNilD, rIx_tup, rIx_lst, rAdd, rSub, rMul, rFdv, rMod, rPow, rLt, rLe, rGt, rGe, rEq, rNe, rIs, rIsn, rIn, rNin, rNeg, dSl, dPart, dNo, cutD, sLen, sInt, sAbs, sMin2, sMax2, sTuple, dFor, iL, iT, line, PyData.eqv, PyData.eqvAll, List.replicate] at this ⊢
  exact this
/-! ### both -/
def lowOf {α β : Type} (x : Row α) (y : Row β) : Int := if x.1 > y.1 then x.1 else y.1
def meets (low : Int) (high : Option Int) : Bool := match high with
  | none => true
  | some e => decide (low ≤ e)
def bothRow {α β : Type} (x : Row α) (y : Row β) : Option (Row (α × β)) := if meets (lowOf x y) (lesserEnd x.2.1 y.2.1) = true then some (lowOf x y, lesserEnd x.2.1 y.2.1, (x.2.2, y.2.2)) else none
def bothIn {α β : Type} (x : Row α) (ys : List (Row β)) : List (Row (α × β)) := ys.filterMap (bothRow x)
def bothRows {α β : Type} (xs : List (Row α)) (ys : List (Row β)) : List (Row (α × β)) := xs.flatMap fun x => bothIn x ys
def ePair {α β : Type} (e : α → Dt) (f : β → Dt) (p : α × β) : Dt := .tuple [e p.1, f p.2]
def sp_both : DSp := fun ds P => ∃ (α β : Type) (_ : DecidableEq α) (_ : DecidableEq β) (e : α → Dt) (f : β → Dt) (xs : List (Row α)) (ys : List (Row β)), EncOk e ∧ EncOk f ∧ ds = [.list (xs.map (eRow e)), .list (ys.map (eRow f))] ∧ xs.length ≤ 200 ∧ ys.length ≤ 200 ∧ P (.list ((bothRows xs ys).map (eRow (ePair e f))))
theorem bothIn_len {α β : Type} (x : Row α) (ys : List (Row β)) : (bothIn x ys).length ≤ ys.length := List.length_filterMap_le _ _
abbrev bIn : DTS := dSeq (dAsg (dIf (dB (dOp rGt (dVar 3) (dVar 6))) (dVar 3) (dVar 6)) (gN 9))
  (dSeq (dAsg (dCall 2 sp_lesser_end (dCons (dVar 4) (dCons (dVar 7) dNil))) (gN 10))
  (dIfS (dOr (dB (dOp rIs (dVar 10) (dC .none))) (dB (dOp rLe (dVar 9) (dVar 10)))) (dAsg (dOp rAdd (dVar 2) (dLst (dCons (dTup (dCons (dVar 9) (dCons (dVar 10) (dCons (dTup (dCons (dVar 5) (dCons (dVar 8) dNil))) dNil)))) dNil))) (gN 2)) dNext))
theorem loop_bothIn {α β : Type} [DecidableEq α] [DecidableEq β] {e : α → Dt} {f : β → Dt} (oe : EncOk e) (of : EncOk f) (x : Row α) (a0 a1 : Option Dt) (D : DEnds) (found : List (Row (α × β))) : ∀ (ys : List (Row β)) (acc : List (Row (α × β))) (o6 o7 o8 o9 o10 : Option Dt), acc.length + ys.length ≤ 90000 →
    (∀ (acc' : List (Row (α × β))) (o6 o7 o8 o9 o10 : Option Dt), acc' = acc ++ bothIn x ys → D.nx [a0, a1, some (.list (acc'.map (eRow (ePair e f)))), some (.int x.1), some (eO x.2.1), some (e x.2.2), o6, o7, o8, o9, o10]) →
    forW (gTupD 3 (gConsD (gN 6) (gConsD (gN 7) (gConsD (gN 8) gNilD)))) bIn (ys.map (eRow f)) D [a0, a1, some (.list (acc.map (eRow (ePair e f)))), some (.int x.1), some (eO x.2.1), some (e x.2.2), o6, o7, o8, o9, o10]
  | [], acc, o6, o7, o8, o9, o10, hl, h => h acc o6 o7 o8 o9 o10 (by simp [bothIn])
  | y :: ys, acc, o6, o7, o8, o9, o10, hl, h => by
    have hl' : acc.length + (ys.length + 1) ≤ 90000 := hl
    have step : ∀ (low : Int), low = lowOf x y → (acc.length < 100000 → ∀ o9 o10, forW (gTupD 3 (gConsD (gN 6) (gConsD (gN 7) (gConsD (gN 8) gNilD)))) bIn (ys.map (eRow f)) D [a0, a1, some (.list ((acc ++ (bothRow x y).toList).map (eRow (ePair e f)))), some (.int x.1), some (eO x.2.1), some (e x.2.2), some (.int y.1), some (eO y.2.1), some (f y.2.2), o9, o10]) := by
      intro low hlow hacc o9 o10
      refine loop_bothIn oe of x a0 a1 D found ys (acc ++ (bothRow x y).toList) _ _ _ o9 o10 ?_ fun acc' o6 o7 o8 o9 o10 ha => h acc' o6 o7 o8 o9 o10 ?_
      · rw [List.length_append]
        have : (bothRow x y).toList.length ≤ 1 := by cases bothRow x y <;> simp
        omega
      · rw [ha]
        unfold bothIn
        rw [List.append_assoc]
        congr 1
        rw [List.filterMap_cons]
        cases bothRow x y <;> rfl
    have fin : ∀ low : Int, low = lowOf x y → bIn { nx := forW (gTupD 3 (gConsD (gN 6) (gConsD (gN 7) (gConsD (gN 8) gNilD)))) bIn (ys.map (eRow f)) D, rt := D.rt, bk := D.nx, ct := forW (gTupD 3 (gConsD (gN 6) (gConsD (gN 7) (gConsD (gN 8) gNilD)))) bIn (ys.map (eRow f)) D } [a0, a1, some (.list (acc.map (eRow (ePair e f)))), some (.int x.1), some (eO x.2.1), some (e x.2.2), some (.int y.1), some (eO y.2.1), some (f y.2.2), o9, o10] := by
      intro low hlow
      have hs := step low hlow (by omega)
      unfold bothRow at hs
      have rest : ∀ (lw : Int), lw = lowOf x y → (dSeq (dAsg (dCall 2 sp_lesser_end (dCons (dVar 4) (dCons (dVar 7) dNil))) (gN 10))
          (dIfS (dOr (dB (dOp rIs (dVar 10) (dC .none))) (dB (dOp rLe (dVar 9) (dVar 10)))) (dAsg (dOp rAdd (dVar 2) (dLst (dCons (dTup (dCons (dVar 9) (dCons (dVar 10) (dCons (dTup (dCons (dVar 5) (dCons (dVar 8) dNil))) dNil)))) dNil))) (gN 2)) dNext))
          { nx := forW (gTupD 3 (gConsD (gN 6) (gConsD (gN 7) (gConsD (gN 8) gNilD)))) bIn (ys.map (eRow f)) D, rt := D.rt, bk := D.nx, ct := forW (gTupD 3 (gConsD (gN 6) (gConsD (gN 7) (gConsD (gN 8) gNilD)))) bIn (ys.map (eRow f)) D } [a0, a1, some (.list (acc.map (eRow (ePair e f)))), some (.int x.1), some (eO x.2.1), some (e x.2.2), some (.int y.1), some (eO y.2.1), some (f y.2.2), some (.int lw), o10] := by
        rintro lw rfl
        simp only [dSeq, dAsg, dCall, dCons, dNil, dVar, List.getElem?_cons_zero, List.getElem?_cons_succ]
        refine ⟨by simp, by simp, rfl, x.2.1, y.2.1, rfl, ?_⟩
        generalize hq : lesserEnd x.2.1 y.2.1 = q at hs
        cases q with
        | none =>
          simp only [meets, if_true] at hs
          simp [dRet, dSeq, dAsg, dIfS, dNext, dDrop, dPar, dTup, dLst, dCons, dNil, dOp, dUn, dVar, dC, dB, onB, onI, onL, onT, dAnd, dOr, dNot, dAndV, dOrV, dNotV, dIf, dChain, dCall, dCb, gN, gT_tup, gConsD, gNilD, rIx_tup, rIx_lst, rAdd, rSub, rMul, rFdv, rMod, rPow, rLt, rLe, rGt, rGe, rEq, rNe, rIs, rIsn, rIn, rNin, rNeg, dSl, dPart, dNo, cutD, sLen, sInt, sAbs, sMin2, sMax2, sTuple, dFor, iL, iT, line, PyData.eqv, PyData.eqvAll, eO, isNon, of.mu, oe.mu]
          refine ⟨by omega, ?_⟩
          have := hs (some (.int (lowOf x y))) (some (eO none))
          simp [eRow, ePair, eO] at this
          simpa [bIn] using this
        | some i =>
          by_cases hm : lowOf x y ≤ i
          · simp only [meets, hm, decide_true, if_true] at hs
            simp [dRet, dSeq, dAsg, dIfS, dNext, dDrop, dPar, dTup, dLst, dCons, dNil, dOp, dUn, dVar, dC, dB, onB, onI, onL, onT, dAnd, dOr, dNot, dAndV, dOrV, dNotV, dIf, dChain, dCall, dCb, gN, gT_tup, gConsD, gNilD, rIx_tup, rIx_lst, rAdd, rSub, rMul, rFdv, rMod, rPow, rLt, rLe, rGt, rGe, rEq, rNe, rIs, rIsn, rIn, rNin, rNeg, dSl, dPart, dNo, cutD, sLen, sInt, sAbs, sMin2, sMax2, sTuple, dFor, iL, iT, line, PyData.eqv, PyData.eqvAll, eO, isNon, of.mu, oe.mu, hm]
            refine ⟨by omega, ?_⟩
            have := hs (some (.int (lowOf x y))) (some (eO (some i)))
            simp [eRow, ePair, eO] at this
            simpa [bIn] using this
          · simp only [meets, hm, decide_false, Bool.false_eq_true, if_false] at hs
            simp [dRet, dSeq, dAsg, dIfS, dNext, dDrop, dPar, dTup, dLst, dCons, dNil, dOp, dUn, dVar, dC, dB, onB, onI, onL, onT, dAnd, dOr, dNot, dAndV, dOrV, dNotV, dIf, dChain, dCall, dCb, gN, gT_tup, gConsD, gNilD, rIx_tup, rIx_lst, rAdd, rSub, rMul, rFdv, rMod, rPow, rLt, rLe, rGt, rGe, rEq, rNe, rIs, rIsn, rIn, rNin, rNeg, dSl, dPart, dNo, cutD, sLen, sInt, sAbs, sMin2, sMax2, sTuple, dFor, iL, iT, line, PyData.eqv, PyData.eqvAll, eO, isNon, of.mu, oe.mu, hm]
            have := hs (some (.int (lowOf x y))) (some (eO (some i)))
            simp [eO] at this
            simpa [bIn] using this
      by_cases hxy : y.1 < x.1
      · have := rest x.1 (by unfold lowOf; rw [if_pos hxy])
        simp only [bIn, dSeq, dAsg, dIf, dB, dOp, dVar, List.getElem?_cons_zero, List.getElem?_cons_succ, rGt, onB, hxy, decide_true, if_true, gN, List.set_cons_zero, List.set_cons_succ] at this ⊢
        exact ⟨rfl, rfl, rfl, this⟩
      · have := rest y.1 (by unfold lowOf; rw [if_neg hxy])
        simp only [bIn, dSeq, dAsg, dIf, dB, dOp, dVar, List.getElem?_cons_zero, List.getElem?_cons_succ, rGt, onB, hxy, decide_false, Bool.false_eq_true, if_false, gN, List.set_cons_zero, List.set_cons_succ] at this ⊢
        exact ⟨rfl, rfl, rfl, this⟩
    have := fin _ rfl
    simp only [List.map_cons, forW, gT_eRow, gConsD, gN, gNilD, List.set_cons_zero, List.set_cons_succ] at this ⊢
    exact ⟨trivial, this⟩
end DL
namespace DL
open PySem PySem.Spec PyProof.Rows L2 LamX
/-! both; the first false row; all runs; rows by runs. -/
theorem loop_both {α β : Type} [DecidableEq α] [DecidableEq β] {e : α → Dt} {f : β → Dt} (oe : EncOk e) (of : EncOk f) (ys : List (Row β)) (a0 : Option Dt) (Q : Dt → Prop) (hy : ys.length ≤ 200) : ∀ (xs : List (Row α)) (acc : List (Row (α × β))) (o3 o4 o5 o6 o7 o8 o9 o10 : Option Dt), acc.length + 200 * xs.length ≤ 90000 →
    Q (.list ((acc ++ bothRows xs ys).map (eRow (ePair e f)))) →
    forW (gTupD 3 (gConsD (gN 3) (gConsD (gN 4) (gConsD (gN 5) gNilD)))) (dFor (iL (dVar 1)) (gTupD 3 (gConsD (gN 6) (gConsD (gN 7) (gConsD (gN 8) gNilD)))) bIn) (xs.map (eRow e)) { nx := dRet (dVar 2) { nx := fun _ => Q .none, rt := Q }, rt := Q } [a0, some (.list (ys.map (eRow f))), some (.list (acc.map (eRow (ePair e f)))), o3, o4, o5, o6, o7, o8, o9, o10]
  | [], acc, o3, o4, o5, o6, o7, o8, o9, o10, hl, h => by
    simp [bothRows] at h
    simp [forW, dRet, dSeq, dAsg, dIfS, dNext, dDrop, dPar, dTup, dLst, dCons, dNil, dOp, dUn, dVar, dC, dB, onB, onI, onL, onT, dAnd, dOr, dNot, dAndV, dOrV, dNotV, dIf, dChain, dCall, dCb, gN, gT_tup, gConsD, gNilD, rIx_tup, rIx_lst, rAdd, rSub, rMul, rFdv, rMod, rPow, rLt, rLe, rGt, rGe, rEq, rNe, rIs, rIsn, rIn, rNin, rNeg, dSl, dPart, dNo, cutD, sLen, sInt, sAbs, sMin2, sMax2, sTuple, dFor, iL, iT, line, PyData.eqv, PyData.eqvAll]
    exact h
  | x :: xs, acc, o3, o4, o5, o6, o7, o8, o9, o10, hl, h => by
    have hl' : acc.length + 200 * (xs.length + 1) ≤ 90000 := hl
    have hb := bothIn_len x ys
    simp only [List.map_cons, forW, gT_eRow, gConsD, gN, gNilD, List.set_cons_zero, List.set_cons_succ]
    refine ⟨trivial, ?_⟩
    simp only [dFor, iL, dVar, List.getElem?_cons_zero, List.getElem?_cons_succ, onL]
    refine ⟨rfl, ?_⟩
    refine loop_bothIn oe of x a0 _ _ acc ys acc _ _ _ _ _ (by omega) fun acc' o6 o7 o8 o9 o10 ha => ?_
    refine loop_both oe of ys a0 Q hy xs acc' _ _ _ _ _ _ _ _ (by rw [ha, List.length_append]; omega) ?_
    rw [ha]
    unfold bothRows at h ⊢
    rw [List.flatMap_cons, ← List.append_assoc] at h
    exact h
theorem h_both : Hs 11 2 sp_both (t_both sp_lesser_end) := by
  rintro ds Q _ ⟨α, β, i1, i2, e, f, xs, ys, oe, of, rfl, hx, hy, h⟩
  have := loop_both oe of ys (some (.list (xs.map (eRow e)))) Q hy xs [] none none none none none none none none (by simp; omega) (by simpa using h)
  simp only [t_both, dSeq, dAsg, dLst, dNil, gN, startD_2, List.replicate, List.set_cons_zero, List.set_cons_succ, dFor, iL, dVar, List.getElem?_cons_zero, List.getElem?_cons_succ, onL]
  refine ⟨by simp, rfl, ?_⟩
  exact this
/-! ### first_false -/
def eBl (b : Bool) : Dt := .bool b
theorem enc_bl : EncOk eBl := ⟨fun a => (Gd.bl a).mono (by decide), fun a b => by cases a <;> cases b <;> rfl, fun _ => rfl, fun _ => rfl⟩
def firstFalse (rows : List (Row Bool)) : Option Int := (rows.filterMap fun r => if r.2.2 = true then none else some r.1).head?
def sp_first_false : DSp := fun ds P => ∃ rows : List (Row Bool), ds = [.list (rows.map (eRow eBl))] ∧ rows.length ≤ 90000 ∧ P (eO (firstFalse rows))
theorem h_first_false : Hs 5 1 sp_first_false t_first_false := by
  rintro ds Q _ ⟨rows, rfl, hl, h⟩
  simp only [t_first_false, dSeq, dAsg, dLc, iL, dVar, startD_1, List.replicate, List.getElem?_cons_zero, onL, wipeR, List.set_cons_succ, List.set_cons_zero]
  refine ⟨rfl, ?_⟩
  refine lcW_map (eRow eBl) (fun r => (if r.2.2 = true then none else some r.1).map PyData.int) rows [] _ (fun r _ R hR => ?_) (by simp [line]; omega) ?_
  · simp [gT_eRow, dRet, dSeq, dAsg, dIfS, dNext, dDrop, dPar, dTup, dLst, dCons, dNil, dOp, dUn, dVar, dC, dB, onB, onI, onL, onT, dAnd, dOr, dNot, dAndV, dOrV, dNotV, dIf, dChain, dCall, dCb, gN, gT_tup, gConsD, gNilD, rIx_tup, rIx_lst, rAdd, rSub, rMul, rFdv, rMod, rPow, rLt, rLe, rGt, rGe, rEq, rNe, rIs, rIsn, rIn, rNin, rNeg, dSl, dPart, dNo, cutD, sLen, sInt, sAbs, sMin2, sMax2, sTuple, dFor, iL, iT, line, PyData.eqv, PyData.eqvAll, eBl]
    cases hb : r.2.2
    · simp [hb] at hR ⊢; exact hR
    · simp [hb] at hR ⊢; exact hR
  · have e : rows.filterMap (fun r => (if r.2.2 = true then none else some r.1).map PyData.int) = (rows.filterMap fun r => if r.2.2 = true then none else some r.1).map PyData.int := by
      clear h hl
      induction rows with
      | nil => rfl
      | cons a r ih =>
        rw [List.filterMap_cons, List.filterMap_cons, ih rfl]
        cases a.2.2 <;> rfl
    rw [List.nil_append, e]
    unfold firstFalse at h
    generalize (rows.filterMap fun r => if r.2.2 = true then none else some r.1) = ns at h
    have gs : SeqAt.shaped (.list (ns.map PyData.int)) = true := (Gd.lst (GdA.map (n := 0) fun a _ => Gd.int a)).sh
    cases ns with
    | nil => simp [dRet, dSeq, dAsg, dIfS, dNext, dDrop, dPar, dTup, dLst, dCons, dNil, dOp, dUn, dVar, dC, dB, onB, onI, onL, onT, dAnd, dOr, dNot, dAndV, dOrV, dNotV, dIf, dChain, dCall, dCb, gN, gT_tup, gConsD, gNilD, rIx_tup, rIx_lst, rAdd, rSub, rMul, rFdv, rMod, rPow, rLt, rLe, rGt, rGe, rEq, rNe, rIs, rIsn, rIn, rNin, rNeg, dSl, dPart, dNo, cutD, sLen, sInt, sAbs, sMin2, sMax2, sTuple, dFor, iL, iT, line, PyData.eqv, PyData.eqvAll] at h ⊢; exact h
    | cons x r =>
      have gs' : SeqAt.shaped (.list (.int x :: r.map PyData.int)) = true := gs
      simp [dRet, dSeq, dAsg, dIfS, dNext, dDrop, dPar, dTup, dLst, dCons, dNil, dOp, dUn, dVar, dC, dB, onB, onI, onL, onT, dAnd, dOr, dNot, dAndV, dOrV, dNotV, dIf, dChain, dCall, dCb, gN, gT_tup, gConsD, gNilD, rIx_tup, rIx_lst, rAdd, rSub, rMul, rFdv, rMod, rPow, rLt, rLe, rGt, rGe, rEq, rNe, rIs, rIsn, rIn, rNin, rNeg, dSl, dPart, dNo, cutD, sLen, sInt, sAbs, sMin2, sMax2, sTuple, dFor, iL, iT, line, PyData.eqv, PyData.eqvAll]
      exact ⟨gs', h⟩
/-! ### all runs -/
abbrev Item := List Nat × List (Form × Form)
def eIt (x : Item) : Dt := .tuple [.tuple (x.1.map eN), .tuple (x.2.map eFF)]
theorem eqvAll_map {α : Type} [DecidableEq α] {f : α → Dt} (h : ∀ a b, PyData.eqv (f a) (f b) = decide (a = b)) : ∀ xs ys : List α, PyData.eqvAll (xs.map f) (ys.map f) = decide (xs = ys)
  | [], [] => rfl
  | [], _ :: _ => rfl
  | _ :: _, [] => rfl
  | x :: xs, y :: ys => by
    show (PyData.eqv (f x) (f y) && PyData.eqvAll (xs.map f) (ys.map f)) = _
    rw [h, eqvAll_map h xs ys]
    by_cases h1 : x = y <;> by_cases h2 : xs = ys <;> simp [h1, h2]
theorem eqv_eF (f g : Form) : PyData.eqv (eF f) (eF g) = decide (f = g) := by
  show (((f.1 == g.1) && ((f.2 == g.2) && true)) : Bool) = _
  rw [Bool.and_true]
  by_cases h1 : f.1 = g.1 <;> by_cases h2 : f.2 = g.2 <;> simp [h1, h2, Prod.ext_iff]
theorem eqv_eFF (f g : Form × Form) : PyData.eqv (eFF f) (eFF g) = decide (f = g) := by
  show ((PyData.eqv (eF f.1) (eF g.1) && (PyData.eqv (eF f.2) (eF g.2) && true)) : Bool) = _
  rw [Bool.and_true, eqv_eF, eqv_eF]
  by_cases h1 : f.1 = g.1 <;> by_cases h2 : f.2 = g.2 <;> simp [h1, h2, Prod.ext_iff]
theorem eqv_eNd (a b : Nat) : PyData.eqv (eN a) (eN b) = decide (a = b) := by
  rw [eqv_eN]
  by_cases h : a = b <;> simp [h]
theorem enc_it : EncOk eIt := by
  refine ⟨fun a => (Gd.tup (n := 3) (GdA.cons ((gd_ord _).mono (by decide)) (GdA.cons (Gd.tup (n := 2) (GdA.map fun q _ => gd_eFF q)) GdA.nil))).mono (by decide), fun a b => ?_, fun _ => rfl, fun _ => rfl⟩
  show ((PyData.eqvAll (a.1.map eN) (b.1.map eN) && (PyData.eqvAll (a.2.map eFF) (b.2.map eFF) && true)) : Bool) = _
  rw [Bool.and_true, eqvAll_map eqv_eNd, eqvAll_map eqv_eFF]
  by_cases h1 : a.1 = b.1 <;> by_cases h2 : a.2 = b.2 <;> simp [h1, h2, Prod.ext_iff]
def allLoop (p : Plan) : Nat → List (Row Item) → Int → List (Row Item)
  | 0, found, _ => found
  | k + 1, found, n => match untilOf (runWith p n).ask n with
    | none => found ++ [(n, none, ((runWith p n).ord, formsOf (runWith p n)))]
    | some e => allLoop p k (found ++ [(n, some e, ((runWith p n).ord, formsOf (runWith p n)))]) (e + 1)
/-- the loop ends within k turns -/
def allEnds (p : Plan) : Nat → Int → Prop
  | 0, _ => False
  | k + 1, n => match untilOf (runWith p n).ask n with
    | none => True
    | some e => allEnds p k (e + 1)
def allRuns (p : Plan) : List (Row Item) := joined (allLoop p 1000 [] 2)
structure AllPre (p : Plan) : Prop where
  ok : p.Ok
  sm : ∀ n, ∀ f ∈ (runWith p n).ask, sm f
  ends : allEnds p 1000 2
def sp_all_runs : DSp := fun ds P => ∃ p : Plan, ds = [eP p] ∧ AllPre p ∧ P (.list ((allRuns p).map (eRow eIt)))
theorem rIx_eRunL (r : Run) (P : Dt → Prop) : rIx (eRun r) (.int 2) P = P (.tuple (r.ask.map eF)) := rIx_eRun2 r P
theorem allLoop_len (p : Plan) : ∀ (k : Nat) (found : List (Row Item)) (n : Int), (allLoop p k found n).length ≤ found.length + k
  | 0, found, n => Nat.le_refl _
  | k + 1, found, n => by
    unfold allLoop
    split
    · simp
    · rename_i e _
      have := allLoop_len p k (found ++ [(n, some e, ((runWith p n).ord, formsOf (runWith p n)))]) (e + 1)
      refine Nat.le_trans this ?_
      rw [List.length_append, List.length_singleton]
      omega
/-- the while's state: running with fuel k, or done -/
def WfA (p : Plan) (fin : List (Row Item)) (m : Nat) (ρ : Rho) : Prop := ∃ (found : List (Row Item)) (no : Option Int) (o3 o4 : Option Dt), ρ = [some (eP p), some (.list (found.map (eRow eIt))), some (eO no), o3, o4] ∧
  match no with
  | none => m = 0 ∧ found = fin
  | some n => ∃ k, m = k + 1 ∧ found.length + k ≤ 1000 ∧ allEnds p k n ∧ allLoop p k found n = fin
theorem h_all_runs : Hs 5 1 sp_all_runs (t_all_runs sp_run_with sp_until sp_forms_in sp_joined) := by
  rintro ds Q _ ⟨p, rfl, pre, h⟩
  have h5 := pre.ok.len1
  have hfl := allLoop_len p 1000 [] 2
  simp only [List.length_nil, Nat.zero_add] at hfl
  simp only [t_all_runs, dSeq, dPar, dCons, dNil, dLst, dC, startD_1, List.replicate, List.set_cons_zero, List.set_cons_succ, dWhile]
  refine ⟨by simp, WfA p (allLoop p 1000 [] 2), ⟨1001, [], some 2, none, none, rfl, 1000, rfl, by simp, pre.ends, rfl⟩, ?_⟩
  rintro m ρ ⟨found, no, o3, o4, rfl, hw⟩
  cases no with
  | none =>
    obtain ⟨rfl, rfl⟩ := hw
    simp [dRet, dSeq, dAsg, dIfS, dNext, dDrop, dPar, dTup, dLst, dCons, dNil, dOp, dUn, dVar, dC, dB, onB, onI, onL, onT, dAnd, dOr, dNot, dAndV, dOrV, dNotV, dIf, dChain, dCall, dCb, gN, gT_tup, gConsD, gNilD, rIx_tup, rIx_lst, rAdd, rSub, rMul, rFdv, rMod, rPow, rLt, rLe, rGt, rGe, rEq, rNe, rIs, rIsn, rIn, rNin, rNeg, dSl, dPart, dNo, cutD, sLen, sInt, sAbs, sMin2, sMax2, sTuple, dFor, iL, iT, line, PyData.eqv, PyData.eqvAll, eO, isNon]
    exact ⟨Item, inferInstance, eIt, _, enc_it, rfl, by omega, h⟩
  | some n =>
    obtain ⟨k, rfl, hk, he, hf⟩ := hw
    have all := runWith_all pre.ok n
    have inv := runWith_inv pre.ok n
    cases k with
    | zero => exact he.elim
    | succ k =>
      simp [dRet, dSeq, dAsg, dIfS, dNext, dDrop, dPar, dTup, dLst, dCons, dNil, dOp, dUn, dVar, dC, dB, onB, onI, onL, onT, dAnd, dOr, dNot, dAndV, dOrV, dNotV, dIf, dChain, dCall, dCb, gN, gT_tup, gConsD, gNilD, rIx_tup, rIx_lst, rAdd, rSub, rMul, rFdv, rMod, rPow, rLt, rLe, rGt, rGe, rEq, rNe, rIs, rIsn, rIn, rNin, rNeg, dSl, dPart, dNo, cutD, sLen, sInt, sAbs, sMin2, sMax2, sTuple, dFor, iL, iT, line, PyData.eqv, PyData.eqvAll, eO, isNon]
      refine ⟨p, n, rfl, pre.ok, ?_⟩
      simp [dRet, dSeq, dAsg, dIfS, dNext, dDrop, dPar, dTup, dLst, dCons, dNil, dOp, dUn, dVar, dC, dB, onB, onI, onL, onT, dAnd, dOr, dNot, dAndV, dOrV, dNotV, dIf, dChain, dCall, dCb, gN, gT_tup, gConsD, gNilD, rIx_tup, rIx_lst, rAdd, rSub, rMul, rFdv, rMod, rPow, rLt, rLe, rGt, rGe, rEq, rNe, rIs, rIsn, rIn, rNin, rNeg, dSl, dPart, dNo, cutD, sLen, sInt, sAbs, sMin2, sMax2, sTuple, dFor, iL, iT, line, PyData.eqv, PyData.eqvAll, rIx_eP0, rIx_eP1, rIx_eP2, rIx_eRun0, rIx_eRun1, rIx_eRun2, rIx_eB0, rIx_eB1, rIx_eB2, rIx_eF0, rIx_eF1, rIx_eFF0, rIx_eFF1, gT_eRun, gT_eF, gT_eFF, wS_inj, st_bs, st_bf, st_fs, st_fb, st_sb, st_sf]
      refine ⟨(runWith p n).ask, n, rfl, pre.sm n, by have := inv.ask; omega, ?_⟩
      simp
      refine ⟨p, runWith p n, rfl, all, h5, ?_⟩
      simp
      refine ⟨by omega, ?_⟩
      unfold allEnds at he
      unfold allLoop at hf
      generalize untilOf (runWith p n).ask n = u at he hf
      cases u with
      | none =>
        simp at hf
        simp [eO, isNon]
        exact ⟨0, by omega, found ++ [(n, none, ((runWith p n).ord, formsOf (runWith p n)))], none, _, _, by simp [eRow, eIt, eO]; exact ⟨rfl, rfl⟩, rfl, hf⟩
      | some e =>
        simp at hf he
        simp [eO, isNon]
        exact ⟨k + 1, by omega, found ++ [(n, some e, ((runWith p n).ord, formsOf (runWith p n)))], some (e + 1), _, _, by simp [eRow, eIt, eO]; exact ⟨rfl, rfl⟩, k, rfl, by simp; omega, he, hf⟩
end DL
namespace DL
open PySem PySem.Spec PyProof.Rows L2 LamX
/-! by_runs, cut. -/
def mapRow {α β : Type} (f : α → β) (r : Row α) : Row β := (r.1, r.2.1, f r.2.2)
/-- what is told of a plan's runs -/
def okItem (p : Plan) (x : Item) : Prop := ∃ n, x = ((runWith p n).ord, formsOf (runWith p n))
def sp_by_runs (sp_told : Int → List Dt → DSp) : DSp := fun ds P => ∃ (p : Plan) (n : Int) (d0 : List Dt) (β : Type) (_ : DecidableEq β) (enc : β → Dt) (f : Item → β), EncOk enc ∧ ds = [eP p, fnD n d0] ∧ AllPre p ∧
  (∀ x, okItem p x → ∀ R : Dt → Prop, R (enc (f x)) → sp_told n d0 [.tuple (x.1.map eN), .tuple (x.2.map eFF)] R) ∧ P (.list ((joined ((allRuns p).map (mapRow f))).map (eRow enc)))
theorem allLoop_item (p : Plan) : ∀ (k : Nat) (found : List (Row Item)) (n : Int), (∀ r ∈ found, okItem p r.2.2) → ∀ r ∈ allLoop p k found n, okItem p r.2.2
  | 0, found, n, h => h
  | k + 1, found, n, h => by
    unfold allLoop
    have h' : ∀ e, ∀ r ∈ found ++ [((n, e, ((runWith p n).ord, formsOf (runWith p n))) : Row Item)], okItem p r.2.2 := fun e r hr => by
      rcases List.mem_append.mp hr with hr | hr
      · exact h r hr
      · rw [List.mem_singleton] at hr
        subst hr
        exact ⟨n, rfl⟩
    split
    · exact h' _
    · exact allLoop_item p k _ _ (h' _)
theorem joinStep_item {α : Type} [DecidableEq α] {C : α → Prop} {found : List (Row α)} {r : Row α} (hf : ∀ x ∈ found, C x.2.2) (hr : C r.2.2) : ∀ x ∈ joinStep found r, C x.2.2 := by
  unfold joinStep
  intro x hx
  split at hx
  · split at hx
    · rcases List.mem_append.mp hx with hx | hx
      · exact hf x (List.dropLast_subset _ hx)
      · rw [List.mem_singleton] at hx; subst hx; exact hr
    · rcases List.mem_append.mp hx with hx | hx
      · exact hf x hx
      · rw [List.mem_singleton] at hx; subst hx; exact hr
  · rcases List.mem_append.mp hx with hx | hx
    · exact hf x hx
    · rw [List.mem_singleton] at hx; subst hx; exact hr
theorem join_item {α : Type} [DecidableEq α] {C : α → Prop} : ∀ (rows found : List (Row α)), (∀ x ∈ found, C x.2.2) → (∀ x ∈ rows, C x.2.2) → ∀ x ∈ rows.foldl joinStep found, C x.2.2
  | [], found, hf, _ => hf
  | r :: rows, found, hf, hr => by
    rw [List.foldl_cons]
    exact join_item rows _ (joinStep_item hf (hr r (List.mem_cons_self ..))) fun x hx => hr x (List.mem_cons_of_mem _ hx)
theorem allRuns_item (p : Plan) : ∀ r ∈ allRuns p, okItem p r.2.2 := join_item _ _ (fun _ h => absurd h List.not_mem_nil) (allLoop_item p 1000 [] 2 fun _ h => absurd h List.not_mem_nil)
theorem allRuns_len (p : Plan) : (allRuns p).length ≤ 1000 := by
  have h1 := join_len (allLoop p 1000 [] 2) []
  have h2 := allLoop_len p 1000 [] 2
  simp only [List.length_nil, Nat.zero_add] at h1 h2
  exact Nat.le_trans h1 h2
theorem h_by_runs {sp_told : Int → List Dt → DSp} : Hs 6 2 (sp_by_runs sp_told) (t_by_runs sp_joined sp_all_runs sp_told) := by
  rintro ds Q _ ⟨p, n, d0, β, inst, enc, f, ok, rfl, pre, ht, h⟩
  have hl := allRuns_len p
  simp only [t_by_runs, dRet, dCall, dCons, dNil, dLc, iL, dVar, startD_2, List.replicate, thawR_cons, thawR_nil, Option.map_some, Option.map_none, List.getElem?_cons_zero, wipeR, List.set_cons_succ, List.set_cons_zero, thaw_eP]
  refine ⟨rfl, by simp, p, rfl, pre, ?_⟩
  simp only [onL]
  refine lcW_map (eRow eIt) (fun r => some (eRow enc (mapRow f r))) (allRuns p) [] _ (fun r hr R hR => ?_) (by simp [line]; omega) ?_
  · simp [gT_eRow, dRet, dSeq, dAsg, dIfS, dNext, dDrop, dPar, dTup, dLst, dCons, dNil, dOp, dUn, dVar, dC, dB, onB, onI, onL, onT, dAnd, dOr, dNot, dAndV, dOrV, dNotV, dIf, dChain, dCall, dCb, gN, gT_tup, gConsD, gNilD, rIx_tup, rIx_lst, rAdd, rSub, rMul, rFdv, rMod, rPow, rLt, rLe, rGt, rGe, rEq, rNe, rIs, rIsn, rIn, rNin, rNeg, dSl, dPart, dNo, cutD, sLen, sInt, sAbs, sMin2, sMax2, sTuple, dFor, iL, iT, line, PyData.eqv, PyData.eqvAll, eIt]
    refine ⟨n, d0, rfl, ?_⟩
    simp [dRet, dSeq, dAsg, dIfS, dNext, dDrop, dPar, dTup, dLst, dCons, dNil, dOp, dUn, dVar, dC, dB, onB, onI, onL, onT, dAnd, dOr, dNot, dAndV, dOrV, dNotV, dIf, dChain, dCall, dCb, gN, gT_tup, gConsD, gNilD, rIx_tup, rIx_lst, rAdd, rSub, rMul, rFdv, rMod, rPow, rLt, rLe, rGt, rGe, rEq, rNe, rIs, rIsn, rIn, rNin, rNeg, dSl, dPart, dNo, cutD, sLen, sInt, sAbs, sMin2, sMax2, sTuple, dFor, iL, iT, line, PyData.eqv, PyData.eqvAll]
    exact ht r.2.2 (allRuns_item p r hr) _ hR
  · have e : (allRuns p).filterMap (fun r => some (eRow enc (mapRow f r))) = ((allRuns p).map (mapRow f)).map (eRow enc) := by simp
    rw [List.nil_append, e]
    exact ⟨by simp, β, inst, enc, _, ok, rfl, by rw [List.length_map]; omega, h⟩
/-! ### cut -/
theorem isn_some (n : Int) (P : Dt → Prop) : rIsn (eO (some n)) .none P = P (.bool true) := rfl
theorem is_none (P : Dt → Prop) : rIs (eO none) .none P = P (.bool true) := rfl
theorem is_some' (n : Int) (P : Dt → Prop) : rIs (eO (some n)) .none P = P (.bool false) := rfl
theorem le_some (n m : Int) (P : Dt → Prop) : rLe (eO (some n)) (eO (some m)) P = P (.bool (decide (n ≤ m))) := rfl
def inEnd (g : Option Int) (n : Int) : Bool := match g with
  | none => true
  | some e => decide (n ≤ e)
def cutIn {α β : Type} (f : α → Int → β) (ask : α → Int → List Form) (a : α) (g : Option Int) : Nat → List (Row β) → Int → List (Row β)
  | 0, acc, _ => acc
  | k + 1, acc, n => if inEnd g n = true then (match lesserEnd (untilOf (ask a n) n) g with
    | none => acc ++ [(n, none, f a n)]
    | some e => cutIn f ask a g k (acc ++ [(n, some e, f a n)]) (e + 1)) else acc
def cutEnds {α : Type} (ask : α → Int → List Form) (a : α) (g : Option Int) : Nat → Int → Prop
  | 0, _ => False
  | k + 1, n => inEnd g n = true → match lesserEnd (untilOf (ask a n) n) g with
    | none => True
    | some e => cutEnds ask a g k (e + 1)
def cutLoop {α β : Type} (f : α → Int → β) (ask : α → Int → List Form) (rows : List (Row α)) : List (Row β) := rows.foldl (fun acc r => cutIn f ask r.2.2 r.2.1 200 acc r.1) []
def cutRows {α β : Type} [DecidableEq β] (f : α → Int → β) (ask : α → Int → List Form) (rows : List (Row α)) : List (Row β) := joined (cutLoop f ask rows)
/-- what a told value and its question are over a row -/
structure CutPre {α : Type} (ask : α → Int → List Form) (r : Row α) : Prop where
  sm : ∀ n, ∀ f ∈ ask r.2.2 n, sm f
  len : ∀ n, (ask r.2.2 n).length ≤ 10000
  ends : cutEnds ask r.2.2 r.2.1 200 r.1
def sp_cut (sp_told : Int → List Dt → DSp) : DSp := fun ds P => ∃ (α β : Type) (_ : DecidableEq α) (_ : DecidableEq β) (ea : α → Dt) (eb : β → Dt) (rows : List (Row α)) (n : Int) (d0 : List Dt) (f : α → Int → β) (ask : α → Int → List Form), EncOk ea ∧ EncOk eb ∧
  ds = [.list (rows.map (eRow ea)), fnD n d0] ∧ rows.length ≤ 200 ∧ (∀ r ∈ rows, CutPre ask r) ∧
  (∀ r ∈ rows, ∀ m : Int, ∀ R : Dt → Prop, R (.tuple [eb (f r.2.2 m), .tuple ((ask r.2.2 m).map eF)]) → sp_told n d0 [ea r.2.2, .int m] R) ∧ P (.list ((cutRows f ask rows).map (eRow eb)))
theorem cutIn_len {α β : Type} (f : α → Int → β) (ask : α → Int → List Form) (a : α) (g : Option Int) : ∀ (k : Nat) (acc : List (Row β)) (n : Int), (cutIn f ask a g k acc n).length ≤ acc.length + k
  | 0, acc, n => Nat.le_refl _
  | k + 1, acc, n => by
    unfold cutIn
    split
    · split
      · simp
      · rename_i e _
        have := cutIn_len f ask a g k (acc ++ [(n, some e, f a n)]) (e + 1)
        rw [List.length_append, List.length_singleton] at this
        omega
    · omega
def WfC {α β : Type} (eb : β → Dt) (f : α → Int → β) (ask : α → Int → List Form) (a : α) (g : Option Int) (x0 x1 x3 x4 x5 : Option Dt) (fin : List (Row β)) (m : Nat) (ρ : Rho) : Prop := ∃ (acc : List (Row β)) (no : Option Int) (o7 o8 o9 : Option Dt), ρ = [x0, x1, some (.list (acc.map (eRow eb))), x3, x4, x5, some (eO no), o7, o8, o9] ∧
  match no with
  | none => m = 0 ∧ acc = fin
  | some n => ∃ k, m = k + 1 ∧ acc.length + k ≤ 90000 ∧ cutEnds ask a g k n ∧ cutIn f ask a g k acc n = fin
abbrev wIn (sp_told : Int → List Dt → DSp) : DTS := dWhile (dAnd (dB (dOp rIsn (dVar 6) (dC .none))) (dOr (dB (dOp rIs (dVar 4) (dC .none))) (dB (dOp rLe (dVar 6) (dVar 4))))) (dSeq (dAsg (dTold 1 sp_told (dCons (dVar 5) (dCons (dVar 6) dNil))) (gTupD 2 (gConsD (gN 7) (gConsD (gN 8) gNilD))))
  (dSeq (dAsg (dCall 2 sp_lesser_end (dCons (dCall 2 sp_until (dCons (dVar 8) (dCons (dVar 6) dNil))) (dCons (dVar 4) dNil))) (gN 9))
  (dSeq (dAsg (dOp rAdd (dVar 2) (dLst (dCons (dTup (dCons (dVar 6) (dCons (dVar 9) (dCons (dVar 7) dNil)))) dNil))) (gN 2))
  (dAsg (dIf (dB (dOp rIs (dVar 9) (dC .none))) (dC .none) (dOp rAdd (dVar 9) (dC (.int 1)))) (gN 6)))))
theorem loop_cutIn {sp_told : Int → List Dt → DSp} {α β : Type} [DecidableEq α] [DecidableEq β] {ea : α → Dt} {eb : β → Dt} (oa : EncOk ea) (ob : EncOk eb) {f : α → Int → β} {ask : α → Int → List Form} {n0 : Int} {d0 : List Dt} (r : Row α) (pre : CutPre ask r)
    (ht : ∀ m : Int, ∀ R : Dt → Prop, R (.tuple [eb (f r.2.2 m), .tuple ((ask r.2.2 m).map eF)]) → sp_told n0 d0 [ea r.2.2, .int m] R) (x0 : Option Dt) (D : DEnds) (acc : List (Row β)) (hl : acc.length ≤ 80000) (o7 o8 o9 : Option Dt)
    (fin : List (Row β)) (hfin : cutIn f ask r.2.2 r.2.1 200 acc r.1 = fin) (h : ∀ o6 o7 o8 o9 : Option Dt, D.nx [x0, some (fnD n0 d0), some (.list (fin.map (eRow eb))), some (.int r.1), some (eO r.2.1), some (ea r.2.2), o6, o7, o8, o9]) :
    wIn sp_told D [x0, some (fnD n0 d0), some (.list (acc.map (eRow eb))), some (.int r.1), some (eO r.2.1), some (ea r.2.2), some (.int r.1), o7, o8, o9] := by
  refine ⟨WfC eb f ask r.2.2 r.2.1 x0 (some (fnD n0 d0)) (some (.int r.1)) (some (eO r.2.1)) (some (ea r.2.2)) fin, ⟨201, acc, some r.1, o7, o8, o9, rfl, 200, rfl, by omega, pre.ends, hfin⟩, ?_⟩
  rintro m ρ ⟨acc, no, o7, o8, o9, rfl, hw⟩
  cases no with
  | none =>
    obtain ⟨rfl, rfl⟩ := hw
    simp [dRet, dSeq, dAsg, dIfS, dNext, dDrop, dPar, dTup, dLst, dCons, dNil, dOp, dUn, dVar, dC, dB, onB, onI, onL, onT, dAnd, dOr, dNot, dAndV, dOrV, dNotV, dIf, dChain, dCall, dCb, gN, gT_tup, gConsD, gNilD, rIx_tup, rIx_lst, rAdd, rSub, rMul, rFdv, rMod, rPow, rLt, rLe, rGt, rGe, rEq, rNe, rIs, rIsn, rIn, rNin, rNeg, dSl, dPart, dNo, cutD, sLen, sInt, sAbs, sMin2, sMax2, sTuple, dFor, iL, iT, line, PyData.eqv, PyData.eqvAll, eO, isNon]
    exact h _ _ _ _
  | some n =>
    obtain ⟨k, rfl, hk, he, hf⟩ := hw
    cases k with
    | zero => exact he.elim
    | succ k =>
      have body : inEnd r.2.1 n = true → (dSeq (dAsg (dTold 1 sp_told (dCons (dVar 5) (dCons (dVar 6) dNil))) (gTupD 2 (gConsD (gN 7) (gConsD (gN 8) gNilD))))
          (dSeq (dAsg (dCall 2 sp_lesser_end (dCons (dCall 2 sp_until (dCons (dVar 8) (dCons (dVar 6) dNil))) (dCons (dVar 4) dNil))) (gN 9))
          (dSeq (dAsg (dOp rAdd (dVar 2) (dLst (dCons (dTup (dCons (dVar 6) (dCons (dVar 9) (dCons (dVar 7) dNil)))) dNil))) (gN 2))
          (dAsg (dIf (dB (dOp rIs (dVar 9) (dC .none))) (dC .none) (dOp rAdd (dVar 9) (dC (.int 1)))) (gN 6)))))
          { nx := fun ρ2 => ∃ m', m' < k + 1 + 1 ∧ WfC eb f ask r.2.2 r.2.1 x0 (some (fnD n0 d0)) (some (.int r.1)) (some (eO r.2.1)) (some (ea r.2.2)) fin m' ρ2, rt := D.rt, bk := D.nx, ct := fun ρ2 => ∃ m', m' < k + 1 + 1 ∧ WfC eb f ask r.2.2 r.2.1 x0 (some (fnD n0 d0)) (some (.int r.1)) (some (eO r.2.1)) (some (ea r.2.2)) fin m' ρ2 }
          [x0, some (fnD n0 d0), some (.list (acc.map (eRow eb))), some (.int r.1), some (eO r.2.1), some (ea r.2.2), some (eO (some n)), o7, o8, o9] := by
        intro hin
        simp only [dSeq, dAsg]
        refine ⟨n0, d0, rfl, ?_⟩
        simp [dRet, dSeq, dAsg, dIfS, dNext, dDrop, dPar, dTup, dLst, dCons, dNil, dOp, dUn, dVar, dC, dB, onB, onI, onL, onT, dAnd, dOr, dNot, dAndV, dOrV, dNotV, dIf, dChain, dCall, dCb, gN, gT_tup, gConsD, gNilD, rIx_tup, rIx_lst, rAdd, rSub, rMul, rFdv, rMod, rPow, rLt, rLe, rGt, rGe, rEq, rNe, rIs, rIsn, rIn, rNin, rNeg, dSl, dPart, dNo, cutD, sLen, sInt, sAbs, sMin2, sMax2, sTuple, dFor, iL, iT, line, PyData.eqv, PyData.eqvAll, oa.mu]
        refine ht n _ ?_
        simp [dRet, dSeq, dAsg, dIfS, dNext, dDrop, dPar, dTup, dLst, dCons, dNil, dOp, dUn, dVar, dC, dB, onB, onI, onL, onT, dAnd, dOr, dNot, dAndV, dOrV, dNotV, dIf, dChain, dCall, dCb, gN, gT_tup, gConsD, gNilD, rIx_tup, rIx_lst, rAdd, rSub, rMul, rFdv, rMod, rPow, rLt, rLe, rGt, rGe, rEq, rNe, rIs, rIsn, rIn, rNin, rNeg, dSl, dPart, dNo, cutD, sLen, sInt, sAbs, sMin2, sMax2, sTuple, dFor, iL, iT, line, PyData.eqv, PyData.eqvAll, ob.mu]
        refine ⟨ask r.2.2 n, n, rfl, pre.sm n, pre.len n, ?_⟩
        simp
        refine ⟨untilOf (ask r.2.2 n) n, r.2.1, rfl, ?_⟩
        simp
        refine ⟨by omega, ?_⟩
        unfold cutEnds at he
        unfold cutIn at hf
        have he := he hin
        rw [if_pos hin] at hf
        generalize lesserEnd (untilOf (ask r.2.2 n) n) r.2.1 = u at he hf
        cases u with
        | none =>
          simp at hf
          simp [eO, isNon]
          exact ⟨0, by omega, acc ++ [(n, none, f r.2.2 n)], none, _, _, _, by simp [eRow, eO]; exact ⟨rfl, rfl, rfl⟩, rfl, hf⟩
        | some e =>
          simp at hf he
          simp [eO, isNon]
          exact ⟨k + 1, by omega, acc ++ [(n, some e, f r.2.2 n)], some (e + 1), _, _, _, by simp [eRow, eO]; exact ⟨rfl, rfl, rfl⟩, k, rfl, by simp; omega, he, hf⟩
      unfold cutEnds at he
      unfold cutIn at hf
      simp only [dAnd, dOr, dB, dOp, dVar, dC, List.getElem?_cons_zero, List.getElem?_cons_succ, isn_some, onB, if_true]
      refine ⟨isMut_eO _, isMut_eO _, ?_⟩
      cases hg : r.2.1 with
      | none =>
        simp only [hg] at body ⊢
        simp only [is_none, if_true]
        exact body rfl
      | some g =>
        simp only [hg] at body hf ⊢
        simp only [is_some', Bool.false_eq_true, if_false, le_some]
        refine ⟨isMut_eO _, isMut_eO _, ?_⟩
        by_cases hng : n ≤ g
        · simp only [hng, decide_true, if_true]
          exact body (by simp [inEnd, hng])
        · simp only [hng, decide_false, Bool.false_eq_true, if_false]
          simp only [inEnd, hng, decide_false, Bool.false_eq_true, if_false] at hf
          subst hf
          have := h (some (eO (some n))) o7 o8 o9
          rw [hg] at this
          exact this
/-- the walk over the rows -/
theorem loop_cut {sp_told : Int → List Dt → DSp} {α β : Type} [DecidableEq α] [DecidableEq β] {ea : α → Dt} {eb : β → Dt} (oa : EncOk ea) (ob : EncOk eb) {f : α → Int → β} {ask : α → Int → List Form} {n0 : Int} {d0 : List Dt} (x0 : Option Dt) (D : DEnds) (fin : List (Row β))
    (h : ∀ o3 o4 o5 o6 o7 o8 o9 : Option Dt, D.nx [x0, some (fnD n0 d0), some (.list (fin.map (eRow eb))), o3, o4, o5, o6, o7, o8, o9]) : ∀ (rows : List (Row α)) (acc : List (Row β)) (o3 o4 o5 o6 o7 o8 o9 : Option Dt), (∀ r ∈ rows, CutPre ask r) →
    (∀ r ∈ rows, ∀ m : Int, ∀ R : Dt → Prop, R (.tuple [eb (f r.2.2 m), .tuple ((ask r.2.2 m).map eF)]) → sp_told n0 d0 [ea r.2.2, .int m] R) → acc.length + 200 * rows.length ≤ 50000 → rows.foldl (fun acc r => cutIn f ask r.2.2 r.2.1 200 acc r.1) acc = fin →
    forW (gTupD 3 (gConsD (gN 3) (gConsD (gN 4) (gConsD (gN 5) gNilD)))) (dSeq (dAsg (dVar 3) (gN 6)) (wIn sp_told)) (rows.map (eRow ea)) D [x0, some (fnD n0 d0), some (.list (acc.map (eRow eb))), o3, o4, o5, o6, o7, o8, o9]
  | [], acc, o3, o4, o5, o6, o7, o8, o9, _, _, _, hf => by
    subst hf
    exact h _ _ _ _ _ _ _
  | r :: rows, acc, o3, o4, o5, o6, o7, o8, o9, hp, ht, hl, hf => by
    have hl' : acc.length + 200 * (rows.length + 1) ≤ 50000 := hl
    rw [List.foldl_cons] at hf
    have hc := cutIn_len f ask r.2.2 r.2.1 200 acc r.1
    simp only [List.map_cons, forW, gT_eRow, gConsD, gN, gNilD, List.set_cons_zero, List.set_cons_succ]
    refine ⟨trivial, ?_⟩
    simp only [dSeq, dAsg, dVar, List.getElem?_cons_zero, List.getElem?_cons_succ, gN, List.set_cons_zero, List.set_cons_succ]
    refine ⟨rfl, ?_⟩
    refine loop_cutIn oa ob r (hp r (List.mem_cons_self ..)) (ht r (List.mem_cons_self ..)) x0 _ acc (by omega) _ _ _ _ rfl fun o6 o7 o8 o9 => ?_
    exact loop_cut oa ob x0 D fin h rows _ _ _ _ _ _ _ _ (fun q hq => hp q (List.mem_cons_of_mem _ hq)) (fun q hq => ht q (List.mem_cons_of_mem _ hq)) (by omega) hf
theorem h_cut {sp_told : Int → List Dt → DSp} : Hs 10 2 (sp_cut sp_told) (t_cut sp_lesser_end sp_until sp_joined sp_told) := by
  rintro ds Q _ ⟨α, β, i1, i2, ea, eb, rows, n, d0, f, ask, oa, ob, rfl, hl, hp, ht, h⟩
  have hlen : ∀ (rows : List (Row α)) (acc : List (Row β)), (rows.foldl (fun acc r => cutIn f ask r.2.2 r.2.1 200 acc r.1) acc).length ≤ acc.length + 200 * rows.length := by
    intro rows
    induction rows with
    | nil => intro acc; simp
    | cons r rows ih =>
      intro acc
      rw [List.foldl_cons, List.length_cons]
      have h1 := ih (cutIn f ask r.2.2 r.2.1 200 acc r.1)
      have h2 := cutIn_len f ask r.2.2 r.2.1 200 acc r.1
      omega
  have hl2 := hlen rows []
  simp only [t_cut, dSeq, dAsg, dLst, dNil, gN, startD_2, List.replicate, List.set_cons_zero, List.set_cons_succ, dFor, iL, dVar, List.getElem?_cons_zero, List.getElem?_cons_succ, onL]
  refine ⟨by simp, rfl, ?_⟩
  refine loop_cut oa ob (n0 := n) (d0 := d0) _ _ _ (fun o3 o4 o5 o6 o7 o8 o9 => ?_) rows [] none none none none none none none hp ht (by simp; omega) rfl
  simp only [dRet, dCall, dCons, dNil, dVar, thawR_cons, thawR_nil, Option.map_some, List.getElem?_cons_zero, List.getElem?_cons_succ, thaw_list]
  exact ⟨rfl, by simp, β, i2, eb, _, ob, rfl, by simp at hl2; omega, h⟩
end DL
namespace DL
open PySem PySem.Spec PyProof.Rows L2 LamX
/-! Valid plans; likeness. -/
def numB (v : Dt) (lo hi : Int) : Bool := match v with
  | .int i => decide (lo ≤ i) && decide (i ≤ hi)
  | _ => false
def sp_is_number : DSp := fun ds P => ∃ (v : Dt) (lo hi : Int), ds = [v, .int lo, .int hi] ∧ isTy "int" v ≠ none ∧ P (.bool (numB v lo hi))
def sp_is_tuple : DSp := fun ds P => ∃ (xs : List Dt) (lo hi : Int), ds = [.tuple xs, .int lo, .int hi] ∧ P (.bool (decide (lo ≤ (xs.length : Int)) && decide ((xs.length : Int) ≤ hi)))
def sp_is_word : DSp := fun ds P => ∃ (x : Str) (ws : List Dt), ds = [.str x, .tuple ws] ∧ ws.all flatD = true ∧ P (.bool (ws.any fun z => PyData.eqv z (.str x)))
theorem isi_nm : isTy "int" .none = some false := rfl
theorem h_is_number : Hs 3 3 sp_is_number t_is_number := by
  rintro ds Q _ ⟨v, lo, hi, rfl, hv, h⟩
  cases v with
  | none => simp [t_is_number, dRet, dSeq, dAsg, dIfS, dNext, dDrop, dPar, dTup, dLst, dCons, dNil, dOp, dUn, dVar, dC, dB, onB, onI, onL, onT, dAnd, dOr, dNot, dAndV, dOrV, dNotV, dIf, dChain, dCall, dCb, gN, gT_tup, gConsD, gNilD, rIx_tup, rIx_lst, rAdd, rSub, rMul, rFdv, rMod, rPow, rLt, rLe, rGt, rGe, rEq, rNe, rIs, rIsn, rIn, rNin, rNeg, dSl, dPart, dNo, cutD, sLen, sInt, sAbs, sMin2, sMax2, sTuple, dFor, iL, iT, line, PyData.eqv, PyData.eqvAll, dIsi, isTy, numB] at h ⊢; exact h
  | bool b => simp [t_is_number, dRet, dSeq, dAsg, dIfS, dNext, dDrop, dPar, dTup, dLst, dCons, dNil, dOp, dUn, dVar, dC, dB, onB, onI, onL, onT, dAnd, dOr, dNot, dAndV, dOrV, dNotV, dIf, dChain, dCall, dCb, gN, gT_tup, gConsD, gNilD, rIx_tup, rIx_lst, rAdd, rSub, rMul, rFdv, rMod, rPow, rLt, rLe, rGt, rGe, rEq, rNe, rIs, rIsn, rIn, rNin, rNeg, dSl, dPart, dNo, cutD, sLen, sInt, sAbs, sMin2, sMax2, sTuple, dFor, iL, iT, line, PyData.eqv, PyData.eqvAll, dIsi, isTy, numB] at h ⊢; exact h
  | str x => simp [t_is_number, dRet, dSeq, dAsg, dIfS, dNext, dDrop, dPar, dTup, dLst, dCons, dNil, dOp, dUn, dVar, dC, dB, onB, onI, onL, onT, dAnd, dOr, dNot, dAndV, dOrV, dNotV, dIf, dChain, dCall, dCb, gN, gT_tup, gConsD, gNilD, rIx_tup, rIx_lst, rAdd, rSub, rMul, rFdv, rMod, rPow, rLt, rLe, rGt, rGe, rEq, rNe, rIs, rIsn, rIn, rNin, rNeg, dSl, dPart, dNo, cutD, sLen, sInt, sAbs, sMin2, sMax2, sTuple, dFor, iL, iT, line, PyData.eqv, PyData.eqvAll, dIsi, isTy, numB] at h ⊢; exact h
  | list x => simp [t_is_number, dRet, dSeq, dAsg, dIfS, dNext, dDrop, dPar, dTup, dLst, dCons, dNil, dOp, dUn, dVar, dC, dB, onB, onI, onL, onT, dAnd, dOr, dNot, dAndV, dOrV, dNotV, dIf, dChain, dCall, dCb, gN, gT_tup, gConsD, gNilD, rIx_tup, rIx_lst, rAdd, rSub, rMul, rFdv, rMod, rPow, rLt, rLe, rGt, rGe, rEq, rNe, rIs, rIsn, rIn, rNin, rNeg, dSl, dPart, dNo, cutD, sLen, sInt, sAbs, sMin2, sMax2, sTuple, dFor, iL, iT, line, PyData.eqv, PyData.eqvAll, dIsi, isTy, numB] at h ⊢; exact h
  | tuple x => simp [t_is_number, dRet, dSeq, dAsg, dIfS, dNext, dDrop, dPar, dTup, dLst, dCons, dNil, dOp, dUn, dVar, dC, dB, onB, onI, onL, onT, dAnd, dOr, dNot, dAndV, dOrV, dNotV, dIf, dChain, dCall, dCb, gN, gT_tup, gConsD, gNilD, rIx_tup, rIx_lst, rAdd, rSub, rMul, rFdv, rMod, rPow, rLt, rLe, rGt, rGe, rEq, rNe, rIs, rIsn, rIn, rNin, rNeg, dSl, dPart, dNo, cutD, sLen, sInt, sAbs, sMin2, sMax2, sTuple, dFor, iL, iT, line, PyData.eqv, PyData.eqvAll, dIsi, isTy, numB] at h ⊢; exact h
  | dict x => exact absurd rfl hv
  | int i =>
    simp [t_is_number, dRet, dSeq, dAsg, dIfS, dNext, dDrop, dPar, dTup, dLst, dCons, dNil, dOp, dUn, dVar, dC, dB, onB, onI, onL, onT, dAnd, dOr, dNot, dAndV, dOrV, dNotV, dIf, dChain, dCall, dCb, gN, gT_tup, gConsD, gNilD, rIx_tup, rIx_lst, rAdd, rSub, rMul, rFdv, rMod, rPow, rLt, rLe, rGt, rGe, rEq, rNe, rIs, rIsn, rIn, rNin, rNeg, dSl, dPart, dNo, cutD, sLen, sInt, sAbs, sMin2, sMax2, sTuple, dFor, iL, iT, line, PyData.eqv, PyData.eqvAll, dIsi, isTy, numB] at h ⊢
    by_cases h1 : lo ≤ i
    · simp [h1] at h ⊢; exact h
    · simp [h1] at h ⊢; exact h
theorem h_is_tuple : Hs 3 3 sp_is_tuple t_is_tuple := by
  rintro ds Q _ ⟨xs, lo, hi, rfl, h⟩
  simp [t_is_tuple, dRet, dSeq, dAsg, dIfS, dNext, dDrop, dPar, dTup, dLst, dCons, dNil, dOp, dUn, dVar, dC, dB, onB, onI, onL, onT, dAnd, dOr, dNot, dAndV, dOrV, dNotV, dIf, dChain, dCall, dCb, gN, gT_tup, gConsD, gNilD, rIx_tup, rIx_lst, rAdd, rSub, rMul, rFdv, rMod, rPow, rLt, rLe, rGt, rGe, rEq, rNe, rIs, rIsn, rIn, rNin, rNeg, dSl, dPart, dNo, cutD, sLen, sInt, sAbs, sMin2, sMax2, sTuple, dFor, iL, iT, line, PyData.eqv, PyData.eqvAll, dIsi, isTy] at h ⊢
  by_cases h1 : lo ≤ (xs.length : Int)
  · simp [h1] at h ⊢; exact h
  · simp [h1] at h ⊢; exact h
theorem h_is_word : Hs 2 2 sp_is_word t_is_word := by
  rintro ds Q _ ⟨x, ws, rfl, hw, h⟩
  have f : flatD (.str x) = true := rfl
  simp only [t_is_word, dRet, dAndV, dIsi, dVar, startD_2, List.replicate, thawR_cons, thawR_nil, Option.map_some, thaw_str, thaw_tuple, List.getElem?_cons_zero, List.getElem?_cons_succ, isTy]
  refine ⟨rfl, ?_⟩
  simp only [onB, dOp, dVar, List.getElem?_cons_zero, List.getElem?_cons_succ, rIn]
  exact ⟨rfl, rfl, f, hw, h⟩
def RuleOk : Rule → Prop
  | .batch m => 1 ≤ m ∧ m ≤ 3
  | _ => True
def sp_is_good_rule : DSp := fun ds P => ∃ r : Rule, ds = [eRu r] ∧ RuleOk r ∧ P (.bool true)
def sp_is_boat : DSp := fun ds P => ∃ b : Boat, ds = [eB b] ∧ (0 ≤ b.st ∧ b.st ≤ 60) ∧ (1 ≤ b.pc ∧ b.pc ≤ 5) ∧ P (.bool true)
def sp_is_good_plan : DSp := fun ds P => ∃ p : Plan, ds = [eP p] ∧ p.Ok ∧ P (.bool true)
def sp_need_plan : DSp := fun ds P => ∃ p : Plan, ds = [eP p] ∧ p.Ok ∧ P .none
def sp_need_two : DSp := fun ds P => ∃ p q : Plan, ds = [eP p, eP q] ∧ p.Ok ∧ q.Ok ∧ P .none
theorem word3 (x : Str) (h : x = "first" ∨ x = "soon" ∨ x = "batch") : ([PyData.str "first", .str "soon", .str "batch"].any fun z => PyData.eqv z (.str x)) = true := by
  rcases h with rfl | rfl | rfl <;> decide +kernel
theorem h_is_good_rule : Hs 1 1 sp_is_good_rule (t_is_good_rule sp_is_word sp_is_tuple sp_is_number) := by
  rintro ds Q _ ⟨r, rfl, hr, h⟩
  cases r with
  | first =>
    simp [t_is_good_rule, dRet, dSeq, dAsg, dIfS, dNext, dDrop, dPar, dTup, dLst, dCons, dNil, dOp, dUn, dVar, dC, dB, onB, onI, onL, onT, dAnd, dOr, dNot, dAndV, dOrV, dNotV, dIf, dChain, dCall, dCb, gN, gT_tup, gConsD, gNilD, rIx_tup, rIx_lst, rAdd, rSub, rMul, rFdv, rMod, rPow, rLt, rLe, rGt, rGe, rEq, rNe, rIs, rIsn, rIn, rNin, rNeg, dSl, dPart, dNo, cutD, sLen, sInt, sAbs, sMin2, sMax2, sTuple, dFor, iL, iT, line, PyData.eqv, PyData.eqvAll, eRu]
    refine ⟨_, _, _, rfl, ?_⟩
    simp [dRet, dSeq, dAsg, dIfS, dNext, dDrop, dPar, dTup, dLst, dCons, dNil, dOp, dUn, dVar, dC, dB, onB, onI, onL, onT, dAnd, dOr, dNot, dAndV, dOrV, dNotV, dIf, dChain, dCall, dCb, gN, gT_tup, gConsD, gNilD, rIx_tup, rIx_lst, rAdd, rSub, rMul, rFdv, rMod, rPow, rLt, rLe, rGt, rGe, rEq, rNe, rIs, rIsn, rIn, rNin, rNeg, dSl, dPart, dNo, cutD, sLen, sInt, sAbs, sMin2, sMax2, sTuple, dFor, iL, iT, line, PyData.eqv, PyData.eqvAll]
    refine ⟨_, _, rfl, rfl, ?_⟩
    rw [word3 _ (.inl rfl)]
    simp [st_fb]
    exact h
  | soon =>
    simp [t_is_good_rule, dRet, dSeq, dAsg, dIfS, dNext, dDrop, dPar, dTup, dLst, dCons, dNil, dOp, dUn, dVar, dC, dB, onB, onI, onL, onT, dAnd, dOr, dNot, dAndV, dOrV, dNotV, dIf, dChain, dCall, dCb, gN, gT_tup, gConsD, gNilD, rIx_tup, rIx_lst, rAdd, rSub, rMul, rFdv, rMod, rPow, rLt, rLe, rGt, rGe, rEq, rNe, rIs, rIsn, rIn, rNin, rNeg, dSl, dPart, dNo, cutD, sLen, sInt, sAbs, sMin2, sMax2, sTuple, dFor, iL, iT, line, PyData.eqv, PyData.eqvAll, eRu]
    refine ⟨_, _, _, rfl, ?_⟩
    simp [dRet, dSeq, dAsg, dIfS, dNext, dDrop, dPar, dTup, dLst, dCons, dNil, dOp, dUn, dVar, dC, dB, onB, onI, onL, onT, dAnd, dOr, dNot, dAndV, dOrV, dNotV, dIf, dChain, dCall, dCb, gN, gT_tup, gConsD, gNilD, rIx_tup, rIx_lst, rAdd, rSub, rMul, rFdv, rMod, rPow, rLt, rLe, rGt, rGe, rEq, rNe, rIs, rIsn, rIn, rNin, rNeg, dSl, dPart, dNo, cutD, sLen, sInt, sAbs, sMin2, sMax2, sTuple, dFor, iL, iT, line, PyData.eqv, PyData.eqvAll]
    refine ⟨_, _, rfl, rfl, ?_⟩
    rw [word3 _ (.inr (.inl rfl))]
    simp [st_sb]
    exact h
  | batch m =>
    have hr' : 1 ≤ m ∧ m ≤ 3 := hr
    simp [t_is_good_rule, dRet, dSeq, dAsg, dIfS, dNext, dDrop, dPar, dTup, dLst, dCons, dNil, dOp, dUn, dVar, dC, dB, onB, onI, onL, onT, dAnd, dOr, dNot, dAndV, dOrV, dNotV, dIf, dChain, dCall, dCb, gN, gT_tup, gConsD, gNilD, rIx_tup, rIx_lst, rAdd, rSub, rMul, rFdv, rMod, rPow, rLt, rLe, rGt, rGe, rEq, rNe, rIs, rIsn, rIn, rNin, rNeg, dSl, dPart, dNo, cutD, sLen, sInt, sAbs, sMin2, sMax2, sTuple, dFor, iL, iT, line, PyData.eqv, PyData.eqvAll, eRu]
    refine ⟨_, _, _, rfl, ?_⟩
    simp [dRet, dSeq, dAsg, dIfS, dNext, dDrop, dPar, dTup, dLst, dCons, dNil, dOp, dUn, dVar, dC, dB, onB, onI, onL, onT, dAnd, dOr, dNot, dAndV, dOrV, dNotV, dIf, dChain, dCall, dCb, gN, gT_tup, gConsD, gNilD, rIx_tup, rIx_lst, rAdd, rSub, rMul, rFdv, rMod, rPow, rLt, rLe, rGt, rGe, rEq, rNe, rIs, rIsn, rIn, rNin, rNeg, dSl, dPart, dNo, cutD, sLen, sInt, sAbs, sMin2, sMax2, sTuple, dFor, iL, iT, line, PyData.eqv, PyData.eqvAll]
    refine ⟨_, _, rfl, rfl, ?_⟩
    rw [word3 _ (.inr (.inr rfl))]
    simp [dRet, dSeq, dAsg, dIfS, dNext, dDrop, dPar, dTup, dLst, dCons, dNil, dOp, dUn, dVar, dC, dB, onB, onI, onL, onT, dAnd, dOr, dNot, dAndV, dOrV, dNotV, dIf, dChain, dCall, dCb, gN, gT_tup, gConsD, gNilD, rIx_tup, rIx_lst, rAdd, rSub, rMul, rFdv, rMod, rPow, rLt, rLe, rGt, rGe, rEq, rNe, rIs, rIsn, rIn, rNin, rNeg, dSl, dPart, dNo, cutD, sLen, sInt, sAbs, sMin2, sMax2, sTuple, dFor, iL, iT, line, PyData.eqv, PyData.eqvAll]
    refine ⟨_, _, _, rfl, by simp [isTy], ?_⟩
    simp [numB, hr'.1, hr'.2]
    exact h
theorem wayIn (b : Bool) : ([PyData.str "up", .str "down"].any fun z => PyData.eqv z (.str (wS b))) = true := by cases b <;> decide +kernel
theorem h_is_boat : Hs 1 1 sp_is_boat (t_is_boat sp_is_word sp_is_tuple sp_is_number) := by
  rintro ds Q _ ⟨b, rfl, hs, hp, h⟩
  simp [t_is_boat, dRet, dSeq, dAsg, dIfS, dNext, dDrop, dPar, dTup, dLst, dCons, dNil, dOp, dUn, dVar, dC, dB, onB, onI, onL, onT, dAnd, dOr, dNot, dAndV, dOrV, dNotV, dIf, dChain, dCall, dCb, gN, gT_tup, gConsD, gNilD, rIx_tup, rIx_lst, rAdd, rSub, rMul, rFdv, rMod, rPow, rLt, rLe, rGt, rGe, rEq, rNe, rIs, rIsn, rIn, rNin, rNeg, dSl, dPart, dNo, cutD, sLen, sInt, sAbs, sMin2, sMax2, sTuple, dFor, iL, iT, line, PyData.eqv, PyData.eqvAll, eB, d_WAYS]
  refine ⟨_, _, _, rfl, ?_⟩
  simp [dRet, dSeq, dAsg, dIfS, dNext, dDrop, dPar, dTup, dLst, dCons, dNil, dOp, dUn, dVar, dC, dB, onB, onI, onL, onT, dAnd, dOr, dNot, dAndV, dOrV, dNotV, dIf, dChain, dCall, dCb, gN, gT_tup, gConsD, gNilD, rIx_tup, rIx_lst, rAdd, rSub, rMul, rFdv, rMod, rPow, rLt, rLe, rGt, rGe, rEq, rNe, rIs, rIsn, rIn, rNin, rNeg, dSl, dPart, dNo, cutD, sLen, sInt, sAbs, sMin2, sMax2, sTuple, dFor, iL, iT, line, PyData.eqv, PyData.eqvAll]
  refine ⟨_, _, rfl, rfl, ?_⟩
  rw [wayIn]
  simp [dRet, dSeq, dAsg, dIfS, dNext, dDrop, dPar, dTup, dLst, dCons, dNil, dOp, dUn, dVar, dC, dB, onB, onI, onL, onT, dAnd, dOr, dNot, dAndV, dOrV, dNotV, dIf, dChain, dCall, dCb, gN, gT_tup, gConsD, gNilD, rIx_tup, rIx_lst, rAdd, rSub, rMul, rFdv, rMod, rPow, rLt, rLe, rGt, rGe, rEq, rNe, rIs, rIsn, rIn, rNin, rNeg, dSl, dPart, dNo, cutD, sLen, sInt, sAbs, sMin2, sMax2, sTuple, dFor, iL, iT, line, PyData.eqv, PyData.eqvAll]
  refine ⟨_, _, _, rfl, by simp [isTy], ?_⟩
  simp [numB, hs.1, hs.2, dRet, dSeq, dAsg, dIfS, dNext, dDrop, dPar, dTup, dLst, dCons, dNil, dOp, dUn, dVar, dC, dB, onB, onI, onL, onT, dAnd, dOr, dNot, dAndV, dOrV, dNotV, dIf, dChain, dCall, dCb, gN, gT_tup, gConsD, gNilD, rIx_tup, rIx_lst, rAdd, rSub, rMul, rFdv, rMod, rPow, rLt, rLe, rGt, rGe, rEq, rNe, rIs, rIsn, rIn, rNin, rNeg, dSl, dPart, dNo, cutD, sLen, sInt, sAbs, sMin2, sMax2, sTuple, dFor, iL, iT, line, PyData.eqv, PyData.eqvAll]
  refine ⟨_, _, _, rfl, by simp [isTy], ?_⟩
  simp [numB, hp.1, hp.2]
  exact h
theorem h_is_good_plan : Hs 2 1 sp_is_good_plan (t_is_good_plan sp_is_good_rule sp_is_number sp_is_tuple sp_is_boat) := by
  rintro ds Q _ ⟨p, rfl, ok, h⟩
  have l0 := ok.len0
  have l5 := ok.len1
  simp [t_is_good_plan, dSeq, dIfS, dOr, dNot, dB, dCall, dCons, dNil, dVar, dC, onB, List.replicate, dOp, rIx_eP0, rIx_eP1, rIx_eP2, rIx_eRun0, rIx_eRun1, rIx_eRun2, rIx_eB0, rIx_eB1, rIx_eB2, rIx_eF0, rIx_eF1, rIx_eFF0, rIx_eFF1, gT_eRun, gT_eF, gT_eFF, wS_inj, st_bs, st_bf, st_fs, st_fb, st_sb, st_sf]
  refine ⟨[_, _, _], _, _, rfl, ?_⟩
  simp
  refine ⟨_, _, _, rfl, by simp [isTy], ?_⟩
  simp [numB, ok.g0, ok.g1]
  refine ⟨p.rule, rfl, ?_, ?_⟩
  · unfold RuleOk
    split
    · rename_i m e
      exact ok.rule m e
    · trivial
  simp [dNext, dRet, dAndV, dCall, dCons, dNil, dVar, dC, dOp, rIx_eP0, rIx_eP1, rIx_eP2, rIx_eRun0, rIx_eRun1, rIx_eRun2, rIx_eB0, rIx_eB1, rIx_eB2, rIx_eF0, rIx_eF1, rIx_eFF0, rIx_eFF1, gT_eRun, gT_eF, gT_eFF, wS_inj, st_bs, st_bf, st_fs, st_fb, st_sb, st_sf]
  refine ⟨_, _, _, rfl, ?_⟩
  have e1 : ((1 : Int) ≤ ((p.boats.map eB).length : Int)) := by rw [List.length_map]; omega
  have e2 : (((p.boats.map eB).length : Int) ≤ 5) := by rw [List.length_map]; omega
  simp only [e1, e2, decide_true, Bool.and_self, onB, if_true]
  simp [dCb, dCons, dNil, dLc, iT, dOp, dVar, dC, rIx_eP0, rIx_eP1, rIx_eP2, rIx_eRun0, rIx_eRun1, rIx_eRun2, rIx_eB0, rIx_eB1, rIx_eB2, rIx_eF0, rIx_eF1, rIx_eFF0, rIx_eFF1, gT_eRun, gT_eF, gT_eFF, wS_inj, st_bs, st_bf, st_fs, st_fb, st_sb, st_sf, onT, wipeR]
  refine lcW_all eB (fun _ => .bool true) p.boats _ (fun b hb R hR => ?_) (by unfold line; omega) ?_
  · simp [dRet, dSeq, dAsg, dIfS, dNext, dDrop, dPar, dTup, dLst, dCons, dNil, dOp, dUn, dVar, dC, dB, onB, onI, onL, onT, dAnd, dOr, dNot, dAndV, dOrV, dNotV, dIf, dChain, dCall, dCb, gN, gT_tup, gConsD, gNilD, rIx_tup, rIx_lst, rAdd, rSub, rMul, rFdv, rMod, rPow, rLt, rLe, rGt, rGe, rEq, rNe, rIs, rIsn, rIn, rNin, rNeg, dSl, dPart, dNo, cutD, sLen, sInt, sAbs, sMin2, sMax2, sTuple, dFor, iL, iT, line, PyData.eqv, PyData.eqvAll]
    exact ⟨b, rfl, ok.st0 b hb, ok.pc0 b hb, hR⟩
  · refine ⟨p.boats.map fun _ => true, by simp, ?_⟩
    have : (p.boats.map fun _ => true).all id = true := by simp
    rw [this]
    exact h
theorem h_need_plan : Hs 1 1 sp_need_plan (t_need_plan sp_is_good_plan) := by
  rintro ds Q _ ⟨p, rfl, ok, h⟩
  simp [t_need_plan, dRet, dSeq, dAsg, dIfS, dNext, dDrop, dPar, dTup, dLst, dCons, dNil, dOp, dUn, dVar, dC, dB, onB, onI, onL, onT, dAnd, dOr, dNot, dAndV, dOrV, dNotV, dIf, dChain, dCall, dCb, gN, gT_tup, gConsD, gNilD, rIx_tup, rIx_lst, rAdd, rSub, rMul, rFdv, rMod, rPow, rLt, rLe, rGt, rGe, rEq, rNe, rIs, rIsn, rIn, rNin, rNeg, dSl, dPart, dNo, cutD, sLen, sInt, sAbs, sMin2, sMax2, sTuple, dFor, iL, iT, line, PyData.eqv, PyData.eqvAll]
  exact ⟨p, rfl, ok, by simpa using h⟩
theorem h_need_two : Hs 2 2 sp_need_two (t_need_two sp_need_plan) := by
  rintro ds Q _ ⟨p, q, rfl, ok, oq, h⟩
  simp [t_need_two, dRet, dSeq, dAsg, dIfS, dNext, dDrop, dPar, dTup, dLst, dCons, dNil, dOp, dUn, dVar, dC, dB, onB, onI, onL, onT, dAnd, dOr, dNot, dAndV, dOrV, dNotV, dIf, dChain, dCall, dCb, gN, gT_tup, gConsD, gNilD, rIx_tup, rIx_lst, rAdd, rSub, rMul, rFdv, rMod, rPow, rLt, rLe, rGt, rGe, rEq, rNe, rIs, rIsn, rIn, rNin, rNeg, dSl, dPart, dNo, cutD, sLen, sInt, sAbs, sMin2, sMax2, sTuple, dFor, iL, iT, line, PyData.eqv, PyData.eqvAll]
  refine ⟨p, rfl, ok, ?_⟩
  simp
  exact ⟨q, rfl, oq, h⟩
end DL
namespace DL
open PySem PySem.Spec PyProof.Rows L2 LamX
/-! Likeness: gaps, the same, parting. -/
abbrev FF := Form × Form
def eFs (l : List FF) : Dt := .tuple (l.map eFF)
@[simp] theorem isMut_eFs (l : List FF) : isMut (eFs l) = false := rfl
@[simp] theorem thaw_eFs (l : List FF) : thaw (eFs l) = eFs l := rfl
theorem enc_fs : EncOk eFs := ⟨fun a => (Gd.tup (n := 2) (GdA.map fun q _ => gd_eFF q)).mono (by decide), fun a b => eqvAll_map eqv_eFF a b, fun _ => rfl, fun _ => rfl⟩
theorem enc_pair {α β : Type} [DecidableEq α] [DecidableEq β] {e : α → Dt} {f : β → Dt} (oe : EncOk e) (of : EncOk f) (ge : ∀ a, Gd 30 (e a)) (gf : ∀ a, Gd 30 (f a)) : EncOk (ePair e f) := by
  refine ⟨fun a => (Gd.tup (GdA.cons (ge _) (GdA.cons (gf _) GdA.nil))).mono (by decide), fun a b => ?_, fun _ => rfl, fun _ => rfl⟩
  show ((PyData.eqv (e a.1) (e b.1) && (PyData.eqv (f a.2) (f b.2) && true)) : Bool) = _
  rw [Bool.and_true, oe.eq, of.eq]
  by_cases h1 : a.1 = b.1 <;> by_cases h2 : a.2 = b.2 <;> simp [h1, h2, Prod.ext_iff]
theorem gd_eFs (a : List FF) : Gd 3 (eFs a) := Gd.tup (n := 2) (GdA.map fun q _ => gd_eFF q)
def gapsOf (xs ys : List FF) : List Form := (xs.zip ys).flatMap fun q => [fsub q.1.1 q.2.1, fsub q.1.2 q.2.2]
theorem gaps_len (xs ys : List FF) : (gapsOf xs ys).length ≤ 2 * xs.length := by
  unfold gapsOf
  have : ∀ l : List (FF × FF), (l.flatMap fun q => [fsub q.1.1 q.2.1, fsub q.1.2 q.2.2]).length = 2 * l.length := by
    intro l
    induction l with
    | nil => rfl
    | cons a r ih => rw [List.flatMap_cons, List.length_append, ih, List.length_cons]; simp; omega
  rw [this, List.length_zip]
  omega
def sp_gaps_of : DSp := fun ds P => ∃ xs ys : List FF, ds = [eFs xs, eFs ys] ∧ xs.length ≤ 1000 ∧ P (.tuple ((gapsOf xs ys).map eF))
theorem loop_gaps (x0 x1 : Option Dt) (Q : Dt → Prop) : ∀ (l : List (FF × FF)) (acc : List Form) (o3 o4 : Option Dt), acc.length + 2 * l.length ≤ 5000 → Q (.tuple ((acc ++ l.flatMap fun q => [fsub q.1.1 q.2.1, fsub q.1.2 q.2.2]).map eF)) →
    forW (gTupD 2 (gConsD (gN 3) (gConsD (gN 4) gNilD))) (dAsg (dOp rAdd (dVar 2) (dTup (dCons (dCall 2 sp_less (dCons (dOp rIx (dVar 3) (dC (.int 0))) (dCons (dOp rIx (dVar 4) (dC (.int 0))) dNil))) (dCons (dCall 2 sp_less (dCons (dOp rIx (dVar 3) (dC (.int 1))) (dCons (dOp rIx (dVar 4) (dC (.int 1))) dNil))) dNil)))) (gN 2))
      (l.map fun q => PyData.tuple [eFF q.1, eFF q.2]) { nx := dRet (dVar 2) { nx := fun _ => Q .none, rt := Q }, rt := Q } [x0, x1, some (.tuple (acc.map eF)), o3, o4]
  | [], acc, o3, o4, hl, h => by
    simp at h
    simp [forW, dRet, dSeq, dAsg, dIfS, dNext, dDrop, dPar, dTup, dLst, dCons, dNil, dOp, dUn, dVar, dC, dB, onB, onI, onL, onT, dAnd, dOr, dNot, dAndV, dOrV, dNotV, dIf, dChain, dCall, dCb, gN, gT_tup, gConsD, gNilD, rIx_tup, rIx_lst, rAdd, rSub, rMul, rFdv, rMod, rPow, rLt, rLe, rGt, rGe, rEq, rNe, rIs, rIsn, rIn, rNin, rNeg, dSl, dPart, dNo, cutD, sLen, sInt, sAbs, sMin2, sMax2, sTuple, dFor, iL, iT, line, PyData.eqv, PyData.eqvAll]
    exact h
  | q :: l, acc, o3, o4, hl, h => by
    have hl' : acc.length + 2 * (l.length + 1) ≤ 5000 := hl
    have ih := loop_gaps x0 x1 Q l (acc ++ [fsub q.1.1 q.2.1, fsub q.1.2 q.2.2]) (some (eFF q.1)) (some (eFF q.2)) (by simp; omega) (by simpa using h)
    simp [forW, dRet, dSeq, dAsg, dIfS, dNext, dDrop, dPar, dTup, dLst, dCons, dNil, dOp, dUn, dVar, dC, dB, onB, onI, onL, onT, dAnd, dOr, dNot, dAndV, dOrV, dNotV, dIf, dChain, dCall, dCb, gN, gT_tup, gConsD, gNilD, rIx_tup, rIx_lst, rAdd, rSub, rMul, rFdv, rMod, rPow, rLt, rLe, rGt, rGe, rEq, rNe, rIs, rIsn, rIn, rNin, rNeg, dSl, dPart, dNo, cutD, sLen, sInt, sAbs, sMin2, sMax2, sTuple, dFor, iL, iT, line, PyData.eqv, PyData.eqvAll, rIx_eP0, rIx_eP1, rIx_eP2, rIx_eRun0, rIx_eRun1, rIx_eRun2, rIx_eB0, rIx_eB1, rIx_eB2, rIx_eF0, rIx_eF1, rIx_eFF0, rIx_eFF1, gT_eRun, gT_eF, gT_eFF, wS_inj, st_bs, st_bf, st_fs, st_fb, st_sb, st_sf]
    refine ⟨q.1.1, q.2.1, rfl, ?_⟩
    simp [rIx_eP0, rIx_eP1, rIx_eP2, rIx_eRun0, rIx_eRun1, rIx_eRun2, rIx_eB0, rIx_eB1, rIx_eB2, rIx_eF0, rIx_eF1, rIx_eFF0, rIx_eFF1, gT_eRun, gT_eF, gT_eFF, wS_inj, st_bs, st_bf, st_fs, st_fb, st_sb, st_sf]
    refine ⟨q.1.2, q.2.2, rfl, ?_⟩
    simp
    refine ⟨by omega, ?_⟩
    simp [dRet, dSeq, dAsg, dIfS, dNext, dDrop, dPar, dTup, dLst, dCons, dNil, dOp, dUn, dVar, dC, dB, onB, onI, onL, onT, dAnd, dOr, dNot, dAndV, dOrV, dNotV, dIf, dChain, dCall, dCb, gN, gT_tup, gConsD, gNilD, rIx_tup, rIx_lst, rAdd, rSub, rMul, rFdv, rMod, rPow, rLt, rLe, rGt, rGe, rEq, rNe, rIs, rIsn, rIn, rNin, rNeg, dSl, dPart, dNo, cutD, sLen, sInt, sAbs, sMin2, sMax2, sTuple, dFor, iL, iT, line, PyData.eqv, PyData.eqvAll] at ih
    exact ih
theorem h_gaps_of : Hs 5 2 sp_gaps_of (t_gaps_of sp_less) := by
  rintro ds Q _ ⟨xs, ys, rfl, hl, h⟩
  have e : zipD (xs.map eFF) (ys.map eFF) = (xs.zip ys).map fun q => PyData.tuple [eFF q.1, eFF q.2] := by
    unfold zipD
    rw [List.zip_map, List.map_map]
    rfl
  have := loop_gaps (some (eFs xs)) (some (eFs ys)) Q (xs.zip ys) [] none none (by rw [List.length_zip]; simp; omega) (by simpa [gapsOf] using h)
  rw [← e] at this
  simp only [t_gaps_of, dSeq, dAsg, dTup, dNil, gN, startD_2, List.replicate, List.set_cons_zero, List.set_cons_succ, dFor, iZT, dCons, dVar, List.getElem?_cons_zero, List.getElem?_cons_succ]
  refine ⟨by simp, rfl, rfl, ?_⟩
  exact this
def sameAll (pr : List FF × List FF) (n : Int) : Bool := (gapsOf pr.1 pr.2).all fun f => sgn f n == 0
def askSame (pr : List FF × List FF) (_n : Int) : List Form := gapsOf pr.1 pr.2
def ePr2 : List FF × List FF → Dt := ePair eFs eFs
theorem enc_pr2 : EncOk ePr2 := enc_pair enc_fs enc_fs (fun a => (gd_eFs a).mono (by decide)) (fun a => (gd_eFs a).mono (by decide))
def sp_is_same : DSp := fun ds P => ∃ (pr : List FF × List FF) (n : Int), ds = [ePr2 pr, .int n] ∧ pr.1.length ≤ 1000 ∧ (∀ f ∈ gapsOf pr.1 pr.2, sm f) ∧ P (.tuple [eBl (sameAll pr n), .tuple ((askSame pr n).map eF)])
theorem rIx_pr0 (pr : List FF × List FF) (P : Dt → Prop) : rIx (ePr2 pr) (.int 0) P = P (eFs pr.1) := by simp [ePr2, ePair, rIx]
theorem rIx_pr1 (pr : List FF × List FF) (P : Dt → Prop) : rIx (ePr2 pr) (.int 1) P = P (eFs pr.2) := by simp [ePr2, ePair, rIx]
theorem h_is_same : Hs 4 2 sp_is_same (t_is_same sp_gaps_of sp_sign_of) := by
  rintro ds Q _ ⟨pr, n, rfl, hl, hs, h⟩
  have hg := gaps_len pr.1 pr.2
  simp only [t_is_same, dSeq, dAsg, dCall, dCons, dNil, dOp, dVar, dC, startD_2, List.replicate, List.getElem?_cons_zero, List.getElem?_cons_succ, rIx_pr0, rIx_pr1]
  refine ⟨rfl, rfl, by simp, pr.1, pr.2, rfl, hl, ?_⟩
  simp only [gN, List.set_cons_zero, List.set_cons_succ, dRet, thawR_cons, thawR_nil, Option.map_some, Option.map_none, dTup, dCons, dCb, dLc, iT, dVar, List.getElem?_cons_zero, List.getElem?_cons_succ, thaw_tuple, onT, wipeR, dNil]
  refine ⟨rfl, ?_⟩
  refine lcW_all eF (fun f => .bool (sgn f n == 0)) (gapsOf pr.1 pr.2) _ (fun f hf R hR => ?_) (by unfold line; omega) ?_
  · simp [dRet, dSeq, dAsg, dIfS, dNext, dDrop, dPar, dTup, dLst, dCons, dNil, dOp, dUn, dVar, dC, dB, onB, onI, onL, onT, dAnd, dOr, dNot, dAndV, dOrV, dNotV, dIf, dChain, dCall, dCb, gN, gT_tup, gConsD, gNilD, rIx_tup, rIx_lst, rAdd, rSub, rMul, rFdv, rMod, rPow, rLt, rLe, rGt, rGe, rEq, rNe, rIs, rIsn, rIn, rNin, rNeg, dSl, dPart, dNo, cutD, sLen, sInt, sAbs, sMin2, sMax2, sTuple, dFor, iL, iT, line, PyData.eqv, PyData.eqvAll]
    exact ⟨f, n, rfl, hs f hf, by simpa [PyData.eqv] using hR⟩
  · refine ⟨(gapsOf pr.1 pr.2).map fun f => sgn f n == 0, by simp, ?_⟩
    simp only [List.all_map]
    refine ⟨rfl, by simp [line], ?_⟩
    exact h
/-! ### what the defs that take functions ask of them -/
def sp_told1 : Int → List Dt → DSp := fun n _ args P => (n = 0 ∧ ∃ (o : List Nat) (fs : List FF), args = [.tuple (o.map eN), eFs fs] ∧ P (eFs fs))
def sp_told2 : Int → List Dt → DSp := fun n _ args P => n = 100 ∧ sp_is_same args P
def allForms (p : Plan) : List (Row (List FF)) := joined ((allRuns p).map (mapRow fun x => x.2))
def sp_all_forms : DSp := fun ds P => ∃ p : Plan, ds = [eP p] ∧ AllPre p ∧ P (.list ((allForms p).map (eRow eFs)))
theorem h_all_forms : Hs 1 1 sp_all_forms (t_all_forms (sp_by_runs sp_told1)) := by
  rintro ds Q _ ⟨p, rfl, pre, h⟩
  simp [t_all_forms, dRet, dSeq, dAsg, dIfS, dNext, dDrop, dPar, dTup, dLst, dCons, dNil, dOp, dUn, dVar, dC, dB, onB, onI, onL, onT, dAnd, dOr, dNot, dAndV, dOrV, dNotV, dIf, dChain, dCall, dCb, gN, gT_tup, gConsD, gNilD, rIx_tup, rIx_lst, rAdd, rSub, rMul, rFdv, rMod, rPow, rLt, rLe, rGt, rGe, rEq, rNe, rIs, rIsn, rIn, rNin, rNeg, dSl, dPart, dNo, cutD, sLen, sInt, sAbs, sMin2, sMax2, sTuple, dFor, iL, iT, line, PyData.eqv, PyData.eqvAll]
  exact ⟨p, 0, [], List FF, inferInstance, eFs, fun x => x.2, enc_fs, rfl, pre, fun x _ R hR => ⟨rfl, x.1, x.2, rfl, hR⟩, h⟩
structure PartPre (a b : Plan) : Prop where
  pa : AllPre a
  pb : AllPre b
  la : (allForms a).length ≤ 200
  lb : (allForms b).length ≤ 200
  lo : (bothRows (allForms a) (allForms b)).length ≤ 200
  cut : ∀ r ∈ bothRows (allForms a) (allForms b), CutPre askSame r
  len : ∀ r ∈ bothRows (allForms a) (allForms b), r.2.2.1.length ≤ 1000
def partNum (a b : Plan) : Option Int := if a.boats.length ≠ b.boats.length then some 2 else firstFalse (cutRows sameAll askSame (bothRows (allForms a) (allForms b)))
def sp_parting_number : DSp := fun ds P => ∃ a b : Plan, ds = [eP a, eP b] ∧ (a.boats.length = b.boats.length → PartPre a b) ∧ P (eO (partNum a b))
theorem cut_len {α β : Type} [DecidableEq β] (f : α → Int → β) (ask : α → Int → List Form) (rows : List (Row α)) : (cutRows f ask rows).length ≤ 200 * rows.length := by
  have hlen : ∀ (rows : List (Row α)) (acc : List (Row β)), (rows.foldl (fun acc r => cutIn f ask r.2.2 r.2.1 200 acc r.1) acc).length ≤ acc.length + 200 * rows.length := by
    intro rows
    induction rows with
    | nil => intro acc; simp
    | cons r rows ih =>
      intro acc
      rw [List.foldl_cons, List.length_cons]
      have h1 := ih (cutIn f ask r.2.2 r.2.1 200 acc r.1)
      have h2 := cutIn_len f ask r.2.2 r.2.1 200 acc r.1
      omega
  have h1 := join_len (cutLoop f ask rows) []
  have h2 := hlen rows []
  simp only [List.length_nil, Nat.zero_add] at h1 h2
  exact Nat.le_trans h1 h2
theorem h_parting_number : Hs 2 2 sp_parting_number (t_parting_number sp_first_false (sp_cut sp_told2) sp_both sp_all_forms) := by
  rintro ds Q _ ⟨a, b, rfl, hp, h⟩
  unfold partNum at h
  simp [t_parting_number, dRet, dSeq, dAsg, dIfS, dNext, dDrop, dPar, dTup, dLst, dCons, dNil, dOp, dUn, dVar, dC, dB, onB, onI, onL, onT, dAnd, dOr, dNot, dAndV, dOrV, dNotV, dIf, dChain, dCall, dCb, gN, gT_tup, gConsD, gNilD, rIx_tup, rIx_lst, rAdd, rSub, rMul, rFdv, rMod, rPow, rLt, rLe, rGt, rGe, rEq, rNe, rIs, rIsn, rIn, rNin, rNeg, dSl, dPart, dNo, cutD, sLen, sInt, sAbs, sMin2, sMax2, sTuple, dFor, iL, iT, line, PyData.eqv, PyData.eqvAll, rIx_eP0, rIx_eP1, rIx_eP2, rIx_eRun0, rIx_eRun1, rIx_eRun2, rIx_eB0, rIx_eB1, rIx_eB2, rIx_eF0, rIx_eF1, rIx_eFF0, rIx_eFF1, gT_eRun, gT_eF, gT_eFF, wS_inj, st_bs, st_bf, st_fs, st_fb, st_sb, st_sf]
  by_cases he : a.boats.length = b.boats.length
  · have pp := hp he
    have hc := cut_len sameAll askSame (bothRows (allForms a) (allForms b))
    have hlo := pp.lo
    rw [if_neg (by simpa using he)] at h
    have he' : ((a.boats.length : Int) = (b.boats.length : Int)) := by omega
    simp [he']
    refine ⟨a, rfl, pp.pa, ?_⟩
    refine ⟨b, rfl, pp.pb, ?_⟩
    refine ⟨_, _, inferInstance, inferInstance, eFs, eFs, _, _, enc_fs, enc_fs, rfl, pp.la, pp.lb, ?_⟩
    refine ⟨_, _, inferInstance, inferInstance, ePr2, eBl, _, _, _, sameAll, askSame, enc_pr2, enc_bl, rfl, pp.lo, pp.cut, fun r hr m R hR => ⟨rfl, r.2.2, m, rfl, pp.len r hr, (pp.cut r hr).sm m, hR⟩, ?_⟩
    exact ⟨_, rfl, by omega, h⟩
  · rw [if_pos he] at h
    have he' : ¬ ((a.boats.length : Int) = (b.boats.length : Int)) := by omega
    simp [he']
    exact h
def sp_alike : DSp := fun ds P => ∃ a b : Plan, ds = [eP a, eP b] ∧ a.Ok ∧ b.Ok ∧ (a.boats.length = b.boats.length → PartPre a b) ∧ P (.bool (decide (partNum a b = none)))
def sp_parting : DSp := fun ds P => ∃ a b : Plan, ds = [eP a, eP b] ∧ a.Ok ∧ b.Ok ∧ (a.boats.length = b.boats.length → PartPre a b) ∧ P (eO (partNum a b))
theorem h_alike : Hs 2 2 sp_alike (t_alike sp_need_two sp_parting_number) := by
  rintro ds Q _ ⟨a, b, rfl, oa, ob, hp, h⟩
  simp [t_alike, dRet, dSeq, dAsg, dIfS, dNext, dDrop, dPar, dTup, dLst, dCons, dNil, dOp, dUn, dVar, dC, dB, onB, onI, onL, onT, dAnd, dOr, dNot, dAndV, dOrV, dNotV, dIf, dChain, dCall, dCb, gN, gT_tup, gConsD, gNilD, rIx_tup, rIx_lst, rAdd, rSub, rMul, rFdv, rMod, rPow, rLt, rLe, rGt, rGe, rEq, rNe, rIs, rIsn, rIn, rNin, rNeg, dSl, dPart, dNo, cutD, sLen, sInt, sAbs, sMin2, sMax2, sTuple, dFor, iL, iT, line, PyData.eqv, PyData.eqvAll]
  refine ⟨a, b, rfl, oa, ob, ?_⟩
  simp
  refine ⟨a, b, rfl, hp, ?_⟩
  cases e : partNum a b with
  | none => simp [e, eO, isNon] at h ⊢; exact h
  | some i => simp [e, eO, isNon] at h ⊢; exact h
theorem h_parting : Hs 2 2 sp_parting (t_parting sp_need_two sp_parting_number) := by
  rintro ds Q _ ⟨a, b, rfl, oa, ob, hp, h⟩
  simp [t_parting, dRet, dSeq, dAsg, dIfS, dNext, dDrop, dPar, dTup, dLst, dCons, dNil, dOp, dUn, dVar, dC, dB, onB, onI, onL, onT, dAnd, dOr, dNot, dAndV, dOrV, dNotV, dIf, dChain, dCall, dCb, gN, gT_tup, gConsD, gNilD, rIx_tup, rIx_lst, rAdd, rSub, rMul, rFdv, rMod, rPow, rLt, rLe, rGt, rGe, rEq, rNe, rIs, rIsn, rIn, rNin, rNeg, dSl, dPart, dNo, cutD, sLen, sInt, sAbs, sMin2, sMax2, sTuple, dFor, iL, iT, line, PyData.eqv, PyData.eqvAll]
  refine ⟨a, b, rfl, oa, ob, ?_⟩
  simp
  exact ⟨a, b, rfl, hp, h⟩
end DL
namespace DL
open PySem PySem.Spec PyProof.Rows L2 LamX
/-! The law's draws. -/
theorem fmod_in {i j : Int} (h : 0 < j) : 0 ≤ i.fmod j ∧ i.fmod j < j := ⟨Int.fmod_nonneg_of_pos i h, Int.fmod_lt_of_pos i h⟩
theorem rSrc_0 (P : Dt → Prop) : rSrc srcD (.int 0) P = ∀ k : Int, 0 ≤ k → P (.int k) := by
  unfold rSrc
  apply propext
  constructor
  · rintro ⟨_, ⟨_, h⟩ | ⟨e, _⟩⟩
    · exact h
    · injection e with e; cases e
  · exact fun h => ⟨rfl, .inl ⟨rfl, h⟩⟩
theorem rSrc_1 (P : Dt → Prop) : rSrc srcD (.int 1) P = ∀ k : Int, 0 ≤ k → k < 2147483648 → P (.int k) := by
  unfold rSrc
  apply propext
  constructor
  · rintro ⟨_, ⟨e, _⟩ | ⟨_, h⟩⟩
    · injection e with e; cases e
    · exact h
  · exact fun h => ⟨rfl, .inr ⟨rfl, h⟩⟩
def sp__law_draw : DSp := fun ds P => ∃ m : Int, ds = [srcD, .int m] ∧ 0 < m ∧ m ≤ 1000000000 ∧ ∀ r : Int, 0 ≤ r → r < m → P (.int r)
theorem h__law_draw : Hs 3 2 sp__law_draw t__law_draw := by
  rintro ds Q _ ⟨m, rfl, h0, h1, h⟩
  have fin : ∀ i : Int, Q (.int (i.fmod m)) := fun i => h _ (fmod_in h0).1 (fmod_in h0).2
  have m0 : m ≠ 0 := by omega
  have cd : ∀ i : Int, CDivN i m := fun i => ⟨m0, by omega⟩
  have tail : (dSeq (dSrcSet (dVar 0) (dC (.int 1)) (dOp rMod (dCb sInt (dCons (dOp rMul (dOp rSrc (dVar 0) (dC (.int 1))) (dC (.int 48271))) dNil)) (dC (.int 2147483647))))
      (dRet (dOp rMod (dCb sInt (dCons (dOp rFdv (dOp rMod (dCb sInt (dCons (dOp rMul (dOp rSrc (dVar 0) (dC (.int 1))) (dOp rSrc (dVar 0) (dC (.int 1)))) dNil)) (dC (.int 2147483629))) (dC (.int 64))) dNil)) (dVar 1))))
      { nx := fun _ => Q .none, rt := Q } [some srcD, some (.int m), none] := by
    simp [dRet, dSeq, dAsg, dIfS, dNext, dDrop, dPar, dTup, dLst, dCons, dNil, dOp, dUn, dVar, dC, dB, onB, onI, onL, onT, dAnd, dOr, dNot, dAndV, dOrV, dNotV, dIf, dChain, dCall, dCb, gN, gT_tup, gConsD, gNilD, rIx_tup, rIx_lst, rAdd, rSub, rMul, rFdv, rMod, rPow, rLt, rLe, rGt, rGe, rEq, rNe, rIs, rIsn, rIn, rNin, rNeg, dSl, dPart, dNo, cutD, sLen, sInt, sAbs, sMin2, sMax2, sTuple, dFor, iL, iT, line, PyData.eqv, PyData.eqvAll, dSrcSet, rSrc_1]
    intro k k0 k1
    refine ⟨by unfold CMul; omega, ?_⟩
    have f := fmod_in (i := k * 48271) (j := 2147483647) (by decide)
    refine ⟨f.1, by omega, ?_⟩
    intro a a0 a1 b b0 b1
    refine ⟨by unfold CMul; omega, ?_⟩
    exact ⟨⟨by decide, by decide⟩, m0, fin _⟩
  simp [t__law_draw, dSeq, dIfS, dB, dOp, dVar, dC, rGt, onB, List.replicate, rSrc_0]
  intro k k0
  by_cases hk : 0 < k
  · simp [hk]
    simp [dRet, dSeq, dAsg, dIfS, dNext, dDrop, dPar, dTup, dLst, dCons, dNil, dOp, dUn, dVar, dC, dB, onB, onI, onL, onT, dAnd, dOr, dNot, dAndV, dOrV, dNotV, dIf, dChain, dCall, dCb, gN, gT_tup, gConsD, gNilD, rIx_tup, rIx_lst, rAdd, rSub, rMul, rFdv, rMod, rPow, rLt, rLe, rGt, rGe, rEq, rNe, rIs, rIsn, rIn, rNin, rNeg, dSl, dPart, dNo, cutD, sLen, sInt, sAbs, sMin2, sMax2, sTuple, dFor, iL, iT, line, PyData.eqv, PyData.eqvAll, dSrcSet, rSrc_0]
    intro a a0
    refine ⟨m0, ?_⟩
    intro b b0
    refine ⟨cd b, Int.fdiv_nonneg b0 (by omega), fin _⟩
  · simp [hk, dNext]
    simp [dSeq] at tail
    exact tail
def sp__law_of : DSp := fun ds P => ∃ xs : List Dt, ds = [srcD, .list xs] ∧ xs ≠ [] ∧ xs.length ≤ 1000 ∧ ∀ x ∈ xs, P x
theorem h__law_of : Hs 2 2 sp__law_of (t__law_of sp__law_draw) := by
  rintro ds Q _ ⟨xs, rfl, hn, hl, h⟩
  have hp : 0 < xs.length := List.length_pos_iff.mpr hn
  simp [t__law_of, dRet, dSeq, dAsg, dIfS, dNext, dDrop, dPar, dTup, dLst, dCons, dNil, dOp, dUn, dVar, dC, dB, onB, onI, onL, onT, dAnd, dOr, dNot, dAndV, dOrV, dNotV, dIf, dChain, dCall, dCb, gN, gT_tup, gConsD, gNilD, rIx_tup, rIx_lst, rAdd, rSub, rMul, rFdv, rMod, rPow, rLt, rLe, rGt, rGe, rEq, rNe, rIs, rIsn, rIn, rNin, rNeg, dSl, dPart, dNo, cutD, sLen, sInt, sAbs, sMin2, sMax2, sTuple, dFor, iL, iT, line, PyData.eqv, PyData.eqvAll]
  refine ⟨(xs.length : Int), rfl, by omega, by omega, fun r r0 r1 => ?_⟩
  show rIx (.list xs) (.int r) Q
  rw [rIx_lst]
  obtain ⟨j, rfl⟩ := Int.eq_ofNat_of_zero_le r0
  have hj : j < xs.length := by omega
  exact ⟨xs[j], by rw [atI_nat, List.getElem?_eq_getElem hj], h _ (List.getElem_mem hj)⟩
def sp__law_rule : DSp := fun ds P => ds = [srcD] ∧ ∀ r : Rule, RuleOk r → P (eRu r)
theorem h__law_rule : Hs 1 1 sp__law_rule (t__law_rule sp__law_of) := by
  rintro ds Q _ ⟨rfl, h⟩
  simp [t__law_rule, dRet, dSeq, dAsg, dIfS, dNext, dDrop, dPar, dTup, dLst, dCons, dNil, dOp, dUn, dVar, dC, dB, onB, onI, onL, onT, dAnd, dOr, dNot, dAndV, dOrV, dNotV, dIf, dChain, dCall, dCb, gN, gT_tup, gConsD, gNilD, rIx_tup, rIx_lst, rAdd, rSub, rMul, rFdv, rMod, rPow, rLt, rLe, rGt, rGe, rEq, rNe, rIs, rIsn, rIn, rNin, rNeg, dSl, dPart, dNo, cutD, sLen, sInt, sAbs, sMin2, sMax2, sTuple, dFor, iL, iT, line, PyData.eqv, PyData.eqvAll]
  refine ⟨_, rfl, by simp, by simp, fun x hx => ?_⟩
  simp at hx
  rcases hx with rfl | rfl | rfl | rfl | rfl
  · exact h .first trivial
  · exact h .soon trivial
  · exact h (.batch 1) (show (1 : Int) ≤ 1 ∧ (1 : Int) ≤ 3 by decide)
  · exact h (.batch 2) (show (1 : Int) ≤ 2 ∧ (2 : Int) ≤ 3 by decide)
  · exact h (.batch 3) (show (1 : Int) ≤ 3 ∧ (3 : Int) ≤ 3 by decide)
def BoatOk (b : Boat) : Prop := (0 ≤ b.st ∧ b.st ≤ 60) ∧ (1 ≤ b.pc ∧ b.pc ≤ 5)
theorem Plan.Ok.mk' {p : Plan} (g0 : 0 ≤ p.gap) (g1 : p.gap ≤ 3) (hr : RuleOk p.rule) (l0 : 0 < p.boats.length) (l1 : p.boats.length ≤ 5) (hb : ∀ b ∈ p.boats, BoatOk b) : p.Ok :=
  ⟨g0, g1, fun m e => by rw [e] at hr; exact hr, l0, l1, fun b h => (hb b h).1, fun b h => (hb b h).2⟩
theorem Plan.Ok.boat {p : Plan} (ok : p.Ok) : ∀ b ∈ p.boats, BoatOk b := fun b h => ⟨ok.st0 b h, ok.pc0 b h⟩
theorem Plan.Ok.ru {p : Plan} (ok : p.Ok) : RuleOk p.rule := by
  unfold RuleOk
  split
  · rename_i m e
    exact ok.rule m e
  · trivial
def sp__law_plan : DSp := fun ds P => ∃ most : Int, ds = [srcD, .int most] ∧ 0 < most ∧ most ≤ 5 ∧ ∀ p : Plan, p.Ok → (p.boats.length : Int) ≤ most → P (eP p)
theorem loop_plan (x1 : Option Dt) (most : Int) (h5 : most ≤ 5) (Q : Dt → Prop) (h : ∀ p : Plan, p.Ok → (p.boats.length : Int) ≤ most → Q (eP p)) : ∀ (l : List Dt) (bs : List Boat) (o3 o4 o5 : Option Dt), (∀ b ∈ bs, BoatOk b) → ((bs.length + l.length : Nat) : Int) ≤ most → 0 < bs.length + l.length →
    forW (gN 3) (dSeq (dAsg (dCall 2 sp__law_of (dCons (dVar 0) (dCons (dLst (dCons (dC (.int 0)) (dCons (dCall 2 sp__law_draw (dCons (dVar 0) (dCons (dC (.int 8)) dNil))) (dCons (dCall 2 sp__law_draw (dCons (dVar 0) (dCons (dC (.int 61)) dNil))) dNil)))) dNil))) (gN 4))
      (dSeq (dAsg (dCall 2 sp__law_of (dCons (dVar 0) (dCons (dLst (dCons (dC (.str "up")) (dCons (dC (.str "down")) dNil))) dNil))) (gN 5))
      (dAsg (dOp rAdd (dVar 2) (dTup (dCons (dTup (dCons (dVar 5) (dCons (dVar 4) (dCons (dOp rAdd (dC (.int 1)) (dCall 2 sp__law_draw (dCons (dVar 0) (dCons (dC (.int 5)) dNil)))) dNil)))) dNil))) (gN 2))))
      l { nx := dRet (dTup (dCons (dCall 2 sp__law_draw (dCons (dVar 0) (dCons (dC (.int 4)) dNil))) (dCons (dCall 1 sp__law_rule (dCons (dVar 0) dNil)) (dCons (dVar 2) dNil)))) { nx := fun _ => Q .none, rt := Q }, rt := Q } [some srcD, x1, some (.tuple (bs.map eB)), o3, o4, o5]
  | [], bs, o3, o4, o5, hb, hl, h0 => by
    simp [forW, dRet, dSeq, dAsg, dIfS, dNext, dDrop, dPar, dTup, dLst, dCons, dNil, dOp, dUn, dVar, dC, dB, onB, onI, onL, onT, dAnd, dOr, dNot, dAndV, dOrV, dNotV, dIf, dChain, dCall, dCb, gN, gT_tup, gConsD, gNilD, rIx_tup, rIx_lst, rAdd, rSub, rMul, rFdv, rMod, rPow, rLt, rLe, rGt, rGe, rEq, rNe, rIs, rIsn, rIn, rNin, rNeg, dSl, dPart, dNo, cutD, sLen, sInt, sAbs, sMin2, sMax2, sTuple, dFor, iL, iT, line, PyData.eqv, PyData.eqvAll]
    refine ⟨4, rfl, by decide, by decide, fun g g0 g1 => ?_⟩
    refine ⟨rfl, fun r hr => ?_⟩
    exact h ⟨g, r, bs⟩ (Plan.Ok.mk' g0 (by show g ≤ 3; omega) hr (by simpa using h0) (by show bs.length ≤ 5; simp at hl; omega) hb) (by simpa using hl)
  | d :: l, bs, o3, o4, o5, hb, hl, h0 => by
    simp at hl
    have go : ∀ (s : Int) (w : Bool) (c : Int), 0 ≤ s → s ≤ 60 → 0 ≤ c → c < 5 → forW (gN 3) (dSeq (dAsg (dCall 2 sp__law_of (dCons (dVar 0) (dCons (dLst (dCons (dC (.int 0)) (dCons (dCall 2 sp__law_draw (dCons (dVar 0) (dCons (dC (.int 8)) dNil))) (dCons (dCall 2 sp__law_draw (dCons (dVar 0) (dCons (dC (.int 61)) dNil))) dNil)))) dNil))) (gN 4))
      (dSeq (dAsg (dCall 2 sp__law_of (dCons (dVar 0) (dCons (dLst (dCons (dC (.str "up")) (dCons (dC (.str "down")) dNil))) dNil))) (gN 5))
      (dAsg (dOp rAdd (dVar 2) (dTup (dCons (dTup (dCons (dVar 5) (dCons (dVar 4) (dCons (dOp rAdd (dC (.int 1)) (dCall 2 sp__law_draw (dCons (dVar 0) (dCons (dC (.int 5)) dNil)))) dNil)))) dNil))) (gN 2))))
      l { nx := dRet (dTup (dCons (dCall 2 sp__law_draw (dCons (dVar 0) (dCons (dC (.int 4)) dNil))) (dCons (dCall 1 sp__law_rule (dCons (dVar 0) dNil)) (dCons (dVar 2) dNil)))) { nx := fun _ => Q .none, rt := Q }, rt := Q } [some srcD, x1, some (.tuple ((bs ++ [(⟨w, s, 1 + c⟩ : Boat)]).map eB)), some d, some (.int s), some (.str (wS w))] := fun s w c s0 s1 c0 c1 => by
      refine loop_plan x1 most h5 Q h l (bs ++ [⟨w, s, 1 + c⟩]) _ _ _ (fun b hb' => ?_) (by simp; omega) (by simp; omega)
      rcases List.mem_append.mp hb' with hb' | hb'
      · exact hb b hb'
      · rw [List.mem_singleton] at hb'
        subst hb'
        exact ⟨⟨s0, s1⟩, by show 1 ≤ 1 + c; omega, by show 1 + c ≤ 5; omega⟩
    simp only [List.map_append, List.map_cons, List.map_nil] at go
    simp [forW, dRet, dSeq, dAsg, dIfS, dNext, dDrop, dPar, dTup, dLst, dCons, dNil, dOp, dUn, dVar, dC, dB, onB, onI, onL, onT, dAnd, dOr, dNot, dAndV, dOrV, dNotV, dIf, dChain, dCall, dCb, gN, gT_tup, gConsD, gNilD, rIx_tup, rIx_lst, rAdd, rSub, rMul, rFdv, rMod, rPow, rLt, rLe, rGt, rGe, rEq, rNe, rIs, rIsn, rIn, rNin, rNeg, dSl, dPart, dNo, cutD, sLen, sInt, sAbs, sMin2, sMax2, sTuple, dFor, iL, iT, line, PyData.eqv, PyData.eqvAll]
    refine ⟨8, rfl, by decide, by decide, fun a a0 a1 => ?_⟩
    refine ⟨61, rfl, by decide, by decide, fun b b0 b1 => ?_⟩
    refine ⟨_, rfl, by simp, by simp, fun x hx => ?_⟩
    have key : ∃ s : Int, x = .int s ∧ 0 ≤ s ∧ s ≤ 60 := by
      simp at hx
      rcases hx with rfl | rfl | rfl
      · exact ⟨0, rfl, by decide, by decide⟩
      · exact ⟨a, rfl, a0, by omega⟩
      · exact ⟨b, rfl, b0, by omega⟩
    obtain ⟨s, rfl, s0, s1⟩ := key
    simp
    refine ⟨_, rfl, by simp, by simp, fun y hy => ?_⟩
    have key2 : ∃ w : Bool, y = .str (wS w) := by
      simp at hy
      rcases hy with rfl | rfl
      · exact ⟨false, rfl⟩
      · exact ⟨true, rfl⟩
    obtain ⟨w, rfl⟩ := key2
    simp
    refine ⟨5, rfl, by decide, by decide, fun c c0 c1 => ?_⟩
    simp
    refine ⟨by omega, ?_⟩
    have := go s w c s0 s1 c0 c1
    simp [dRet, dSeq, dAsg, dIfS, dNext, dDrop, dPar, dTup, dLst, dCons, dNil, dOp, dUn, dVar, dC, dB, onB, onI, onL, onT, dAnd, dOr, dNot, dAndV, dOrV, dNotV, dIf, dChain, dCall, dCb, gN, gT_tup, gConsD, gNilD, rIx_tup, rIx_lst, rAdd, rSub, rMul, rFdv, rMod, rPow, rLt, rLe, rGt, rGe, rEq, rNe, rIs, rIsn, rIn, rNin, rNeg, dSl, dPart, dNo, cutD, sLen, sInt, sAbs, sMin2, sMax2, sTuple, dFor, iL, iT, line, PyData.eqv, PyData.eqvAll, eB] at this ⊢
    exact this
theorem h__law_plan : Hs 6 2 sp__law_plan (t__law_plan sp__law_draw sp__law_of sp__law_rule) := by
  rintro ds Q _ ⟨most, rfl, h0, h1, h⟩
  simp [t__law_plan, dSeq, dAsg, dTup, dNil, gN, List.replicate, dFor, iR1, dCons, dOp, dC, dCall, dVar, line]
  refine ⟨most, rfl, h0, by omega, fun r r0 r1 => ?_⟩
  simp only [rAdd]
  refine ⟨by unfold big; omega, ?_⟩
  have := loop_plan (some (.int most)) most h1 Q h (rngD 0 (1 + r).toNat) [] none none none (fun _ hb => absurd hb List.not_mem_nil) (by rw [rngD_len]; simp; omega) (by rw [rngD_len]; simp; omega)
  simp [dSeq, dAsg, gN, dOp, dC, dCall, dVar, dTup, dCons, dNil, dLst, dRet, line] at this ⊢
  exact this
def sp__law_n : DSp := fun ds P => ds = [srcD] ∧ ∀ n : Int, 2 ≤ n → n ≤ 10 ^ 30 → P (.int n)
theorem h__law_n : Hs 3 1 sp__law_n (t__law_n sp__law_draw sp__law_of) := by
  rintro ds Q _ ⟨rfl, h⟩
  simp [t__law_n, dRet, dSeq, dAsg, dIfS, dNext, dDrop, dPar, dTup, dLst, dCons, dNil, dOp, dUn, dVar, dC, dB, onB, onI, onL, onT, dAnd, dOr, dNot, dAndV, dOrV, dNotV, dIf, dChain, dCall, dCb, gN, gT_tup, gConsD, gNilD, rIx_tup, rIx_lst, rAdd, rSub, rMul, rFdv, rMod, rPow, rLt, rLe, rGt, rGe, rEq, rNe, rIs, rIsn, rIn, rNin, rNeg, dSl, dPart, dNo, cutD, sLen, sInt, sAbs, sMin2, sMax2, sTuple, dFor, iL, iT, line, PyData.eqv, PyData.eqvAll, List.replicate]
  refine ⟨9, rfl, by decide, by decide, fun a a0 a1 => ?_⟩
  refine ⟨⟨by decide, by decide, by decide⟩, 1000000000, rfl, by decide, by decide, fun b b0 b1 => ?_⟩
  simp
  refine ⟨60, rfl, by decide, by decide, fun c c0 c1 => ?_⟩
  simp
  refine ⟨⟨by decide, by decide, by decide⟩, _, rfl, by simp, by simp, fun x hx => ?_⟩
  have key : ∃ n : Int, x = .int n ∧ 2 ≤ n ∧ n ≤ 10 ^ 30 := by
    simp at hx
    rcases hx with rfl | rfl | rfl | rfl | rfl
    · exact ⟨2, rfl, by decide, by decide⟩
    · exact ⟨2 + a, rfl, by omega, by omega⟩
    · exact ⟨2 + a + c, rfl, by omega, by omega⟩
    · exact ⟨_, rfl, by omega, by omega⟩
    · exact ⟨_, rfl, by decide, by decide⟩
  obtain ⟨n, rfl, n0, n1⟩ := key
  exact h n n0 n1
end DL
namespace DL
open PySem PySem.Spec PyProof.Rows L2 LamX
/-! The law's source, its near plans; steps, limits. -/
theorem rIx_scr (xs : List Dt) (i : Int) (P : Dt → Prop) : rIx (scrD xs) (.int i) P = ∃ d, atI xs i = some d ∧ P d := rfl
theorem sLen_scr (xs : List Dt) (P : Dt → Prop) : sLen [scrD xs] P = P (.int xs.length) := rfl
@[simp] theorem isMut_scr (xs : List Dt) : isMut (scrD xs) = false := rfl
@[simp] theorem thaw_scr (xs : List Dt) : thaw (scrD xs) = scrD xs := rfl
def sp__law_source : DSp := fun ds P => ∃ (ns : List Int) (k : Int), ds = [scrD (ns.map .int), .int k] ∧ 0 ≤ k ∧ k ≤ 1000 ∧ ∀ x y : Int, 0 ≤ x → 0 ≤ y → y < 2147483648 → P (.list [.int x, .int y])
theorem h__law_source : Hs 3 2 sp__law_source t__law_source := by
  rintro ds Q _ ⟨ns, k, rfl, k0, k1, h⟩
  have tail : ∀ c : Int, 0 ≤ c → (dSeq (dIfS (dB (dOp rLt (dVar 2) (dOp rPow (dC (.int 10)) (dC (.int 18))))) (dRet (dLst (dCons (dC (.int 0)) (dCons (dOp rAdd (dC (.int 1)) (dOp rMod (dCb sInt (dCons (dOp rAdd (dOp rMul (dVar 2) (dC (.int 7919))) (dOp rMul (dC (.int 104729)) (dVar 1))) dNil)) (dC (.int 2147483646)))) dNil)))) dNext)
      (dRet (dLst (dCons (dVar 2) (dCons (dOp rAdd (dC (.int 1)) (dOp rMod (dCb sInt (dCons (dOp rAdd (dVar 2) (dVar 1)) dNil)) (dC (.int 2147483646)))) dNil))))) { nx := fun _ => Q .none, rt := Q } [some (scrD (ns.map .int)), some (.int k), some (.int c)] := by
    intro c c0
    have f1 := fmod_in (i := c * 7919 + 104729 * k) (j := 2147483646) (by decide)
    have f2 := fmod_in (i := c + k) (j := 2147483646) (by decide)
    have g1 := h 0 (1 + (c * 7919 + 104729 * k).fmod 2147483646) (by decide) (by omega) (by omega)
    have g2 := h c (1 + (c + k).fmod 2147483646) c0 (by omega) (by omega)
    simp [dRet, dSeq, dAsg, dIfS, dNext, dDrop, dPar, dTup, dLst, dCons, dNil, dOp, dUn, dVar, dC, dB, onB, onI, onL, onT, dAnd, dOr, dNot, dAndV, dOrV, dNotV, dIf, dChain, dCall, dCb, gN, gT_tup, gConsD, gNilD, rIx_tup, rIx_lst, rAdd, rSub, rMul, rFdv, rMod, rPow, rLt, rLe, rGt, rGe, rEq, rNe, rIs, rIsn, rIn, rNin, rNeg, dSl, dPart, dNo, cutD, sLen, sInt, sAbs, sMin2, sMax2, sTuple, dFor, iL, iT, line, PyData.eqv, PyData.eqvAll]
    refine ⟨⟨by decide, by decide, by decide⟩, ?_⟩
    by_cases hc : c < 1000000000000000000
    · simp [hc]
      exact ⟨.inr (by decide), .inl (by decide), g1⟩
    · simp [hc]
      exact g2
  simp only [t__law_source, dSeq, dAsg, dC, gN, startD_2, List.replicate, List.set_cons_zero, List.set_cons_succ, dIfS, dB, dOp, dCb, dCons, dNil, dVar, List.getElem?_cons_zero, List.getElem?_cons_succ, sLen_scr, rLt, onB]
  refine ⟨rfl, rfl, ?_⟩
  by_cases hk : k < ((ns.map PyData.int).length : Int)
  · simp only [hk, decide_true, if_true]
    obtain ⟨j, rfl⟩ := Int.eq_ofNat_of_zero_le k0
    have hj : j < ns.length := by rw [List.length_map] at hk; omega
    have e : atI (ns.map PyData.int) (j : Int) = some (.int ns[j]) := by rw [atI_nat, List.getElem?_map, List.getElem?_eq_getElem hj]; rfl
    simp only [rIx_scr, e]
    refine ⟨rfl, rfl, _, rfl, ?_⟩
    simp only [sInt, sAbs, List.set_cons_zero, List.set_cons_succ]
    exact tail _ (by split <;> omega)
  · simp only [hk, decide_false, Bool.false_eq_true, if_false, dNext]
    exact tail 0 (by decide)
/-! ### near plans -/
def sp__law_near : DSp := fun ds P => ∃ p : Plan, ds = [srcD, eP p] ∧ p.Ok ∧ ∀ q : Plan, q.Ok → q.boats.length = p.boats.length → P (eP q)
theorem gT_eB (t : DTGs) (b : Boat) (ρ : Rho) (P : Rho → Prop) : gTupD 3 t (eB b) ρ P = t [.str (wS b.down), .int b.st, .int b.pc] ρ P := by simp [gTupD, eB]
theorem cut_to {α : Type} (l : List α) (k : Nat) (h : k ≤ l.length) : cutL l none (some (k : Int)) = l.take k := by
  unfold cutL HT.sIx
  simp only [List.drop_zero, Nat.sub_zero]
  have hn : ¬ ((k : Int) < 0) := by omega
  congr 1
  simp [hn]
  omega
theorem cut_from {α : Type} (l : List α) (k : Nat) (h : k ≤ l.length) : cutL l (some (k : Int)) none = l.drop k := by
  have hn : ¬ ((k : Int) < 0) := by omega
  unfold cutL HT.sIx
  simp only [hn, if_false, Int.toNat_natCast, Nat.min_eq_left h]
  rw [List.take_of_length_le]
  rw [List.length_drop]
  exact Nat.le_refl _
theorem cutD_tup (xs : List Dt) (lo hi : Option Int) (P : Dt → Prop) : cutD (.tuple xs) lo hi P = P (.tuple (cutL xs lo hi)) := rfl
def swapB (bs : List Boat) (k : Nat) (b : Boat) : List Boat := bs.take k ++ b :: bs.drop (k + 1)
theorem swap_ok {bs : List Boat} {k : Nat} {b : Boat} (h : ∀ x ∈ bs, BoatOk x) (hb : BoatOk b) : ∀ x ∈ swapB bs k b, BoatOk x := by
  intro x hx
  rcases List.mem_append.mp hx with hx | hx
  · exact h x (List.mem_of_mem_take hx)
  · rcases List.mem_cons.mp hx with e | hx
    · rw [e]; exact hb
    · exact h x (List.mem_of_mem_drop hx)
theorem swap_len {bs : List Boat} {k : Nat} (b : Boat) (h : k < bs.length) : (swapB bs k b).length = bs.length := by
  unfold swapB
  simp
  omega
theorem h__law_near : Hs 9 2 sp__law_near (t__law_near sp__law_draw sp__law_rule) := by
  rintro ds Q _ ⟨p, rfl, ok, h⟩
  have l0 := ok.len0
  have l5 := ok.len1
  simp [t__law_near, dSeq, dPar, dCons, dNil, dCall, dVar, dC, dOp, rIx_eP0, rIx_eP1, rIx_eP2, rIx_eRun0, rIx_eRun1, rIx_eRun2, rIx_eB0, rIx_eB1, rIx_eB2, rIx_eF0, rIx_eF1, rIx_eFF0, rIx_eFF1, gT_eRun, gT_eF, gT_eFF, wS_inj, st_bs, st_bf, st_fs, st_fb, st_sb, st_sf, List.replicate]
  refine ⟨5, rfl, by decide, by decide, fun m m0 m1 => ?_⟩
  simp [dAsg, dCall, dCons, dNil, dVar, dCb, sLen]
  refine ⟨(p.boats.length : Int), rfl, by omega, by omega, fun at_ a0 a1 => ?_⟩
  obtain ⟨k, rfl⟩ := Int.eq_ofNat_of_zero_le a0
  have hk : k < p.boats.length := by omega
  have bk := bt_mem hk
  have ob := ok.boat _ bk
  simp only [gN, List.set_cons_zero, List.set_cons_succ, dOp, dVar, List.getElem?_cons_zero, List.getElem?_cons_succ]
  refine ⟨rfl, rfl, ?_⟩
  simp only [rIx_btL hk, gT_eB]
  simp only [gConsD, gN, gNilD, List.set_cons_zero, List.set_cons_succ]
  refine ⟨trivial, ?_⟩
  -- the end: a boat is put in
  have last : ∀ (nb : Boat), BoatOk nb → (dRet (dOp rAdd (dSl (dVar 1) dNo (dPart (dC (.int 2)))) (dTup (dCons (dOp rAdd (dOp rAdd (dSl (dVar 3) dNo (dPart (dVar 4))) (dTup (dCons (dVar 8) dNil))) (dSl (dVar 3) (dPart (dOp rAdd (dVar 4) (dC (.int 1)))) dNo)) dNil)))) { nx := fun _ => Q .none, rt := Q }
      [some srcD, some (eP p), some (.int m), some (.tuple (p.boats.map eB)), some (.int (k : Int)), some (.str (wS (bt p.boats k).down)), some (.int (bt p.boats k).st), some (.int (bt p.boats k).pc), some (eB nb)] := by
    intro nb hnb
    have hq := h ⟨p.gap, p.rule, swapB p.boats k nb⟩ (Plan.Ok.mk' ok.g0 ok.g1 ok.ru (by rw [show (Plan.mk p.gap p.rule (swapB p.boats k nb)).boats = swapB p.boats k nb from rfl, swap_len nb hk]; exact l0) (by rw [show (Plan.mk p.gap p.rule (swapB p.boats k nb)).boats = swapB p.boats k nb from rfl, swap_len nb hk]; exact l5) (swap_ok ok.boat hnb)) (swap_len nb hk)
    have c1 : cutL (p.boats.map eB) none (some (k : Int)) = (p.boats.take k).map eB := by rw [cut_to _ _ (by rw [List.length_map]; omega), List.map_take]
    have c2 : cutL (p.boats.map eB) (some ((k : Int) + 1)) none = (p.boats.drop (k + 1)).map eB := by
      have := cut_from (p.boats.map eB) (k + 1) (by rw [List.length_map]; omega)
      rw [show ((k + 1 : Nat) : Int) = (k : Int) + 1 from rfl] at this
      rw [this, List.map_drop]
    have c3 : cutL [PyData.int p.gap, eRu p.rule, .tuple (p.boats.map eB)] none (some 2) = [.int p.gap, eRu p.rule] := rfl
    simp [dRet, dOp, dSl, dVar, dNo, dPart, dC, onI, dTup, dCons, dNil, line]
    rw [show eP p = .tuple [.int p.gap, eRu p.rule, .tuple (p.boats.map eB)] from rfl]
    simp only [cutD_tup, c1, c2, c3, rAdd]
    refine ⟨by simp [line]; omega, by simp [line]; omega, by simp [line], ?_⟩
    simp [eP, swapB] at hq
    simpa using hq
  simp only [dSeq, dIfS, dB, dOp, dVar, dC, List.getElem?_cons_zero, List.getElem?_cons_succ, rEq, onB]
  refine ⟨rfl, sh_int _, sh_int _, ?_⟩
  by_cases e0 : m = 0
  · subst e0
    simp [PyData.eqv, dRet, dTup, dCons, dNil, dOp, dVar, dC, rIx_eP0, rIx_eP1, rIx_eP2, rIx_eRun0, rIx_eRun1, rIx_eRun2, rIx_eB0, rIx_eB1, rIx_eB2, rIx_eF0, rIx_eF1, rIx_eFF0, rIx_eFF1, gT_eRun, gT_eF, gT_eFF, wS_inj, st_bs, st_bf, st_fs, st_fb, st_sb, st_sf, dCall, line]
    refine ⟨rfl, fun r hr => ?_⟩
    exact h ⟨p.gap, r, p.boats⟩ (Plan.Ok.mk' ok.g0 ok.g1 hr l0 l5 ok.boat) rfl
  · have q0 : PyData.eqv (.int m) (.int 0) = false := by simp [PyData.eqv, e0]
    simp only [q0, Bool.false_eq_true, if_false, dNext]
    simp only [dSeq, dIfS, dB, dOp, dVar, dC, List.getElem?_cons_zero, List.getElem?_cons_succ, rEq, onB]
    refine ⟨rfl, sh_int _, sh_int _, ?_⟩
    by_cases e1 : m = 1
    · subst e1
      simp [PyData.eqv, dRet, dTup, dCons, dNil, dOp, dVar, dC, rIx_eP0, rIx_eP1, rIx_eP2, rIx_eRun0, rIx_eRun1, rIx_eRun2, rIx_eB0, rIx_eB1, rIx_eB2, rIx_eF0, rIx_eF1, rIx_eFF0, rIx_eFF1, gT_eRun, gT_eF, gT_eFF, wS_inj, st_bs, st_bf, st_fs, st_fb, st_sb, st_sf, dCall, line]
      refine ⟨4, rfl, by decide, by decide, fun g g0 g1 => ?_⟩
      simp
      exact h ⟨g, p.rule, p.boats⟩ (Plan.Ok.mk' g0 (by show g ≤ 3; omega) ok.ru l0 l5 ok.boat) rfl
    · have q1 : PyData.eqv (.int m) (.int 1) = false := by simp [PyData.eqv, e1]
      simp only [q1, Bool.false_eq_true, if_false, dNext]
      have dis : ∀ P : Dt → Prop, P (.str (wS (!(bt p.boats k).down))) → dDis [("up", "down"), ("down", "up")] (dVar 5) [some srcD, some (eP p), some (.int m), some (.tuple (p.boats.map eB)), some (.int (k : Int)), some (.str (wS (bt p.boats k).down)), some (.int (bt p.boats k).st), some (.int (bt p.boats k).pc), none] P := by
        intro P hP
        refine ⟨rfl, _, _, rfl, ?_, hP⟩
        cases (bt p.boats k).down <;> decide +kernel
      simp only [dSeq, dAsg, dTup, dCons, dNil]
      refine dis _ ?_
      simp only [dVar, List.getElem?_cons_zero, List.getElem?_cons_succ, gN, List.set_cons_zero, List.set_cons_succ]
      refine ⟨rfl, rfl, by simp [line], ?_⟩
      simp only [dSeq, dIfS, dB, dOp, dVar, dC, List.getElem?_cons_zero, List.getElem?_cons_succ, rEq, onB]
      refine ⟨rfl, sh_int _, sh_int _, ?_⟩
      by_cases e2 : m = 2
      · subst e2
        simp [PyData.eqv, dAsg, dTup, dCons, dNil, dOp, dVar, dC, dCall, gN, dIfS, dB, rEq, onB, dNext, line]
        refine ⟨61, rfl, by decide, by decide, fun s s0 s1 => ?_⟩
        simp [dSeq, dIfS, dB, dOp, dVar, dC, rEq, onB, PyData.eqv, dNext]
        exact last ⟨(bt p.boats k).down, s, (bt p.boats k).pc⟩ ⟨⟨s0, by show s ≤ 60; omega⟩, ob.2⟩
      · have q2 : PyData.eqv (.int m) (.int 2) = false := by simp [PyData.eqv, e2]
        simp only [q2, Bool.false_eq_true, if_false, dNext]
        simp only [dSeq, dIfS, dB, dOp, dVar, dC, List.getElem?_cons_zero, List.getElem?_cons_succ, rEq, onB]
        refine ⟨rfl, sh_int _, sh_int _, ?_⟩
        by_cases e3 : m = 3
        · subst e3
          simp [PyData.eqv, dAsg, dTup, dCons, dNil, dOp, dVar, dC, dCall, gN, rAdd, line]
          refine ⟨5, rfl, by decide, by decide, fun c c0 c1 => ?_⟩
          simp
          exact last ⟨(bt p.boats k).down, (bt p.boats k).st, 1 + c⟩ ⟨ob.1, by show 1 ≤ 1 + c; omega, by show 1 + c ≤ 5; omega⟩
        · have q3 : PyData.eqv (.int m) (.int 3) = false := by simp [PyData.eqv, e3]
          simp only [q3, Bool.false_eq_true, if_false, dNext]
          exact last ⟨!(bt p.boats k).down, (bt p.boats k).st, (bt p.boats k).pc⟩ ob
end DL
namespace DL
open PySem PySem.Spec PyProof.Rows L2 LamX
/-! The law's own run: steps, limits, the top, heads. -/
def eDn (q : Nat × FF) : Dt := .tuple [eN q.1, eF q.2.1, eF q.2.2]
def eDone (r : Run) : Dt := .list ((r.ord.zip r.tim).map eDn)
@[simp] theorem isMut_eDone (r : Run) : isMut (eDone r) = false := rfl
@[simp] theorem thaw_eDone (r : Run) : thaw (eDone r) = eDone r := rfl
theorem gd_eDn (q : Nat × FF) : Gd 2 (eDn q) := Gd.tup (GdA.cons ((Gd.int _).mono (by decide)) (GdA.cons (gd_eF _) (GdA.cons (gd_eF _) GdA.nil)))
theorem sh_eDone (r : Run) : SeqAt.shaped (eDone r) = true := (Gd.lst (GdA.map fun q _ => gd_eDn q)).sh
theorem zip_last {α β : Type} : ∀ {l : List α} {m : List β}, l.length = m.length → ∀ {a : α} {b : β}, l.getLast? = some a → m.getLast? = some b → (l.zip m).getLast? = some (a, b)
  | [], _, _, _, _, h, _ => by cases h
  | _ :: _, [], h, _, _, _, _ => by cases h
  | [x], [y], _, a, b, h1, h2 => by
    simp at h1 h2
    subst h1; subst h2
    rfl
  | x :: x' :: l, y :: y' :: m, h, a, b, h1, h2 => by
    have h' : (x' :: l).length = (y' :: m).length := by simpa using h
    have := zip_last h' (a := a) (b := b) (by simpa using h1) (by simpa using h2)
    simpa using this
  | [x], y :: y' :: m, h, _, _, _, _ => by simp at h
  | x :: x' :: l, [y], h, _, _, _, _ => by simp at h
theorem done_nil {r : Run} (h : r.ord = []) : eDone r = .list [] := by unfold eDone; rw [h]; rfl
theorem done_ne {p : Plan} {r : Run} (ok : RunOk p r) (h : r.ord ≠ []) : PyData.eqv (eDone r) (.list []) = false := by
  unfold eDone
  cases e : r.ord with
  | nil => exact absurd e h
  | cons a l =>
    cases e2 : r.tim with
    | nil =>
      have := ok.2
      rw [e, e2] at this
      simp at this
    | cons b m => rfl
theorem rIx_done {p : Plan} {r : Run} (ok : RunOk p r) {l : Nat} {t : FF} (hl : r.ord.getLast? = some l) (ht : r.tim.getLast? = some t) (P : Dt → Prop) : rIx (eDone r) (.int (-1)) P = P (eDn (l, t)) := by
  show (∃ d, atI ((r.ord.zip r.tim).map eDn) (-1) = some d ∧ P d) = _
  rw [atI_last, last_map, zip_last ok.2.symm hl ht]
  simp
theorem rIx_eDn0 (q : Nat × FF) (P : Dt → Prop) : rIx (eDn q) (.int 0) P = P (eN q.1) := by simp [rIx, eDn]
theorem gT_eDn (t : DTGs) (q : Nat × FF) (ρ : Rho) (P : Rho → Prop) : gTupD 3 t (eDn q) ρ P = t [eN q.1, eF q.2.1, eF q.2.2] ρ P := by simp [gTupD, eDn]
def sp__law_step : DSp := fun ds P => ∃ (p : Plan) (r : Run) (b : Nat), ds = [eP p, eDone r, eN b] ∧ b < p.boats.length ∧ RunOk p r ∧ P (.int (stepOf p r.ord b))
theorem h__law_step : Hs 7 3 sp__law_step t__law_step := by
  rintro ds Q _ ⟨p, r, b, rfl, hb, ok, h⟩
  simp only [t__law_step, dSeq, dAsg, dOp, dVar, dC, startD_3, List.replicate, List.getElem?_cons_zero, List.getElem?_cons_succ, rIx_eP2, rIx_bt hb, gT_eB, gConsD, gN, gNilD, List.set_cons_zero, List.set_cons_succ]
  refine ⟨rfl, rfl, trivial, rfl, sh_wS _, sh_str _ lay_down, ?_⟩
  have hd : PyData.eqv (.str (wS (bt p.boats b).down)) (.str "down") = (bt p.boats b).down := wS_down _
  rw [hd]
  unfold stepOf turned at h
  simp only [dIfS, dB, dOp, dVar, dLst, dNil, List.getElem?_cons_zero, List.getElem?_cons_succ, rNe, onB]
  refine ⟨rfl, by simp [line], sh_eDone r, sh_nilL, ?_⟩
  by_cases hn : r.ord = []
  · rw [hn] at h
    rw [done_nil hn]
    have h : Q (.int ((bt p.boats b).pc + if (bt p.boats b).down = true then p.gap else 0)) := h
    simp [PyData.eqv, PyData.eqvAll, dNext, dRet, dOp, dVar, dIf, dB, onB, dC, rIx_eP0, rIx_eP1, rIx_eP2, rIx_eRun0, rIx_eRun1, rIx_eRun2, rIx_eB0, rIx_eB1, rIx_eB2, rIx_eF0, rIx_eF1, rIx_eFF0, rIx_eFF1, gT_eRun, gT_eF, gT_eFF, wS_inj, st_bs, st_bf, st_fs, st_fb, st_sb, st_sf]
    cases hw : (bt p.boats b).down <;> simp [hw, rAdd] at h ⊢ <;> exact h
  · rw [done_ne ok hn]
    have ht : r.tim ≠ [] := fun z => hn (List.eq_nil_of_length_eq_zero (by rw [← ok.2, z]; rfl))
    obtain ⟨l, hl⟩ := ne_last hn
    obtain ⟨t, htl⟩ := ne_last ht
    have lL := ok.1.last hl
    rw [hl] at h
    simp only [Bool.not_false, if_true, dAsg, dOp, dVar, dC, dUn, rNeg, List.getElem?_cons_zero, List.getElem?_cons_succ, rIx_eP2, rIx_done ok hl htl, rIx_eDn0, rIx_bt lL, rIx_eB0, rEq, gN, List.set_cons_zero, List.set_cons_succ]
    refine ⟨rfl, rfl, rfl, sh_wS _, sh_wS _, ?_⟩
    have e : PyData.eqv (.str (wS (bt p.boats l).down)) (.str (wS (bt p.boats b).down)) = ((bt p.boats l).down == (bt p.boats b).down) := wS_eq _ _
    rw [e]
    simp [dRet, dOp, dVar, dIf, dB, onB, dC, rIx_eP0, rIx_eP1, rIx_eP2, rIx_eRun0, rIx_eRun1, rIx_eRun2, rIx_eB0, rIx_eB1, rIx_eB2, rIx_eF0, rIx_eF1, rIx_eFF0, rIx_eFF1, gT_eRun, gT_eF, gT_eFF, wS_inj, st_bs, st_bf, st_fs, st_fb, st_sb, st_sf]
    by_cases hw : (bt p.boats l).down = (bt p.boats b).down
    · simp [hw, rAdd] at h ⊢; exact h
    · have hw' : ((bt p.boats l).down == (bt p.boats b).down) = false := by simpa using hw
      simp [hw, hw', rAdd] at h ⊢; exact h
def sp__law_limits : DSp := fun ds P => ∃ (p : Plan) (r : Run) (b : Nat), ds = [eP p, eDone r, eN b] ∧ b < p.boats.length ∧ RunOk p r ∧ P (.list ((bounds p r b).map eF))
@[simp] theorem isMut_mutD (ds : List Dt) : isMut (mutD ds) = true := rfl
theorem h__law_limits : Hs 11 3 sp__law_limits (t__law_limits sp__law_step) := by
  rintro ds Q _ ⟨p, r, b, rfl, hb, ok, h⟩
  simp only [t__law_limits, dSeq, dAsg, dOp, dVar, dC, startD_3, List.replicate, List.getElem?_cons_zero, List.getElem?_cons_succ, rIx_eP2, rIx_bt hb, gT_eB, gConsD, gN, gNilD, List.set_cons_zero, List.set_cons_succ, dNew, dCons, dNil, dTup]
  refine ⟨rfl, rfl, trivial, rfl, by simp [line], by simp [line], ?_⟩
  unfold bounds at h
  simp only [dIfS, dB, dOp, dVar, dLst, dNil, List.getElem?_cons_zero, List.getElem?_cons_succ, rNe, onB]
  refine ⟨rfl, by simp [line], sh_eDone r, sh_nilL, ?_⟩
  by_cases hn : r.ord = []
  · rw [hn] at h
    rw [done_nil hn]
    simp [PyData.eqv, PyData.eqvAll, dNext, dRet, dVar]
    exact h
  · rw [done_ne ok hn]
    have ht : r.tim ≠ [] := fun z => hn (List.eq_nil_of_length_eq_zero (by rw [← ok.2, z]; rfl))
    obtain ⟨l, hl⟩ := ne_last hn
    obtain ⟨t, htl⟩ := ne_last ht
    have lL := ok.1.last hl
    simp only [hl, htl] at h
    simp only [Bool.not_false, if_true, dSeq, dAsg, dOp, dVar, dC, dUn, rNeg, List.getElem?_cons_zero, List.getElem?_cons_succ, rIx_done ok hl htl, gT_eDn, gConsD, gN, gNilD, List.set_cons_zero, List.set_cons_succ]
    refine ⟨rfl, trivial, ?_⟩
    simp only [dIfS, dB, dOp, dVar, dC, List.getElem?_cons_zero, List.getElem?_cons_succ, rIx_eP2, rIx_bt lL, rIx_eB0, rNe, onB]
    refine ⟨rfl, rfl, rfl, sh_wS _, sh_wS _, ?_⟩
    have e : PyData.eqv (.str (wS (bt p.boats l).down)) (.str (wS (bt p.boats b).down)) = ((bt p.boats l).down == (bt p.boats b).down) := wS_eq _ _
    rw [e]
    by_cases hw : (bt p.boats l).down = (bt p.boats b).down
    · rw [if_pos hw] at h
      simp [hw, dNext, dSeq]
      refine ⟨[_], rfl, ?_⟩
      simp [dTup, dCons, dNil, dOp, dVar, dC, rIx_eP0, rIx_eP1, rIx_eP2, rIx_eRun0, rIx_eRun1, rIx_eRun2, rIx_eB0, rIx_eB1, rIx_eB2, rIx_eF0, rIx_eF1, rIx_eFF0, rIx_eFF1, gT_eRun, gT_eF, gT_eFF, wS_inj, st_bs, st_bf, st_fs, st_fb, st_sb, st_sf, rAdd, rSub, dSeq, dAsg, dCall, line]
      refine ⟨p, r, b, rfl, hb, ok, ?_⟩
      simp [gN]
      refine ⟨[_, _], rfl, ?_⟩
      simp [dTup, dCons, dNil, dOp, dVar, dC, rIx_eP0, rIx_eP1, rIx_eP2, rIx_eRun0, rIx_eRun1, rIx_eRun2, rIx_eB0, rIx_eB1, rIx_eB2, rIx_eF0, rIx_eF1, rIx_eFF0, rIx_eFF1, gT_eRun, gT_eF, gT_eFF, wS_inj, st_bs, st_bf, st_fs, st_fb, st_sb, st_sf, rAdd, rSub, dRet, line]
      simp [eF, fadd, fsub] at h
      have e2 : t.1.2 + (t.2.1 - t.1.1) = t.1.2 + t.2.1 - t.1.1 := by omega
      have e3 : t.2.1 + -stepOf p r.ord b = t.2.1 - stepOf p r.ord b := by omega
      rw [e2, e3] at h
      exact h
    · have hw' : ((bt p.boats l).down == (bt p.boats b).down) = false := by simpa using hw
      rw [if_neg hw] at h
      simp [hw', dRet, dOp, dVar, dLst, dCons, dNil, rAdd, mutD, thaw, line]
      simpa [eF] using h
end DL
namespace DL
open PySem PySem.Spec PyProof.Rows L2 LamX
/-! The law's top and heads. -/
theorem worth_sub (f g : Form) (n : Int) : worth (fsub f g) n = worth f n - worth g n := by
  unfold worth fsub
  show (f.1 - g.1) * n + (f.2 - g.2) = _
  rw [Int.sub_mul]
  omega
theorem sgn_pos (f : Form) (n : Int) : sgn f n > 0 ↔ worth f n > 0 := by
  unfold sgn
  split
  · rename_i h; exact ⟨fun _ => h, fun _ => by decide⟩
  · rename_i h
    split
    · exact ⟨fun z => absurd z (by decide), fun z => absurd z h⟩
    · exact ⟨fun z => absurd z (by decide), fun z => absurd z h⟩
theorem topF_first (n : Int) : ∀ (fs : List Form) (best : Form) (asked : List Form), (∀ g ∈ best :: fs, worth g n ≤ worth (topF best asked n fs).1 n) ∧
    ∃ j, (best :: fs)[j]? = some (topF best asked n fs).1 ∧ ∀ (m : Nat) (z : Form), m < j → (best :: fs)[m]? = some z → worth z n < worth (topF best asked n fs).1 n
  | [], best, asked => ⟨fun g hg => by rw [List.mem_singleton.mp hg]; exact Int.le_refl _, 0, rfl, fun m z hm => absurd hm (Nat.not_lt_zero _)⟩
  | f :: r, best, asked => by
    unfold topF
    by_cases h : sgn (fsub f best) n > 0
    · rw [if_pos h]
      obtain ⟨h1, j, h2, h3⟩ := topF_first n r f (asked ++ [fsub f best])
      have hw := (sgn_pos _ _).mp h
      rw [worth_sub] at hw
      have hf := h1 f (List.mem_cons_self ..)
      refine ⟨fun g hg => ?_, j + 1, by simpa using h2, fun m z hm hz => ?_⟩
      · rcases List.mem_cons.mp hg with e | hg
        · rw [e]; omega
        · exact h1 g hg
      · cases m with
        | zero => simp at hz; subst hz; omega
        | succ m => exact h3 m z (by omega) (by simpa using hz)
    · rw [if_neg h]
      obtain ⟨h1, j, h2, h3⟩ := topF_first n r best (asked ++ [fsub f best])
      have hw : ¬ (worth (fsub f best) n > 0) := fun z => h ((sgn_pos _ _).mpr z)
      rw [worth_sub] at hw
      have hb := h1 best (List.mem_cons_self ..)
      refine ⟨fun g hg => ?_, ?_⟩
      · rcases List.mem_cons.mp hg with e | hg
        · rw [e]; exact hb
        · rcases List.mem_cons.mp hg with e | hg
          · rw [e]; omega
          · exact h1 g (List.mem_cons_of_mem _ hg)
      · cases j with
        | zero => exact ⟨0, by simpa using h2, fun m z hm => absurd hm (Nat.not_lt_zero _)⟩
        | succ j =>
          have hb2 : worth best n < worth (topF best (asked ++ [fsub f best]) n r).1 n := h3 0 best (by omega) rfl
          refine ⟨j + 2, by simpa using h2, fun m z hm hz => ?_⟩
          cases m with
          | zero => simp at hz; subst hz; exact hb2
          | succ m =>
            cases m with
            | zero => simp at hz; subst hz; omega
            | succ m => exact h3 (m + 1) z (by omega) (by simpa using hz)
theorem top_first {fs : List Form} (h : fs ≠ []) (n : Int) : (∀ g ∈ fs, worth g n ≤ worth (topForm fs n).1 n) ∧ ∃ j, fs[j]? = some (topForm fs n).1 ∧ ∀ (m : Nat) (z : Form), m < j → fs[m]? = some z → worth z n < worth (topForm fs n).1 n := by
  cases fs with
  | nil => exact absurd rfl h
  | cons f r => exact topF_first n r f []
theorem fidx_of {y : Dt} : ∀ {xs : List Dt} {j : Nat} {x : Dt}, xs[j]? = some x → PyData.eqv x y = true → (∀ (m : Nat) (z : Dt), m < j → xs[m]? = some z → PyData.eqv z y = false) → fidx y xs = some j
  | [], _, _, h, _, _ => by simp at h
  | a :: r, 0, x, h, e, _ => by
    simp at h
    subst h
    unfold fidx
    rw [if_pos e]
  | a :: r, j + 1, x, h, e, hn => by
    unfold fidx
    have h0 := hn 0 a (by omega) rfl
    rw [if_neg (by rw [h0]; decide)]
    rw [fidx_of (xs := r) (j := j) (by simpa using h) e fun m z hm hz => hn (m + 1) z (by omega) (by simpa using hz)]
    rfl
def sp__law_top : DSp := fun ds P => ∃ (fs : List Form) (n : Int), ds = [.list (fs.map eF), .int n] ∧ fs ≠ [] ∧ (∀ f ∈ fs, bd f) ∧ fs.length ≤ 1000 ∧ P (eF (topForm fs n).1)
theorem bd_sm {f : Form} (h : bd f) : sm f := by unfold bd at h; unfold sm; omega
theorem h__law_top : Hs 5 2 sp__law_top t__law_top := by
  rintro ds Q _ ⟨fs, n, rfl, hn, hb, hl, h⟩
  simp only [t__law_top, dSeq, dAsg, dLc, iL, dVar, startD_2, List.replicate, List.getElem?_cons_zero, onL, wipeR, List.set_cons_succ, List.set_cons_zero]
  refine ⟨rfl, ?_⟩
  refine lcW_all eF (fun f => .int (worth f n)) fs _ (fun f hf R hR => ?_) (by unfold line; omega) ?_
  · simp [dRet, dSeq, dAsg, dIfS, dNext, dDrop, dPar, dTup, dLst, dCons, dNil, dOp, dUn, dVar, dC, dB, onB, onI, onL, onT, dAnd, dOr, dNot, dAndV, dOrV, dNotV, dIf, dChain, dCall, dCb, gN, gT_tup, gConsD, gNilD, rIx_tup, rIx_lst, rAdd, rSub, rMul, rFdv, rMod, rPow, rLt, rLe, rGt, rGe, rEq, rNe, rIs, rIsn, rIn, rNin, rNeg, dSl, dPart, dNo, cutD, sLen, sInt, sAbs, sMin2, sMax2, sTuple, dFor, iL, iT, line, PyData.eqv, PyData.eqvAll, rIx_eP0, rIx_eP1, rIx_eP2, rIx_eRun0, rIx_eRun1, rIx_eRun2, rIx_eB0, rIx_eB1, rIx_eB2, rIx_eF0, rIx_eF1, rIx_eFF0, rIx_eFF1, gT_eRun, gT_eF, gT_eFF, wS_inj, st_bs, st_bf, st_fs, st_fb, st_sb, st_sf]
    exact ⟨sm_mul (bd_sm (hb f hf)) n, hR⟩
  · simp only [gN, List.set_cons_zero, List.set_cons_succ, dRet, thawR_cons, thawR_nil, Option.map_some, Option.map_none, thaw_list, thaw_int, dOp, dIdx, dCb, dCons, dNil, dVar, List.getElem?_cons_zero, List.getElem?_cons_succ, onL]
    obtain ⟨t1, j, t2, t3⟩ := top_first hn n
    refine ⟨rfl, rfl, rfl, fs.map (fun f => worth f n), by simp, by simpa using hn, fun m hm hle => ?_⟩
    have em : m = worth (topForm fs n).1 n := by
      obtain ⟨g, hg, eg⟩ := List.mem_map.mp hm
      have h1 := t1 g hg
      have h2 := hle _ (List.mem_map.mpr ⟨_, List.mem_of_getElem? t2, rfl⟩)
      have eg : worth g n = m := eg
      have h2 : worth (topForm fs n).1 n ≤ m := h2
      omega
    subst em
    have fl : (fs.map fun f => PyData.int (worth f n)).all flatD = true := by
      rw [List.all_map]
      exact List.all_eq_true.mpr fun _ _ => rfl
    refine ⟨rfl, fl, j, ?_, ?_⟩
    · refine fidx_of (x := .int (worth (topForm fs n).1 n)) (by rw [List.getElem?_map, t2]; rfl) (by simp [PyData.eqv]) fun m z hm hz => ?_
      rw [List.getElem?_map] at hz
      cases e : fs[m]? with
      | none => rw [e] at hz; cases hz
      | some g =>
        rw [e] at hz
        cases hz
        have := t3 m g hm e
        show ((worth g n == worth (topForm fs n).1 n) : Bool) = false
        exact beq_eq_false_iff_ne.mpr (by omega)
    · rw [rIx_lst, atI_nat, List.getElem?_map, t2]
      exact ⟨_, rfl, h⟩
/-! ### heads -/
theorem minD_pr : ∀ (r : List (Int × Nat)) (x : Int × Nat), PySem.W.minD (ePr x) (r.map ePr) = ePr (minP x r)
  | [], x => rfl
  | y :: r, x => by
    unfold minP
    rw [← minD_pr r]
    show List.foldl _ (if PySem.W.dataLt (ePr y) (ePr x) = true then ePr y else ePr x) (r.map ePr) = List.foldl _ (ePr (if leP x y = true then x else y)) (r.map ePr)
    have e := dataLe_ePr x y
    rw [PySem.W.dataLe_eq] at e
    have e : leP x y = !PySem.W.dataLt (ePr y) (ePr x) := e
    cases h : PySem.W.dataLt (ePr y) (ePr x) <;> rw [h] at e <;> simp [e]
theorem sMinD_pr {x : Int × Nat} {r : List (Int × Nat)} {P : Dt → Prop} (h : P (ePr (minP x r))) : sMinD [.list ((x :: r).map ePr)] P := by
  have g := GdA.map (n := 1) (l := x :: r) fun a _ => gd_ePr a
  refine ⟨⟨fun a ha b hb => ?_, fun a ha => ?_⟩, g.1, Nat.le_trans g.2 (by decide), ?_⟩
  · have ha : a ∈ (x :: r).map ePr := ha
    have hb : b ∈ (x :: r).map ePr := hb
    obtain ⟨a', _, rfl⟩ := List.mem_map.mp ha
    obtain ⟨b', _, rfl⟩ := List.mem_map.mp hb
    rfl
  · have ha : a ∈ (x :: r).map ePr := ha
    obtain ⟨a', _, rfl⟩ := List.mem_map.mp ha
    exact fun z => nomatch z
  · rw [minD_pr]
    exact h
def headsOf (p : Plan) (r : Run) : List Nat := [headOf p.boats false (leftOf p r.ord), headOf p.boats true (leftOf p r.ord)].filterMap id
def sp__law_heads : DSp := fun ds P => ∃ (p : Plan) (r : Run), ds = [eP p, eDone r] ∧ RunOk p r ∧ p.boats.length ≤ 5 ∧ r.ord.length ≤ 1000 ∧ P (.list ((headsOf p r).map eN))
/-- the pairs that the law lists: from the place k on -/
def pairsFrom (ord : List Nat) (w : Bool) : Nat → List Boat → List (Int × Nat)
  | _, [] => []
  | k, b :: bs => (if ord.contains k = false ∧ b.down = w then [(b.st, k)] else []) ++ pairsFrom ord w (k + 1) bs
theorem pairs_left (p : Plan) (ord : List Nat) (w : Bool) : pairsFrom ord w 0 p.boats = (leftOf p ord).filterMap fun b => if (bt p.boats b).down = w then some ((bt p.boats b).st, b) else none := by
  have gen : ∀ (bs pre : List Boat), p.boats = pre ++ bs → pairsFrom ord w pre.length bs = ((List.range' pre.length bs.length).filter fun b => !(ord.contains b)).filterMap fun b => if (bt p.boats b).down = w then some ((bt p.boats b).st, b) else none := by
    intro bs
    induction bs with
    | nil => intro pre _; rfl
    | cons b bs ih =>
      intro pre hp
      have hb : bt p.boats pre.length = b := by
        unfold bt
        rw [hp]
        simp [List.getD]
      have := ih (pre ++ [b]) (by rw [hp]; simp)
      rw [List.length_append, List.length_singleton] at this
      unfold pairsFrom
      rw [this, List.length_cons, List.range'_succ, List.filter_cons]
      by_cases h1 : ord.contains pre.length = true
      · have h1' : pre.length ∈ ord := by simpa using h1
        simp [h1']
      · have h1' : pre.length ∉ ord := by simpa using h1
        by_cases h2 : b.down = w
        · simp [h1', h2, hb]
        · simp [h1', h2, hb]
  have := gen p.boats [] rfl
  rw [List.length_nil] at this
  rw [this]
  unfold leftOf
  rw [List.range_eq_range']
theorem loop_pairs (p : Plan) (ord : List Nat) (w : Bool) (x0 x1 x3 x8 x9 x10 : Option Dt) (D : DEnds) : ∀ (bs : List Boat) (k : Nat) (acc : List (Int × Nat)) (o6 o7 : Option Dt), acc.length + bs.length ≤ 1000 →
    (∀ o6 o7 : Option Dt, D.nx [x0, x1, some (.list (ord.map eN)), x3, some (.str (wS w)), some (mutD ((acc ++ pairsFrom ord w k bs).map ePr)), o6, o7, x8, x9, x10]) →
    forW (gTupD 2 (gConsD (gN 6) (gConsD (gN 7) gNilD))) (dIfS (dAnd (dB (dOp rNin (dVar 6) (dVar 2))) (dB (dOp rEq (dOp rIx (dVar 7) (dC (.int 0))) (dVar 4)))) (dApp 5 (dTup (dCons (dOp rIx (dVar 7) (dC (.int 1))) (dCons (dVar 6) dNil)))) dNext)
      (enumD k (bs.map eB)) D [x0, x1, some (.list (ord.map eN)), x3, some (.str (wS w)), some (mutD (acc.map ePr)), o6, o7, x8, x9, x10]
  | [], k, acc, o6, o7, hl, h => by
    have := h o6 o7
    simp [pairsFrom] at this
    exact this
  | b :: bs, k, acc, o6, o7, hl, h => by
    have hl' : acc.length + (bs.length + 1) ≤ 1000 := hl
    have f3 := any_eN ord k
    have f1 := flat_eN ord
    show forW _ _ (.tuple [.int (k : Int), eB b] :: enumD (k + 1) (bs.map eB)) D _
    simp only [forW, gT_tup, gConsD, gN, gNilD, List.set_cons_zero, List.set_cons_succ, dIfS, dAnd, dB, dOp, dVar, dC, List.getElem?_cons_zero, List.getElem?_cons_succ, rNin, onB, rIx_eB0, rEq]
    refine ⟨rfl, trivial, rfl, rfl, rfl, f1, ?_⟩
    rw [f3]
    unfold pairsFrom at h
    cases hc : ord.contains k
    · simp only [hc, Bool.not_false, if_true] at h ⊢
      refine ⟨rfl, rfl, sh_wS _, sh_wS _, ?_⟩
      have e : PyData.eqv (.str (wS b.down)) (.str (wS w)) = (b.down == w) := wS_eq _ _
      rw [e]
      by_cases hw : b.down = w
      · have hw' : (b.down == w) = true := by simpa using hw
        simp only [hw', if_true]
        refine ⟨acc.map ePr, rfl, ?_⟩
        simp only [dTup, dCons, dNil, dOp, dVar, dC, List.getElem?_cons_zero, List.getElem?_cons_succ, rIx_eB1]
        refine ⟨rfl, rfl, by simp [line], by rw [List.length_map]; unfold line; omega, ?_⟩
        have := loop_pairs p ord w x0 x1 x3 x8 x9 x10 D bs (k + 1) (acc ++ [(b.st, k)]) (some (.int (k : Int))) (some (eB b)) (by simp; omega) fun o6 o7 => by
          have := h o6 o7
          simp [hw] at this
          simpa using this
        rw [List.map_append] at this
        exact this
      · have hw' : (b.down == w) = false := by simpa using hw
        simp only [hw', Bool.false_eq_true, if_false, dNext]
        exact loop_pairs p ord w x0 x1 x3 x8 x9 x10 D bs (k + 1) acc (some (.int (k : Int))) (some (eB b)) (by omega) fun o6 o7 => by
          have := h o6 o7
          simp [hw] at this
          rw [List.map_append]
          exact this
    · simp only [hc, Bool.not_true, Bool.false_eq_true, if_false, dNext] at h ⊢
      exact loop_pairs p ord w x0 x1 x3 x8 x9 x10 D bs (k + 1) acc (some (.int (k : Int))) (some (eB b)) (by omega) fun o6 o7 => by
        have := h o6 o7
        simp at this
        rw [List.map_append]
        exact this
end DL
namespace DL
open PySem PySem.Spec PyProof.Rows L2 LamX
/-! The law's heads; its next boat. -/
abbrev hBody : DTS := dSeq (dNew 5 dNil)
  (dSeq (dFor (iEn (dCons (dOp rIx (dVar 0) (dC (.int 2))) dNil)) (gTupD 2 (gConsD (gN 6) (gConsD (gN 7) gNilD))) (dIfS (dAnd (dB (dOp rNin (dVar 6) (dVar 2))) (dB (dOp rEq (dOp rIx (dVar 7) (dC (.int 0))) (dVar 4)))) (dApp 5 (dTup (dCons (dOp rIx (dVar 7) (dC (.int 1))) (dCons (dVar 6) dNil)))) dNext))
  (dAsg (dOp rAdd (dVar 3) (dIf (dFrzT (dB (dOp rNe (dVar 5) (dLst dNil)))) (dLst (dCons (dFrz (dOp rIx (dCb sMinD (dCons (dVar 5) dNil)) (dC (.int 1)))) dNil)) (dLst dNil))) (gN 3)))
theorem turn_heads (p : Plan) (r : Run) (w : Bool) (h5 : p.boats.length ≤ 5) (acc : List Nat) (hl : acc.length ≤ 10) (o5 o6 o7 o8 o9 o10 : Option Dt) (D : DEnds)
    (h : ∀ o5 o6 o7 : Option Dt, D.nx [some (eP p), some (eDone r), some (.list (r.ord.map eN)), some (.list ((acc ++ (headOf p.boats w (leftOf p r.ord)).toList).map eN)), some (.str (wS w)), o5, o6, o7, o8, o9, o10]) :
    hBody D [some (eP p), some (eDone r), some (.list (r.ord.map eN)), some (.list (acc.map eN)), some (.str (wS w)), o5, o6, o7, o8, o9, o10] := by
  simp only [hBody, dSeq, dNew, dNil, List.set_cons_zero, List.set_cons_succ]
  refine ⟨by simp [line], ?_⟩
  simp only [dFor, iEn, dCons, dNil, dOp, dVar, dC, List.getElem?_cons_zero, List.getElem?_cons_succ, rIx_eP2]
  refine ⟨rfl, ?_⟩
  refine loop_pairs p r.ord w _ _ _ _ _ _ _ p.boats 0 [] o6 o7 (by simp; omega) fun o6 o7 => ?_
  rw [List.nil_append, pairs_left]
  unfold headOf at h
  generalize hx : ((leftOf p r.ord).filterMap fun b => if (bt p.boats b).down = w then some ((bt p.boats b).st, b) else none) = xs at h
  simp only [dAsg, dOp, dVar, List.getElem?_cons_zero, List.getElem?_cons_succ, dIf, dFrzT, dB, thawR_cons, thawR_nil, Option.map_some, thaw_mut, dLst, dNil, rNe, onB]
  have gs : SeqAt.shaped (.list (xs.map ePr)) = true := (Gd.lst (GdA.map (n := 1) fun a _ => gd_ePr a)).sh
  refine ⟨rfl, rfl, by simp [line], gs, sh_nilL, ?_⟩
  cases xs with
  | nil =>
    have := h (some (mutD [])) o6 o7
    simp [firstP] at this
    simp [PyData.eqv, PyData.eqvAll, line, rAdd, gN]
    exact ⟨by omega, this⟩
  | cons y ys =>
    have := h (some (mutD ((y :: ys).map ePr))) o6 o7
    simp only [firstP, Option.map_some, Option.toList_some] at this
    have ne : PyData.eqv (.list ((y :: ys).map ePr)) (.list []) = false := rfl
    simp only [ne, Bool.not_false, if_true, dCons, dNil, dFrz, dOp, dCb, dVar, dC, thawR_cons, thawR_nil, Option.map_some, thaw_mut, List.getElem?_cons_zero, List.getElem?_cons_succ]
    refine ⟨rfl, sMinD_pr ?_⟩
    simp only [ePr, rIx_tup]
    refine ⟨.int ((minP y ys).2 : Int), rfl, rfl, by simp [line], ?_⟩
    simp only [rAdd, gN, List.set_cons_zero, List.set_cons_succ]
    refine ⟨by simp [line]; omega, ?_⟩
    simp only [List.map_append, List.map_cons, List.map_nil] at this
    exact this
theorem h__law_heads : Hs 11 2 sp__law_heads t__law_heads := by
  rintro ds Q _ ⟨p, r, rfl, ok, h5, hl, h⟩
  simp only [t__law_heads, dSeq, dPar, dCons, dLc, iL, dVar, startD_2, List.replicate, List.getElem?_cons_zero, List.getElem?_cons_succ, wipeR, List.set_cons_succ, List.set_cons_zero]
  refine ⟨rfl, ?_⟩
  unfold eDone
  simp only [onL]
  refine lcW_map eDn (fun q => some (eN q.1)) (r.ord.zip r.tim) [] _ (fun q hq R hR => ?_) ?_ ?_
  · simp [gT_eDn, dRet, dSeq, dAsg, dIfS, dNext, dDrop, dPar, dTup, dLst, dCons, dNil, dOp, dUn, dVar, dC, dB, onB, onI, onL, onT, dAnd, dOr, dNot, dAndV, dOrV, dNotV, dIf, dChain, dCall, dCb, gN, gT_tup, gConsD, gNilD, rIx_tup, rIx_lst, rAdd, rSub, rMul, rFdv, rMod, rPow, rLt, rLe, rGt, rGe, rEq, rNe, rIs, rIsn, rIn, rNin, rNeg, dSl, dPart, dNo, cutD, sLen, sInt, sAbs, sMin2, sMax2, sTuple, dFor, iL, iT, line, PyData.eqv, PyData.eqvAll, dYes]
    exact hR
  · rw [List.length_zip]
    simp [line]
    omega
  · have e : (r.ord.zip r.tim).filterMap (fun q => some (eN q.1)) = r.ord.map eN := by
      have : (r.ord.zip r.tim).filterMap (fun q => some (eN q.1)) = ((r.ord.zip r.tim).map (·.1)).map eN := by simp
      rw [this, zip_fst ok.2.symm]
    rw [List.nil_append, e]
    simp only [dLst, dNil, List.set_cons_succ, List.set_cons_zero, dFor, iL, dCons, dC, onL, forW]
    refine ⟨by simp [line], by simp [line], ?_⟩
    simp only [gN, List.set_cons_succ, List.set_cons_zero]
    have tl : ∀ o : Option Nat, o.toList.length ≤ 1 := fun o => by cases o <;> simp
    refine turn_heads p r false h5 [] (by simp) _ _ _ _ _ _ _ fun o5 o6 o7 => ?_
    simp only [forW, gN, List.set_cons_succ, List.set_cons_zero, List.nil_append]
    refine turn_heads p r true h5 (headOf p.boats false (leftOf p r.ord)).toList (Nat.le_trans (tl _) (by decide)) _ _ _ _ _ _ _ fun o5 o6 o7 => ?_
    simp only [dRet, dVar, thawR_cons, Option.map_some, List.getElem?_cons_succ, List.getElem?_cons_zero, thaw_list]
    refine ⟨rfl, ?_⟩
    have e : headsOf p r = (headOf p.boats false (leftOf p r.ord)).toList ++ (headOf p.boats true (leftOf p r.ord)).toList := by
      unfold headsOf
      cases headOf p.boats false (leftOf p r.ord) <;> cases headOf p.boats true (leftOf p r.ord) <;> rfl
    rw [e] at h
    exact h
end DL
namespace DL
open PySem PySem.Spec PyProof.Rows L2 LamX
/-! The law's next boat. -/
def eTr (x : Int × Int × Nat) : Dt := .tuple [.int x.1, .int x.2.1, .int (x.2.2 : Int)]
theorem dataLt_iii (x y : Int × Int × Nat) : PySem.W.dataLt (eTr x) (eTr y) = decide (x.1 < y.1 ∨ (x.1 = y.1 ∧ (x.2.1 < y.2.1 ∨ (x.2.1 = y.2.1 ∧ x.2.2 < y.2.2)))) := by
  unfold eTr
  have e : PyProof.Rows.lexLt PyProof.Rows.itemOrd (PySem.W.keyToksAll []) (PySem.W.keyToksAll []) = false := by decide +kernel
  rw [PySem.W.dataLt_tuple, PySem.W.dataLt_cons rfl, PySem.W.dataLt_cons rfl, PySem.W.dataLt_cons rfl, e, PySem.W.dataLt_int, PySem.W.dataLt_int, PySem.W.dataLt_int]
  simp only [PyData.eqv, beq_iff_eq]
  by_cases h1 : x.1 = y.1 <;> by_cases h2 : x.2.1 = y.2.1 <;> by_cases h3 : (x.2.2 : Int) = (y.2.2 : Int) <;> simp [h1, h2] <;> omega
theorem gd_eTr (x : Int × Int × Nat) : Gd 1 (eTr x) := Gd.tup (GdA.cons (Gd.int _) (GdA.cons (Gd.int _) (GdA.cons (Gd.int _) GdA.nil)))
def minT (x y : Int × Int × Nat) : Int × Int × Nat := if y.1 < x.1 ∨ (y.1 = x.1 ∧ (y.2.1 < x.2.1 ∨ (y.2.1 = x.2.1 ∧ y.2.2 < x.2.2))) then y else x
theorem sMinD_tr {x y : Int × Int × Nat} {P : Dt → Prop} (h : P (eTr (minT x y))) : sMinD [.list [eTr x, eTr y]] P := by
  have g := GdA.map (n := 1) (l := [x, y]) fun a _ => gd_eTr a
  refine ⟨⟨fun a ha b hb => ?_, fun a ha => ?_⟩, g.1, Nat.le_trans g.2 (by decide), ?_⟩
  · have ha : a ∈ [x, y].map eTr := ha
    have hb : b ∈ [x, y].map eTr := hb
    obtain ⟨a', _, rfl⟩ := List.mem_map.mp ha
    obtain ⟨b', _, rfl⟩ := List.mem_map.mp hb
    rfl
  · have ha : a ∈ [x, y].map eTr := ha
    obtain ⟨a', _, rfl⟩ := List.mem_map.mp ha
    exact fun z => nomatch z
  · have e : PySem.W.minD (eTr x) [eTr y] = eTr (minT x y) := by
      show (if PySem.W.dataLt (eTr y) (eTr x) = true then eTr y else eTr x) = _
      rw [dataLt_iii]
      unfold minT
      by_cases hh : y.1 < x.1 ∨ (y.1 = x.1 ∧ (y.2.1 < x.2.1 ∨ (y.2.1 = x.2.1 ∧ y.2.2 < x.2.2)))
      · rw [if_pos (decide_eq_true hh), if_pos hh]
      · rw [if_neg (by rw [decide_eq_false hh]; decide), if_neg hh]
    rw [e]
    exact h
theorem sgn_cases (f : Form) (n : Int) : (sgn f n = 0 ↔ worth f n = 0) ∧ (sgn f n < 0 ↔ worth f n < 0) := by
  unfold sgn
  by_cases h1 : worth f n > 0
  · rw [if_pos h1]
    exact ⟨⟨fun z => absurd z (by decide), fun z => by omega⟩, ⟨fun z => absurd z (by decide), fun z => by omega⟩⟩
  · rw [if_neg h1]
    by_cases h2 : worth f n < 0
    · rw [if_pos h2]
      exact ⟨⟨fun z => absurd z (by decide), fun z => by omega⟩, ⟨fun _ => h2, fun _ => by decide⟩⟩
    · rw [if_neg h2]
      exact ⟨⟨fun _ => by omega, fun _ => rfl⟩, ⟨fun z => absurd z (by decide), fun z => absurd z h2⟩⟩
/-- not the way of the last one -/
def wrongOf (p : Plan) (r : Run) (b : Nat) : Int := if sameWay p r b = true then 0 else 1
theorem soon_min (p : Plan) (r : Run) (n : Int) (a b : Nat) (ha : (bt p.boats a).down = false) (hb : (bt p.boats b).down = true) :
    (minT (worth (topForm (bounds p r a) n).1 n, wrongOf p r a, a) (worth (topForm (bounds p r b) n).1 n, wrongOf p r b, b)).2.2 = (nextSoon p r n a b).1 := by
  have hg : worth (gapOf p r n a b) n = worth (topForm (bounds p r a) n).1 n - worth (topForm (bounds p r b) n).1 n := worth_sub _ _ _
  obtain ⟨s0, s1⟩ := sgn_cases (gapOf p r n a b) n
  unfold nextSoon minT
  generalize worth (topForm (bounds p r a) n).1 n = wa at *
  generalize worth (topForm (bounds p r b) n).1 n = wb at *
  by_cases h0 : sgn (gapOf p r n a b) n = 0
  · have hw := s0.mp h0
    have hab : wa = wb := by omega
    subst hab
    simp only [h0, ne_eq, not_true, if_false]
    unfold wrongOf
    cases el : r.ord.getLast? with
    | none =>
      have e1 : sameWay p r a = false := by unfold sameWay; rw [el]
      have e2 : sameWay p r b = false := by unfold sameWay; rw [el]
      simp only [e1, e2, List.filter]
      by_cases hab : b < a
      · rw [if_pos (by simp [hab])]
        exact (Nat.min_eq_right (Nat.le_of_lt hab)).symm
      · rw [if_neg (by simp [hab])]
        exact (Nat.min_eq_left (Nat.le_of_not_lt hab)).symm
    | some l =>
      have e1 : sameWay p r a = ((bt p.boats a).down == (bt p.boats l).down) := by unfold sameWay; rw [el]
      have e2 : sameWay p r b = ((bt p.boats b).down == (bt p.boats l).down) := by unfold sameWay; rw [el]
      rw [ha] at e1
      rw [hb] at e2
      cases hl : (bt p.boats l).down
      · rw [hl] at e1 e2
        simp [e1, e2, List.filter]
      · rw [hl] at e1 e2
        simp [e1, e2, List.filter]
  · have hw : ¬ (worth (gapOf p r n a b) n = 0) := fun z => h0 (s0.mpr z)
    rw [if_pos h0]
    by_cases h1 : sgn (gapOf p r n a b) n < 0
    · have := s1.mp h1
      rw [if_pos h1, if_neg (by omega)]
    · have : ¬ worth (gapOf p r n a b) n < 0 := fun z => h1 (s1.mpr z)
      rw [if_neg h1, if_pos (by omega)]
def sp__law_next : DSp := fun ds P => ∃ (p : Plan) (r : Run) (n : Int), ds = [eP p, eDone r, .int n] ∧ RunPre p r ∧ r.ord.length ≤ 1000 ∧ (∃ b, b < p.boats.length ∧ b ∉ r.ord) ∧ P (eN (nextBoat p r n).1)
/-- the row at the end, counted from the front -/
def rowLoop (bs : List Boat) (w : Bool) : Nat → List Nat → Nat
  | k, [] => k
  | k, b :: l => rowLoop bs w (if (bt bs b).down = w then k + 1 else 0) l
theorem rowLoop_snoc (bs : List Boat) (w : Bool) : ∀ (l : List Nat) (k b : Nat), rowLoop bs w k (l ++ [b]) = if (bt bs b).down = w then rowLoop bs w k l + 1 else 0
  | [], k, b => rfl
  | a :: l, k, b => rowLoop_snoc bs w l _ b
theorem row_take (bs : List Boat) (w : Bool) : ∀ l : List Nat, rowLoop bs w 0 l = (l.reverse.takeWhile fun b => (bt bs b).down == w).length := by
  intro l
  induction hl : l.reverse generalizing l with
  | nil =>
    have : l = [] := List.reverse_eq_nil_iff.mp hl
    subst this
    rfl
  | cons b r ih =>
    have e : l = r.reverse ++ [b] := by rw [← List.reverse_reverse l, hl, List.reverse_cons]
    rw [e, rowLoop_snoc, List.takeWhile_cons]
    by_cases hw : (bt bs b).down = w
    · have hw' : ((bt bs b).down == w) = true := by simpa using hw
      rw [if_pos hw, hw', ih r.reverse (List.reverse_reverse r)]
      rfl
    · have hw' : ((bt bs b).down == w) = false := by simpa using hw
      rw [if_neg hw, hw']
      rfl
theorem row_eq {p : Plan} {ord : List Nat} {l : Nat} (h : ord.getLast? = some l) : rowBehind p.boats ord = rowLoop p.boats (bt p.boats l).down 0 ord := by
  unfold rowBehind
  rw [h, row_take]
end DL
namespace DL
open PySem PySem.Spec PyProof.Rows L2 LamX
/-! The law's next boat, the reading. -/
theorem early_pr {bs : List Boat} {heads : List Nat} {Q : Dt → Prop} (ho : OrdOk bs heads) (hn : heads ≠ []) (hl : heads.length ≤ 1000) (x0 x1 x2 x5 x6 x7 x8 x9 x10 x11 x12 x13 x14 x15 x16 : Option Dt) (h : Q (eN (earlier bs heads))) :
    dOp rIx (dCb sMinD (dCons (dLc (iL (dVar 3)) (gN 8) dYes (dTup (dCons (dOp rIx (dOp rIx (dVar 4) (dVar 8)) (dC (.int 1))) (dCons (dVar 8) dNil))) [8]) dNil)) (dC (.int 1)) [x0, x1, x2, some (.list (heads.map eN)), some (.tuple (bs.map eB)), x5, x6, x7, x8, x9, x10, x11, x12, x13, x14, x15, x16] Q := by
  simp only [dOp, dCb, dCons, dNil, dLc, iL, dVar, List.getElem?_cons_zero, List.getElem?_cons_succ, onL, wipeR, List.set_cons_succ, List.set_cons_zero]
  refine ⟨rfl, ?_⟩
  refine lcW_all eN (fun b => ePr ((bt bs b).st, b)) heads _ (fun b hb R hR => ?_) (by unfold line; omega) ?_
  · simp only [gN, dTup, dCons, dNil, dOp, dVar, dC, List.set_cons_succ, List.set_cons_zero, List.getElem?_cons_zero, List.getElem?_cons_succ, rIx_bt (ho b hb), rIx_eB1]
    exact ⟨rfl, rfl, rfl, by simp [line], hR⟩
  · have : heads.map (fun b => ePr ((bt bs b).st, b)) = (heads.map fun b => ((bt bs b).st, b)).map ePr := by simp
    rw [this]
    unfold earlier at h
    cases e : heads.map fun b => ((bt bs b).st, b) with
    | nil => exact absurd (List.map_eq_nil_iff.mp e) hn
    | cons x xs =>
      rw [e] at h
      refine sMinD_pr ?_
      simp only [ePr, dC, rIx_tup]
      exact ⟨_, rfl, h⟩
theorem loop_many {bs : List Boat} (w : Bool) (x0 x1 x2 x3 x5 x7 x8 x9 x10 x15 x16 : Option Dt) (D : DEnds) (v6 : Dt) (hv : v6 = .str (wS w)) : ∀ (l : List (Nat × FF)) (k : Nat) (o12 o13 o14 : Option Dt), (∀ q ∈ l, q.1 < bs.length) →
    (∀ o12 o13 o14 : Option Dt, D.nx [x0, x1, x2, x3, some (.tuple (bs.map eB)), x5, some v6, x7, x8, x9, x10, some (.int (rowLoop bs w k (l.map (·.1)) : Nat)), o12, o13, o14, x15, x16]) →
    forW (gTupD 3 (gConsD (gN 12) (gConsD (gN 13) (gConsD (gN 14) gNilD)))) (dAsg (dIf (dB (dOp rEq (dOp rIx (dOp rIx (dVar 4) (dVar 12)) (dC (.int 0))) (dVar 6))) (dOp rAdd (dVar 11) (dC (.int 1))) (dC (.int 0))) (gN 11))
      (l.map eDn) D [x0, x1, x2, x3, some (.tuple (bs.map eB)), x5, some v6, x7, x8, x9, x10, some (.int (k : Int)), o12, o13, o14, x15, x16]
  | [], k, o12, o13, o14, _, h => h _ _ _
  | q :: l, k, o12, o13, o14, hq, h => by
    subst hv
    have hb := hq q (List.mem_cons_self ..)
    simp only [List.map_cons, forW, gT_eDn, gConsD, gN, gNilD, List.set_cons_zero, List.set_cons_succ, dAsg, dIf, dB, dOp, dVar, dC, List.getElem?_cons_zero, List.getElem?_cons_succ, rIx_bt hb, rIx_eB0, rEq, onB]
    refine ⟨trivial, rfl, rfl, rfl, sh_wS _, sh_wS _, ?_⟩
    have e : PyData.eqv (.str (wS (bt bs q.1).down)) (.str (wS w)) = ((bt bs q.1).down == w) := wS_eq _ _
    rw [e]
    by_cases hw : (bt bs q.1).down = w
    · have hw' : ((bt bs q.1).down == w) = true := by simpa using hw
      simp only [hw', if_true, rAdd]
      refine ⟨rfl, ?_⟩
      refine loop_many w x0 x1 x2 x3 x5 x7 x8 x9 x10 x15 x16 D _ rfl l (k + 1) _ _ _ (fun z hz => hq z (List.mem_cons_of_mem _ hz)) fun o12 o13 o14 => ?_
      have := h o12 o13 o14
      simp only [List.map_cons, rowLoop, hw, if_true] at this
      exact this
    · have hw' : ((bt bs q.1).down == w) = false := by simpa using hw
      simp only [hw', Bool.false_eq_true, if_false]
      refine loop_many w x0 x1 x2 x3 x5 x7 x8 x9 x10 x15 x16 D _ rfl l 0 _ _ _ (fun z hz => hq z (List.mem_cons_of_mem _ hz)) fun o12 o13 o14 => ?_
      have := h o12 o13 o14
      simp only [List.map_cons, rowLoop, hw, if_false] at this
      exact this
@[simp] theorem lay_empty : (PyData.str "").canLay0 = true := by decide +kernel
theorem eqv_first (r : Rule) : PyData.eqv (eRu r) (.tuple [.str "first"]) = decide (r = .first) := by
  cases r with
  | batch m => simp [eRu, PyData.eqv, PyData.eqvAll]
  | first => decide +kernel
  | soon => decide +kernel
theorem eqv_soon (r : Rule) : PyData.eqv (eRu r) (.tuple [.str "soon"]) = decide (r = .soon) := by
  cases r with
  | batch m => simp [eRu, PyData.eqv, PyData.eqvAll]
  | first => decide +kernel
  | soon => decide +kernel
theorem gd_eRu (r : Rule) : Gd 1 (eRu r) := by
  cases r with
  | first => exact Gd.tup (GdA.cons (Gd.str lay_first) GdA.nil)
  | soon => exact Gd.tup (GdA.cons (Gd.str lay_soon) GdA.nil)
  | batch m => exact Gd.tup (GdA.cons (Gd.str lay_batch) (GdA.cons (Gd.int _) GdA.nil))
theorem wS_no (w : Bool) : ((wS w : Str) == ("" : Str)) = false := by cases w <;> decide +kernel
/-- the way of the last one, as the law has it -/
def lastW (p : Plan) (r : Run) : Dt := match r.ord.getLast? with
  | none => .str ""
  | some l => .str (wS (bt p.boats l).down)
theorem sh_lastW (p : Plan) (r : Run) : SeqAt.shaped (lastW p r) = true := by
  unfold lastW
  split
  · exact sh_str _ lay_empty
  · exact sh_wS _
theorem mu_lastW (p : Plan) (r : Run) : isMut (lastW p r) = false ∧ thaw (lastW p r) = lastW p r := by
  unfold lastW
  split <;> exact ⟨rfl, rfl⟩
theorem eqv_lastW (p : Plan) (r : Run) (b : Nat) : PyData.eqv (.str (wS (bt p.boats b).down)) (lastW p r) = sameWay p r b := by
  unfold lastW sameWay
  cases r.ord.getLast? with
  | none => exact wS_no _
  | some l => exact wS_eq _ _
abbrev sBody : DTS := dSeq (dAsg (dCall 2 sp__law_top (dCons (dCall 3 sp__law_limits (dCons (dVar 0) (dCons (dVar 1) (dCons (dVar 8) dNil)))) (dCons (dVar 2) dNil))) (gTupD 2 (gConsD (gN 9) (gConsD (gN 10) gNilD))))
  (dApp 7 (dTup (dCons (dOp rAdd (dOp rMul (dVar 9) (dVar 2)) (dVar 10)) (dCons (dCb sInt (dCons (dOp rNe (dOp rIx (dOp rIx (dVar 4) (dVar 8)) (dC (.int 0))) (dVar 6)) dNil)) (dCons (dVar 8) dNil)))))
theorem turn_soon {p : Plan} {r : Run} (pre : RunPre p r) (n : Int) {x : Nat} (hx : x < p.boats.length) (acc : List Dt) (hl : acc.length ≤ 10) (x3 x5 x9 x10 x11 x12 x13 x14 x15 x16 : Option Dt) (D : DEnds)
    (h : ∀ x9 x10 : Option Dt, D.nx [some (eP p), some (eDone r), some (.int n), x3, some (.tuple (p.boats.map eB)), x5, some (lastW p r), some (mutD (acc ++ [eTr (worth (topForm (bounds p r x) n).1 n, wrongOf p r x, x)])), some (eN x), x9, x10, x11, x12, x13, x14, x15, x16]) :
    sBody D [some (eP p), some (eDone r), some (.int n), x3, some (.tuple (p.boats.map eB)), x5, some (lastW p r), some (mutD acc), some (eN x), x9, x10, x11, x12, x13, x14, x15, x16] := by
  have cx : cap 1008 (topForm (bounds p r x) n).1 := bounds_cap pre.ok pre.cap hx _ (top_mem (bounds_ne p r x) n)
  simp only [sBody, dSeq, dAsg, dCall, dCons, dNil, dVar, List.getElem?_cons_zero, List.getElem?_cons_succ]
  refine ⟨rfl, rfl, rfl, rfl, p, r, x, rfl, hx, pre.run, rfl, rfl, ?_⟩
  refine ⟨bounds p r x, n, rfl, bounds_ne p r x, fun f hf => Nat.le_trans (bounds_cap pre.ok pre.cap hx f hf) (by decide), Nat.le_trans (bounds_len p r x) (by decide), ?_⟩
  simp only [gT_eF, gConsD, gN, gNilD, List.set_cons_zero, List.set_cons_succ]
  refine ⟨trivial, acc, rfl, ?_⟩
  simp only [dTup, dCons, dNil, dOp, dCb, dVar, dC, List.getElem?_cons_zero, List.getElem?_cons_succ, rIx_bt hx, rIx_eB0, rMul, rAdd, rNe, sInt]
  refine ⟨rfl, rfl, sm_mul (bd_sm (Nat.le_trans cx (by decide))) n, rfl, rfl, rfl, (mu_lastW p r).1, sh_wS _, sh_lastW p r, rfl, by simp [line], by unfold line; omega, ?_⟩
  have := h (some (.int (topForm (bounds p r x) n).1.1)) (some (.int (topForm (bounds p r x) n).1.2))
  rw [eqv_lastW]
  have e : (if (!sameWay p r x) = true then (1 : Int) else 0) = wrongOf p r x := by
    unfold wrongOf
    cases sameWay p r x <;> rfl
  rw [e]
  exact this
theorem h__law_next : Hs 17 3 sp__law_next (t__law_next sp__law_heads sp__law_top sp__law_limits) := by
  rintro ds Q _ ⟨p, r, n, rfl, pre, hl, hleft, h⟩
  have ho := pre.run.1
  have len5 := pre.ok.len1
  have lo : OrdOk p.boats (leftOf p r.ord) := fun x hx => (left_mem.mp hx).1
  simp only [t__law_next, dSeq, dAsg, dTup, dCons, dNil, dCall, dVar, dOp, dC, startD_3, List.replicate, List.getElem?_cons_zero, List.getElem?_cons_succ, rIx_eP2]
  refine ⟨rfl, rfl, rfl, p, r, rfl, pre.run, len5, hl, ?_⟩
  simp only [gT_tup, gConsD, gN, gNilD, List.set_cons_zero, List.set_cons_succ]
  refine ⟨rfl, by simp [line], rfl, trivial, ?_⟩
  unfold nextBoat at h
  unfold headsOf
  cases ea : headOf p.boats false (leftOf p r.ord) with
  | none =>
    cases eb : headOf p.boats true (leftOf p r.ord) with
    | none =>
      obtain ⟨b, hb, hno⟩ := hleft
      have hm := left_mem.mpr ⟨hb, hno⟩
      have h1 := headOf_none ea b hm
      have h2 := headOf_none eb b hm
      cases e : (bt p.boats b).down
      · exact absurd e h1
      · exact absurd e h2
    | some b =>
      simp [ea, eb] at h
      simp [dRet, dSeq, dAsg, dIfS, dNext, dDrop, dPar, dTup, dLst, dCons, dNil, dOp, dUn, dVar, dC, dB, onB, onI, onL, onT, dAnd, dOr, dNot, dAndV, dOrV, dNotV, dIf, dChain, dCall, dCb, gN, gT_tup, gConsD, gNilD, rIx_tup, rIx_lst, rAdd, rSub, rMul, rFdv, rMod, rPow, rLt, rLe, rGt, rGe, rEq, rNe, rIs, rIsn, rIn, rNin, rNeg, dSl, dPart, dNo, cutD, sLen, sInt, sAbs, sMin2, sMax2, sTuple, dFor, iL, iT, line, PyData.eqv, PyData.eqvAll]
      exact h
  | some a =>
    cases eb : headOf p.boats true (leftOf p r.ord) with
    | none =>
      simp [ea, eb] at h
      simp [dRet, dSeq, dAsg, dIfS, dNext, dDrop, dPar, dTup, dLst, dCons, dNil, dOp, dUn, dVar, dC, dB, onB, onI, onL, onT, dAnd, dOr, dNot, dAndV, dOrV, dNotV, dIf, dChain, dCall, dCb, gN, gT_tup, gConsD, gNilD, rIx_tup, rIx_lst, rAdd, rSub, rMul, rFdv, rMod, rPow, rLt, rLe, rGt, rGe, rEq, rNe, rIs, rIsn, rIn, rNin, rNeg, dSl, dPart, dNo, cutD, sLen, sInt, sAbs, sMin2, sMax2, sTuple, dFor, iL, iT, line, PyData.eqv, PyData.eqvAll]
      exact h
    | some b =>
      have ha := headOf_mem ea
      have hb := headOf_mem eb
      have la := lo a ha.1
      have lb := lo b hb.1
      have hab : OrdOk p.boats [a, b] := fun x hx => by
        rcases List.mem_cons.mp hx with e | hx
        · rw [e]; exact la
        · rw [List.mem_singleton.mp hx]; exact lb
      simp only [ea, eb] at h
      have hh : [some a, some b].filterMap id = [a, b] := rfl
      rw [hh]
      simp only [dSeq, dIfS, dB, dOp, dCb, dCons, dNil, dVar, dC, List.getElem?_cons_zero, List.getElem?_cons_succ, sLen, rEq, onB]
      refine ⟨rfl, sh_int _, sh_int _, ?_⟩
      have e21 : PyData.eqv (.int (([a, b].map eN).length : Int)) (.int 1) = false := rfl
      simp only [e21, Bool.false_eq_true, if_false, dNext, dSeq, dAsg]
      refine early_pr hab (by simp) (by simp) _ _ _ _ _ _ _ _ _ _ _ _ _ _ _ ?_
      simp only [gN, List.set_cons_zero, List.set_cons_succ]
      simp only [dSeq, dIfS, dB, dOp, dTup, dCons, dNil, dVar, dC, List.getElem?_cons_zero, List.getElem?_cons_succ, rIx_eP1, rEq, onB]
      refine ⟨rfl, by simp [line], (gd_eRu _).sh, (gd_eRu .first).sh, ?_⟩
      rw [eqv_first]
      by_cases hf : p.rule = .first
      · simp only [hf] at h
        simp only [hf, decide_true, if_true, dRet, dVar, thawR_cons, thawR_nil, Option.map_some, thaw_eN, List.getElem?_cons_zero, List.getElem?_cons_succ]
        exact ⟨rfl, h⟩
      simp only [hf, decide_false, Bool.false_eq_true, if_false, dNext, dSeq, dAsg]
      -- the last one's way
      have step6 : ∀ P : Dt → Prop, P (lastW p r) → dIf (dB (dOp rNe (dVar 1) (dLst dNil))) (dOp rIx (dOp rIx (dVar 4) (dOp rIx (dOp rIx (dVar 1) (dUn rNeg (dC (.int 1)))) (dC (.int 0)))) (dC (.int 0))) (dC (.str ""))
          [some (eP p), some (eDone r), some (.int n), some (.list ([a, b].map eN)), some (.tuple (p.boats.map eB)), some (eN (earlier p.boats [a, b])), none, none, none, none, none, none, none, none, none, none, none] P := by
        intro P hP
        simp only [dIf, dB, dOp, dVar, dLst, dNil, List.getElem?_cons_zero, List.getElem?_cons_succ, rNe, onB]
        refine ⟨rfl, by simp [line], sh_eDone r, sh_nilL, ?_⟩
        unfold lastW at hP
        by_cases hn : r.ord = []
        · rw [hn] at hP
          rw [done_nil hn]
          exact hP
        · rw [done_ne pre.run hn]
          have ht : r.tim ≠ [] := fun z => hn (List.eq_nil_of_length_eq_zero (by rw [← pre.run.2, z]; rfl))
          obtain ⟨l, hl⟩ := ne_last hn
          obtain ⟨t, htl⟩ := ne_last ht
          rw [hl] at hP
          simp only [Bool.not_false, if_true, dOp, dVar, dC, dUn, rNeg, List.getElem?_cons_zero, List.getElem?_cons_succ, rIx_done pre.run hl htl, rIx_eDn0, rIx_bt (ho.last hl), rIx_eB0]
          exact ⟨rfl, rfl, hP⟩
      refine step6 _ ?_
      simp only [gN, List.set_cons_zero, List.set_cons_succ]
      simp only [dSeq, dIfS, dB, dOp, dTup, dCons, dNil, dVar, dC, List.getElem?_cons_zero, List.getElem?_cons_succ, rIx_eP1, rEq, onB]
      refine ⟨rfl, by simp [line], (gd_eRu _).sh, (gd_eRu .soon).sh, ?_⟩
      rw [eqv_soon]
      by_cases hs : p.rule = .soon
      · simp only [hs] at h
        simp only [hs, decide_true, if_true, dNew, dNil, List.set_cons_zero, List.set_cons_succ]
        refine ⟨by simp [line], ?_⟩
        simp only [dFor, iL, dVar, List.getElem?_cons_zero, List.getElem?_cons_succ, onL, List.map_cons, List.map_nil, forW, gN, List.set_cons_zero, List.set_cons_succ]
        refine ⟨rfl, ?_⟩
        refine turn_soon pre n la [] (by simp) _ _ _ _ _ _ _ _ _ _ _ fun x9 x10 => ?_
        simp only [forW, gN, List.set_cons_zero, List.set_cons_succ]
        refine turn_soon pre n lb _ (by simp) _ _ _ _ _ _ _ _ _ _ _ fun x9 x10 => ?_
        simp only [dRet, dOp, dCb, dCons, dNil, dVar, dC, thawR_cons, Option.map_some, thaw_mut, List.getElem?_cons_zero, List.getElem?_cons_succ, List.nil_append, List.cons_append]
        refine ⟨rfl, sMinD_tr ?_⟩
        simp only [eTr, rIx_tup, atI_2]
        refine ⟨_, rfl, ?_⟩
        have e := soon_min p r n a b ha.2 hb.2
        rw [show (PyData.int ((minT (worth (topForm (bounds p r a) n).1 n, wrongOf p r a, a) (worth (topForm (bounds p r b) n).1 n, wrongOf p r b, b)).2.2 : Int)) = eN (nextSoon p r n a b).1 from by rw [e]; rfl]
        exact h
      · simp only [hs, decide_false, Bool.false_eq_true, if_false, dNext, dSeq, dAsg, dC, gN, List.set_cons_zero, List.set_cons_succ]
        obtain ⟨m, hm⟩ : ∃ m, p.rule = .batch m := by
          cases e : p.rule with
          | first => exact absurd e hf
          | soon => exact absurd e hs
          | batch m => exact ⟨m, rfl⟩
        simp only [hm] at h
        simp only [dFor, iL, dVar, List.getElem?_cons_zero, List.getElem?_cons_succ]
        refine ⟨rfl, ?_⟩
        cases el : r.ord.getLast? with
        | none =>
          have hn := List.getLast?_eq_none_iff.mp el
          simp only [el] at h
          rw [done_nil hn]
          simp only [onL, forW, dIfS, dB, dOp, dVar, dLst, dNil, List.getElem?_cons_zero, List.getElem?_cons_succ, rEq, onB]
          refine ⟨rfl, by simp [line], sh_nilL, sh_nilL, ?_⟩
          simp only [PyData.eqv, PyData.eqvAll, if_true, dRet, dVar, thawR_cons, Option.map_some, List.getElem?_cons_zero, List.getElem?_cons_succ, thaw_eN]
          exact ⟨rfl, h⟩
        | some l =>
          have hn : r.ord ≠ [] := fun z => by rw [z] at el; cases el
          have lL := ho.last el
          simp only [el] at h
          have ew : lastW p r = .str (wS (bt p.boats l).down) := by unfold lastW; rw [el]
          have hne := done_ne pre.run hn
          unfold eDone at hne ⊢
          simp only [onL]
          refine loop_many (bt p.boats l).down _ _ _ _ _ _ _ _ _ _ _ _ _ ew (r.ord.zip r.tim) 0 _ _ _ (fun q hq => ho _ (List.of_mem_zip hq).1) fun o12 o13 o14 => ?_
          rw [zip_fst pre.run.2.symm, ← row_eq el]
          simp only [dIfS, dB, dOp, dVar, dLst, dNil, List.getElem?_cons_zero, List.getElem?_cons_succ, rEq, onB]
          refine ⟨rfl, by simp [line], sh_eDone r, sh_nilL, ?_⟩
          simp only [hne, Bool.false_eq_true, if_false, dNext, dLc, iL, dVar, List.getElem?_cons_zero, List.getElem?_cons_succ, onL, wipeR, List.set_cons_zero, List.set_cons_succ]
          have sa : sameWay p r a = (false == (bt p.boats l).down) := by unfold sameWay; rw [el, ← ha.2]
          have sb : sameWay p r b = (true == (bt p.boats l).down) := by unfold sameWay; rw [el, ← hb.2]
          have fin : ∀ (o15 o16 : List Dt) (x y : Nat), o15 = [eN x] → o16 = [eN y] → Q (eN (if (rowBehind p.boats r.ord : Int) < m then x else y)) →
              dRet (dIf (dB (dOp rLt (dVar 11) (dOp rIx (dOp rIx (dVar 0) (dC (.int 1))) (dC (.int 1))))) (dOp rIx (dVar 15) (dC (.int 0))) (dOp rIx (dVar 16) (dC (.int 0)))) { nx := fun _ => Q .none, rt := Q }
                [some (eP p), some (.list ((r.ord.zip r.tim).map eDn)), some (.int n), some (.list ([a, b].map eN)), some (.tuple (p.boats.map eB)), some (eN (earlier p.boats [a, b])), some (lastW p r), none, none, none, none, some (.int (rowBehind p.boats r.ord : Nat)), o12, o13, o14, some (.list o15), some (.list o16)] := by
            rintro _ _ x y rfl rfl hq
            simp only [dRet, dIf, dB, dOp, dVar, dC, thawR_cons, thawR_nil, Option.map_some, thaw_eP, thaw_int, thaw_list, List.getElem?_cons_zero, List.getElem?_cons_succ, rIx_eP1, hm, eRu, rIx_tup, atI_1, rLt, onB]
            refine ⟨rfl, rfl, _, rfl, ?_⟩
            simp only [onB]
            by_cases hlt : (rowBehind p.boats r.ord : Int) < m
            · rw [if_pos hlt] at hq
              simp only [hlt, decide_true, if_true, rIx_lst, atI_0]
              exact ⟨rfl, _, rfl, hq⟩
            · rw [if_neg hlt] at hq
              simp only [hlt, decide_false, Bool.false_eq_true, if_false, rIx_lst, atI_0]
              exact ⟨rfl, _, rfl, hq⟩
          simp only [List.map_cons, List.map_nil, lcW, gN, dB, dOp, dVar, dC, List.getElem?_cons_zero, List.getElem?_cons_succ, List.set_cons_zero, List.set_cons_succ, rIx_bt la, rIx_bt lb, rIx_eB0, rEq, rNe, onB, eqv_lastW, sa, sb]
          cases dl : (bt p.boats l).down
          · rw [dl] at h
            have f := fin _ _ a b rfl rfl (by simpa using h)
            simp [dSeq, dAsg, dLc, iL, dVar, onL, wipeR, lcW, gN, dB, dOp, dC, dIf, rIx_bt la, rIx_bt lb, rIx_eB0, rEq, rNe, onB, eqv_lastW, sa, sb, dl, sh_lastW, (mu_lastW p r).1, line] at f ⊢
            exact f
          · rw [dl] at h
            have f := fin _ _ b a rfl rfl (by simpa using h)
            simp [dSeq, dAsg, dLc, iL, dVar, onL, wipeR, lcW, gN, dB, dOp, dC, dIf, rIx_bt la, rIx_bt lb, rIx_eB0, rEq, rNe, onB, eqv_lastW, sa, sb, dl, sh_lastW, (mu_lastW p r).1, line] at f ⊢
            exact f
end DL
namespace DL
open PySem PySem.Spec PyProof.Rows L2 LamX
/-! The law's whole run; its minutes. -/
def sp__law_done : DSp := fun ds P => ∃ (p : Plan) (n : Int), ds = [eP p, .int n] ∧ p.Ok ∧ P (eDone (runWith p n))
theorem zip_snoc (r : Run) (h : r.ord.length = r.tim.length) (b : Nat) (t : FF) : (r.ord ++ [b]).zip (r.tim ++ [t]) = r.ord.zip r.tim ++ [(b, t)] := by
  rw [List.zip_append h]
  rfl
theorem loop_done {p : Plan} (ok : p.Ok) (n : Int) (Q : Dt → Prop) : ∀ (l : List Dt) (k : Nat) (r : Run) (o3 o4 o5 o6 : Option Dt), RunInv p r k → k + l.length = p.boats.length → Q (eDone (runK p n l.length r)) →
    forW (gN 3) (dSeq (dAsg (dFrz (dCall 3 sp__law_next (dCons (dVar 0) (dCons (dVar 2) (dCons (dVar 1) dNil))))) (gN 4))
      (dSeq (dAsg (dFrz (dCall 2 sp__law_top (dCons (dCall 3 sp__law_limits (dCons (dVar 0) (dCons (dVar 2) (dCons (dVar 4) dNil)))) (dCons (dVar 1) dNil)))) (gN 5))
      (dSeq (dAsg (dFrz (dCall 3 sp__law_step (dCons (dVar 0) (dCons (dVar 2) (dCons (dVar 4) dNil))))) (gN 6))
      (dApp 2 (dTup (dCons (dVar 4) (dCons (dVar 5) (dCons (dTup (dCons (dOp rAdd (dOp rIx (dVar 5) (dC (.int 0))) (dVar 6)) (dCons (dOp rIx (dVar 5) (dC (.int 1))) dNil))) dNil))))))))
      l { nx := dRet (dVar 2) { nx := fun _ => Q .none, rt := Q }, rt := Q } [some (eP p), some (.int n), some (mutD ((r.ord.zip r.tim).map eDn)), o3, o4, o5, o6]
  | [], k, r, o3, o4, o5, o6, i, hk, h => by
    simp only [forW, dRet, dVar, thawR_cons, Option.map_some, thaw_mut, List.getElem?_cons_zero, List.getElem?_cons_succ]
    exact ⟨rfl, h⟩
  | d :: l, k, r, o3, o4, o5, o6, i, hk, h => by
    have hk' : k < p.boats.length := by simp at hk; omega
    have pre := i.pre ok (Nat.le_of_lt hk')
    have hl := room_left i.nd (m := p.boats.length) (by rw [i.lo]; exact hk')
    have hm := left_mem.mp (nextBoat_mem n hl)
    have h5 := ok.len1
    have io := i.lo
    have it := i.lt
    simp only [forW, gN, List.set_cons_zero, List.set_cons_succ, dSeq, dAsg, dFrz, dCall, dCons, dNil, dVar, thawR_cons, thawR_nil, Option.map_some, thaw_mut, thaw_eP, thaw_int, List.getElem?_cons_zero, List.getElem?_cons_succ]
    refine ⟨rfl, rfl, rfl, rfl, p, r, n, rfl, pre, by omega, hl, rfl, ?_⟩
    try simp only [gN, dSeq, dAsg, dFrz, dCall, dCons, dNil, dVar, List.set_cons_zero, List.set_cons_succ, thawR_cons, thawR_nil, Option.map_some, thaw_mut, thaw_eP, thaw_eN, thaw_int, List.getElem?_cons_zero, List.getElem?_cons_succ]
    refine ⟨rfl, rfl, rfl, rfl, p, r, (nextBoat p r n).1, rfl, hm.1, pre.run, rfl, rfl, ?_⟩
    refine ⟨bounds p r (nextBoat p r n).1, n, rfl, bounds_ne _ _ _, fun f hf => Nat.le_trans (bounds_cap pre.ok pre.cap hm.1 f hf) (by decide), Nat.le_trans (bounds_len _ _ _) (by decide), rfl, ?_⟩
    try simp only [gN, dSeq, dAsg, dFrz, dCall, dCons, dNil, dVar, List.set_cons_zero, List.set_cons_succ, thawR_cons, thawR_nil, Option.map_some, thaw_mut, thaw_eP, thaw_eN, thaw_eF, thaw_int, List.getElem?_cons_zero, List.getElem?_cons_succ]
    refine ⟨rfl, rfl, rfl, rfl, p, r, (nextBoat p r n).1, rfl, hm.1, pre.run, rfl, ?_⟩
    try simp only [gN, dSeq, dAsg, List.set_cons_zero, List.set_cons_succ, dApp]
    refine ⟨_, rfl, ?_⟩
    simp only [dTup, dCons, dNil, dOp, dVar, dC, List.getElem?_cons_zero, List.getElem?_cons_succ, rIx_eF0, rIx_eF1, rAdd]
    refine ⟨rfl, rfl, rfl, rfl, rfl, by simp [line], by simp [line], by rw [List.length_map, List.length_zip]; unfold line; omega, ?_⟩
    have ih := loop_done ok n Q l (k + 1) (runStep p n r) (some d) (some (eN (nextBoat p r n).1)) (some (eF (topForm (bounds p r (nextBoat p r n).1) n).1)) (some (.int (stepOf p r.ord (nextBoat p r n).1))) (i.next ok n hk') (by simp at hk; omega) h
    unfold runStep at ih
    simp only [zip_snoc r (io.trans it.symm), List.map_append, List.map_cons, List.map_nil, eDn, eF, fadd, Int.add_zero] at ih ⊢
    exact ih
theorem h__law_done : Hs 7 2 sp__law_done (t__law_done sp__law_next sp__law_top sp__law_limits sp__law_step) := by
  rintro ds Q _ ⟨p, n, rfl, ok, h⟩
  have h5 := ok.len1
  have := loop_done ok n Q (rngD 0 p.boats.length) 0 run0 none none none none (inv0 p) (by rw [rngD_len]; omega) (by rw [rngD_len]; exact h)
  simp only [t__law_done, dSeq, dNew, dNil, startD_2, List.replicate, List.set_cons_zero, List.set_cons_succ, dFor, iR1, dCons, dCb, dOp, dVar, dC, List.getElem?_cons_zero, List.getElem?_cons_succ, rIx_eP2, sLen]
  refine ⟨by simp [line], rfl, by rw [List.length_map]; unfold big; omega, ?_⟩
  rw [List.length_map, Int.toNat_natCast]
  exact this
/-! ### minutes -/
def eII (x : Int × Int) : Dt := .tuple [.int x.1, .int x.2]
def minutesOf (p : Plan) (n : Int) : List (Int × Int) := (formsOf (runWith p n)).map fun t => (worth t.1 n, worth t.2 n)
def sp__law_minutes : DSp := fun ds P => ∃ (p : Plan) (n : Int), ds = [eP p, .int n] ∧ p.Ok ∧ P (.tuple ((minutesOf p n).map eII))
def kvOf (n : Int) (q : Nat × FF) : Int × Int × Int := ((q.1 : Int), worth q.2.1 n, worth q.2.2 n)
@[simp] theorem thaw_mud (l : List (Int × Int × Int)) : thaw (mudD l) = dicD l := rfl
@[simp] theorem isMut_dic (l : List (Int × Int × Int)) : isMut (dicD l) = false := rfl
theorem loop_min (n : Int) (x0 : Option Dt) (D : DEnds) : ∀ (l : List (Nat × FF)) (acc : List (Nat × FF)) (o3 o4 o5 : Option Dt), ((acc ++ l).map (·.1)).Nodup → (∀ q ∈ l, sm q.2.1 ∧ sm q.2.2) → acc.length + l.length ≤ 1000 →
    (∀ o3 o4 o5 : Option Dt, D.nx [x0, some (.int n), some (mudD ((acc ++ l).map (kvOf n))), o3, o4, o5]) →
    forW (gTupD 3 (gConsD (gN 3) (gConsD (gN 4) (gConsD (gN 5) gNilD)))) (dDput 2 (dVar 3) (dTup (dCons (dOp rAdd (dOp rMul (dOp rIx (dVar 4) (dC (.int 0))) (dVar 1)) (dOp rIx (dVar 4) (dC (.int 1)))) (dCons (dOp rAdd (dOp rMul (dOp rIx (dVar 5) (dC (.int 0))) (dVar 1)) (dOp rIx (dVar 5) (dC (.int 1)))) dNil))))
      (l.map eDn) D [x0, some (.int n), some (mudD (acc.map (kvOf n))), o3, o4, o5]
  | [], acc, o3, o4, o5, _, _, _, h => by
    rw [List.append_nil] at h
    exact h _ _ _
  | q :: l, acc, o3, o4, o5, nd, hs, hl, h => by
    have hq := hs q (List.mem_cons_self ..)
    have hl' : acc.length + (l.length + 1) ≤ 1000 := hl
    simp only [List.map_cons, forW, gT_eDn, gConsD, gN, gNilD, List.set_cons_zero, List.set_cons_succ, dDput, dTup, dCons, dNil, dOp, dVar, dC, List.getElem?_cons_zero, List.getElem?_cons_succ, rIx_eF0, rIx_eF1, rMul, rAdd]
    refine ⟨trivial, rfl, rfl, sm_mul hq.1 n, rfl, rfl, rfl, sm_mul hq.2 n, rfl, by simp [line], acc.map (kvOf n), rfl, rfl, worth q.2.1 n, worth q.2.2 n, (q.1 : Int), rfl, rfl, by rw [List.length_map]; unfold line; omega, ?_⟩
    have e : kvPut (acc.map (kvOf n)) (q.1 : Int) (worth q.2.1 n, worth q.2.2 n) = (acc ++ [q]).map (kvOf n) := by
      unfold kvPut
      have hn : ((acc.map (kvOf n)).any fun z => decide (z.1 = (q.1 : Int))) = false := by
        rw [List.any_eq_false]
        intro z hz hc
        obtain ⟨a, ha, rfl⟩ := List.mem_map.mp hz
        have he : (a.1 : Int) = (q.1 : Int) := of_decide_eq_true hc
        have he : a.1 = q.1 := by omega
        rw [List.map_append, List.nodup_append] at nd
        exact nd.2.2 a.1 (List.mem_map.mpr ⟨a, ha, rfl⟩) q.1 (List.mem_map.mpr ⟨q, List.mem_cons_self .., rfl⟩) he
      rw [hn, if_neg Bool.false_ne_true, List.map_append]
      rfl
    rw [e]
    have e2 : acc ++ q :: l = (acc ++ [q]) ++ l := by simp
    rw [e2] at nd h
    exact loop_min n x0 D l (acc ++ [q]) _ _ _ nd (fun z hz => hs z (List.mem_cons_of_mem _ hz)) (by simp; omega) h
theorem kvGet_of {n : Int} {l : List (Nat × FF)} (nd : (l.map (·.1)).Nodup) {q : Nat × FF} (hq : q ∈ l) : kvGet (l.map (kvOf n)) (q.1 : Int) = some (worth q.2.1 n, worth q.2.2 n) := by
  induction l with
  | nil => cases hq
  | cons a r ih =>
    rw [List.map_cons, List.nodup_cons] at nd
    by_cases h : a.1 = q.1
    · rcases List.mem_cons.mp hq with e | hq
      · subst e
        unfold kvGet
        simp [kvOf]
      · exact absurd (List.mem_map.mpr ⟨q, hq, h.symm⟩) nd.1
    · rcases List.mem_cons.mp hq with e | hq
      · exact absurd (by rw [e]) h
      · have := ih nd.2 hq
        unfold kvGet at this ⊢
        rw [List.map_cons, List.find?_cons]
        have hn : ¬ (((kvOf n a).1) = (q.1 : Int)) := fun z => h (by
          have z : (a.1 : Int) = (q.1 : Int) := z
          omega)
        rw [decide_eq_false hn]
        exact this
theorem h__law_minutes : Hs 6 2 sp__law_minutes (t__law_minutes sp__law_done) := by
  rintro ds Q _ ⟨p, n, rfl, ok, h⟩
  have inv := runWith_inv ok n
  have all := runWith_all ok n
  have h5 := ok.len1
  simp only [t__law_minutes, dSeq, dDnew, startD_2, List.replicate, List.set_cons_zero, List.set_cons_succ, dFor, iL, dCall, dCons, dNil, dVar, List.getElem?_cons_zero, List.getElem?_cons_succ]
  refine ⟨rfl, rfl, by simp, p, n, rfl, ok, ?_⟩
  unfold eDone
  simp only [onL]
  have hz : ∀ q ∈ (runWith p n).ord.zip (runWith p n).tim, sm q.2.1 ∧ sm q.2.2 := fun q hq => by
    have := inv.cap q.2 (List.of_mem_zip hq).2
    unfold DL.cap at this
    unfold sm
    omega
  have hlen : ((runWith p n).ord.zip (runWith p n).tim).length ≤ 5 := by rw [List.length_zip, all.lo]; omega
  refine loop_min n _ _ ((runWith p n).ord.zip (runWith p n).tim) [] none none none (by rw [List.nil_append]; exact all.nd1) hz (by simp; simp at hlen; omega) fun o3 o4 o5 => ?_
  simp only [List.nil_append, dRet, dCb, dCons, dNil, dLc, iR1, dOp, dVar, dC, thawR_cons, thawR_nil, Option.map_some, thaw_eP, thaw_int, thaw_mud, List.getElem?_cons_zero, List.getElem?_cons_succ, rIx_eP2, sLen, wipeR, List.set_cons_zero, List.set_cons_succ]
  refine ⟨rfl, by rw [List.length_map]; unfold big; omega, ?_⟩
  rw [List.length_map, Int.toNat_natCast]
  unfold rngD
  refine lcW_all (fun (i : Nat) => PyData.int (0 + (i : Int))) (fun b => eII (worth (timeAt (runWith p n) b).1 n, worth (timeAt (runWith p n) b).2 n)) _ _ (fun b hb R hR => ?_) (by simp [line]; omega) ?_
  · have hb' : b < p.boats.length := List.mem_range.mp hb
    have := kvGet_of (n := n) all.nd1 (all.mem hb')
    simp only [gN, List.set_cons_zero, List.set_cons_succ, dDget, dVar, List.getElem?_cons_zero, List.getElem?_cons_succ, Int.zero_add]
    exact ⟨rfl, rfl, _, (b : Int), _, rfl, rfl, this, hR⟩
  · simp only [sTuple]
    unfold minutesOf formsOf at h
    rw [List.map_map, List.map_map, all.lo] at h
    exact h
end DL
namespace DL
open PySem PySem.Spec PyProof.Rows L2 LamX
/-! Runs by the signs of what is asked. -/
theorem topF_sub (n : Int) : ∀ (fs : List Form) (best : Form) (asked : List Form), ∀ g ∈ asked, g ∈ (topF best asked n fs).2
  | [], best, asked, g, h => h
  | f :: r, best, asked, g, h => topF_sub n r _ _ g (List.mem_append_left _ h)
theorem topF_sign (n n' : Int) : ∀ (fs : List Form) (best : Form) (asked : List Form), (∀ g ∈ (topF best asked n fs).2, sgn g n' = sgn g n) → topF best asked n' fs = topF best asked n fs
  | [], best, asked, _ => rfl
  | f :: r, best, asked, h => by
    unfold topF at h ⊢
    have h1 := h (fsub f best) (topF_sub n r _ _ _ (List.mem_append_right _ (List.mem_singleton.mpr rfl)))
    rw [h1]
    exact topF_sign n n' r _ _ h
theorem top_sign {fs : List Form} {n n' : Int} (h : ∀ g ∈ (topForm fs n).2, sgn g n' = sgn g n) : topForm fs n' = topForm fs n := by
  cases fs with
  | nil => rfl
  | cons f r => exact topF_sign n n' r f [] h
theorem soon_sign {p : Plan} {r : Run} {n n' : Int} {a b : Nat} (h : ∀ g ∈ (nextSoon p r n a b).2, sgn g n' = sgn g n) : nextSoon p r n' a b = nextSoon p r n a b := by
  have h' : ∀ g ∈ (topForm (bounds p r a) n).2 ++ (topForm (bounds p r b) n).2 ++ [gapOf p r n a b], sgn g n' = sgn g n := h
  have e1 := top_sign (fs := bounds p r a) fun g hg => h' g (List.mem_append_left _ (List.mem_append_left _ hg))
  have e2 := top_sign (fs := bounds p r b) fun g hg => h' g (List.mem_append_left _ (List.mem_append_right _ hg))
  have e3 : gapOf p r n' a b = gapOf p r n a b := by unfold gapOf; rw [e1, e2]
  have e4 := h' (gapOf p r n a b) (List.mem_append_right _ (List.mem_singleton.mpr rfl))
  unfold nextSoon
  rw [e1, e2, e3, e4]
theorem next_sign {p : Plan} {r : Run} {n n' : Int} (h : ∀ g ∈ (nextBoat p r n).2, sgn g n' = sgn g n) : nextBoat p r n' = nextBoat p r n := by
  unfold nextBoat at h ⊢
  cases ea : headOf p.boats false (leftOf p r.ord) with
  | none => cases headOf p.boats true (leftOf p r.ord) <;> rfl
  | some a =>
    cases eb : headOf p.boats true (leftOf p r.ord) with
    | none => rfl
    | some b =>
      simp only [ea, eb] at h ⊢
      cases er : p.rule with
      | first => rfl
      | batch m => rfl
      | soon =>
        simp only [er] at h ⊢
        exact soon_sign h
theorem step_sign {p : Plan} {r : Run} {n n' : Int} (h : ∀ g ∈ (runStep p n r).ask, sgn g n' = sgn g n) : runStep p n' r = runStep p n r := by
  have h' : ∀ g ∈ r.ask ++ (nextBoat p r n).2 ++ (topForm (bounds p r (nextBoat p r n).1) n).2, sgn g n' = sgn g n := h
  have e1 := next_sign (p := p) (r := r) fun g hg => h' g (List.mem_append_left _ (List.mem_append_right _ hg))
  have e2 := top_sign (fs := bounds p r (nextBoat p r n).1) fun g hg => h' g (List.mem_append_right _ hg)
  unfold runStep
  rw [e1, e2]
theorem runK_sub (p : Plan) (n : Int) : ∀ (k : Nat) (r : Run), ∀ g ∈ r.ask, g ∈ (runK p n k r).ask
  | 0, r, g, h => h
  | k + 1, r, g, h => runK_sub p n k _ g (List.mem_append_left _ (List.mem_append_left _ h))
theorem runK_sign {p : Plan} {n n' : Int} : ∀ (k : Nat) (r : Run), (∀ g ∈ (runK p n k r).ask, sgn g n' = sgn g n) → runK p n' k r = runK p n k r
  | 0, r, _ => rfl
  | k + 1, r, h => by
    show runK p n' k (runStep p n' r) = runK p n k (runStep p n r)
    have h : ∀ g ∈ (runK p n k (runStep p n r)).ask, sgn g n' = sgn g n := h
    rw [step_sign fun g hg => h g (runK_sub p n k _ g hg)]
    exact runK_sign k _ h
theorem run_sign {p : Plan} {n n' : Int} (h : ∀ g ∈ (runWith p n).ask, sgn g n' = sgn g n) : runWith p n' = runWith p n := runK_sign _ _ h
/-! ### same_to, until -/
theorem sgn_eq {f g : Form} {n m : Int} (h1 : worth f n > 0 ↔ worth g m > 0) (h2 : worth f n < 0 ↔ worth g m < 0) : sgn f n = sgn g m := by
  unfold sgn
  by_cases a : worth f n > 0
  · rw [if_pos a, if_pos (h1.mp a)]
  · rw [if_neg a, if_neg (fun z => a (h1.mpr z))]
    by_cases b : worth f n < 0
    · rw [if_pos b, if_pos (h2.mp b)]
    · rw [if_neg b, if_neg (fun z => b (h2.mpr z))]
theorem worth_diff (f : Form) (n m : Int) : worth f m = worth f n + f.1 * (m - n) := by
  unfold worth
  rw [Int.mul_sub]
  omega
theorem iabs_nat (i : Int) : iabs i = (i.natAbs : Int) := by unfold iabs; split <;> omega
/-- until the sign changes -/
theorem same_spec {f : Form} {n : Int} (hn : 0 ≤ n) : (sameTo f n = none → ∀ m, n ≤ m → sgn f m = sgn f n) ∧ ∀ e, sameTo f n = some e → n ≤ e ∧ e ≤ (f.2.natAbs : Int) ∧ ∀ m, n ≤ m → m ≤ e → sgn f m = sgn f n := by
  have s3 : (worth f n > 0 → sgn f n = 1) ∧ (worth f n < 0 → sgn f n = -1) ∧ (worth f n = 0 → sgn f n = 0) := by
    unfold sgn
    refine ⟨fun h => by rw [if_pos h], fun h => ?_, fun h => ?_⟩
    · rw [if_neg (by omega), if_pos h]
    · rw [if_neg (by omega), if_neg (by omega)]
  have hw : worth f n = f.1 * n + f.2 := rfl
  rcases Int.lt_trichotomy f.1 0 with hf | hf | hf
  · -- falls
    have up : ∀ m, n ≤ m → f.1 * (m - n) ≤ 0 := fun m hm => Int.mul_nonpos_of_nonpos_of_nonneg (Int.le_of_lt hf) (by omega)
    rcases Int.lt_trichotomy (worth f n) 0 with w | w | w
    · have hs := s3.2.1 w
      have e : sameTo f n = none := by
        unfold sameTo
        rw [if_pos (.inr ⟨by rw [hs]; decide, by rw [hs]; omega⟩)]
      refine ⟨fun _ m hm => sgn_eq ?_ ?_, fun e' he => by rw [e] at he; cases he⟩
      · rw [worth_diff f n m]
        have := up m hm
        constructor <;> intro z <;> omega
      · rw [worth_diff f n m]
        have := up m hm
        constructor <;> intro z <;> omega
    · have hs := s3.2.2 w
      have e : sameTo f n = some n := by
        unfold sameTo
        rw [if_neg (by rw [hs]; omega), if_pos hs]
      refine ⟨fun z => (by rw [e] at z; cases z), fun e' he => ?_⟩
      rw [e] at he
      cases he
      refine ⟨Int.le_refl _, ?_, fun m h1 h2 => by rw [show m = n by omega]⟩
      have h2 : n ≤ -(f.1) * n := by
        have := Int.mul_le_mul_of_nonneg_right (show (1 : Int) ≤ -f.1 by omega) hn
        rw [Int.one_mul] at this
        exact this
      rw [Int.neg_mul] at h2
      omega
    · have hs := s3.1 w
      have e : sameTo f n = some ((iabs f.2 - 1).fdiv (iabs f.1)) := by
        unfold sameTo
        rw [if_neg (by rw [hs]; omega), if_neg (by rw [hs]; decide)]
      have ha : iabs f.1 = -f.1 := by unfold iabs; rw [if_pos hf]
      have hp : 0 < -f.1 := by omega
      have hb : iabs f.2 = f.2 := by
        have h2 : -(f.1) * n ≥ 0 := Int.mul_nonneg (by omega) hn
        rw [Int.neg_mul] at h2
        unfold iabs
        rw [if_neg (by omega)]
      refine ⟨fun z => (by rw [e] at z; cases z), fun e' he => ?_⟩
      rw [e, ha, hb] at he
      have he : (f.2 - 1).fdiv (-f.1) = e' := Option.some.inj he
      have q1 : n * (-f.1) ≤ f.2 - 1 := by
        rw [Int.mul_neg, Int.mul_comm]
        omega
      have q2 : n ≤ e' := by
        rw [← he, Int.fdiv_eq_ediv_of_nonneg _ (Int.le_of_lt hp)]
        exact (Int.le_ediv_iff_mul_le hp).mpr q1
      have q3 : e' * (-f.1) ≤ f.2 - 1 := by
        rw [← he, Int.fdiv_eq_ediv_of_nonneg _ (Int.le_of_lt hp)]
        exact Int.ediv_mul_le _ (by omega)
      refine ⟨q2, ?_, fun m h1 h2 => sgn_eq ?_ ?_⟩
      · have : e' ≤ e' * (-f.1) := by
          have := Int.mul_le_mul_of_nonneg_left (show (1 : Int) ≤ -f.1 by omega) (show 0 ≤ e' by omega)
          rw [Int.mul_one] at this
          exact this
        omega
      · have : m * (-f.1) ≤ e' * (-f.1) := Int.mul_le_mul_of_nonneg_right h2 (Int.le_of_lt hp)
        have hm : worth f m = f.1 * m + f.2 := rfl
        rw [Int.mul_neg, Int.mul_comm] at this
        constructor <;> intro z <;> omega
      · have : m * (-f.1) ≤ e' * (-f.1) := Int.mul_le_mul_of_nonneg_right h2 (Int.le_of_lt hp)
        have hm : worth f m = f.1 * m + f.2 := rfl
        rw [Int.mul_neg, Int.mul_comm] at this
        constructor <;> intro z <;> omega
  · -- even
    have e : sameTo f n = none := by
      unfold sameTo
      rw [if_pos (.inl hf)]
    refine ⟨fun _ m _ => sgn_eq ?_ ?_, fun e' he => by rw [e] at he; cases he⟩
    · rw [worth_diff f n m, hf, Int.zero_mul, Int.add_zero]
    · rw [worth_diff f n m, hf, Int.zero_mul, Int.add_zero]
  · -- rises
    have up : ∀ m, n ≤ m → 0 ≤ f.1 * (m - n) := fun m hm => Int.mul_nonneg (Int.le_of_lt hf) (by omega)
    rcases Int.lt_trichotomy (worth f n) 0 with w | w | w
    · have hs := s3.2.1 w
      have e : sameTo f n = some ((iabs f.2 - 1).fdiv (iabs f.1)) := by
        unfold sameTo
        rw [if_neg (by rw [hs]; omega), if_neg (by rw [hs]; decide)]
      have ha : iabs f.1 = f.1 := by unfold iabs; rw [if_neg (by omega)]
      have h0 : 0 ≤ f.1 * n := Int.mul_nonneg (Int.le_of_lt hf) hn
      have hb : iabs f.2 = -f.2 := by
        unfold iabs
        rw [if_pos (by omega)]
      refine ⟨fun z => (by rw [e] at z; cases z), fun e' he => ?_⟩
      rw [e, ha, hb] at he
      have he : (-f.2 - 1).fdiv f.1 = e' := Option.some.inj he
      have q1 : n * f.1 ≤ -f.2 - 1 := by
        rw [Int.mul_comm]
        omega
      have q2 : n ≤ e' := by
        rw [← he, Int.fdiv_eq_ediv_of_nonneg _ (Int.le_of_lt hf)]
        exact (Int.le_ediv_iff_mul_le hf).mpr q1
      have q3 : e' * f.1 ≤ -f.2 - 1 := by
        rw [← he, Int.fdiv_eq_ediv_of_nonneg _ (Int.le_of_lt hf)]
        exact Int.ediv_mul_le _ (by omega)
      refine ⟨q2, ?_, fun m h1 h2 => sgn_eq ?_ ?_⟩
      · have : e' ≤ e' * f.1 := by
          have := Int.mul_le_mul_of_nonneg_left (show (1 : Int) ≤ f.1 by omega) (show 0 ≤ e' by omega)
          rw [Int.mul_one] at this
          exact this
        omega
      · have : m * f.1 ≤ e' * f.1 := Int.mul_le_mul_of_nonneg_right h2 (Int.le_of_lt hf)
        have hm : worth f m = f.1 * m + f.2 := rfl
        rw [Int.mul_comm] at this
        constructor <;> intro z <;> omega
      · have : m * f.1 ≤ e' * f.1 := Int.mul_le_mul_of_nonneg_right h2 (Int.le_of_lt hf)
        have hm : worth f m = f.1 * m + f.2 := rfl
        rw [Int.mul_comm] at this
        constructor <;> intro z <;> omega
    · have hs := s3.2.2 w
      have e : sameTo f n = some n := by
        unfold sameTo
        rw [if_neg (by rw [hs]; omega), if_pos hs]
      refine ⟨fun z => (by rw [e] at z; cases z), fun e' he => ?_⟩
      rw [e] at he
      cases he
      refine ⟨Int.le_refl _, ?_, fun m h1 h2 => by rw [show m = n by omega]⟩
      have h2 : n ≤ f.1 * n := by
        have := Int.mul_le_mul_of_nonneg_right (show (1 : Int) ≤ f.1 by omega) hn
        rw [Int.one_mul] at this
        exact this
      omega
    · have hs := s3.1 w
      have e : sameTo f n = none := by
        unfold sameTo
        rw [if_pos (.inr ⟨by rw [hs]; decide, by rw [hs]; omega⟩)]
      refine ⟨fun _ m hm => sgn_eq ?_ ?_, fun e' he => by rw [e] at he; cases he⟩
      · rw [worth_diff f n m]
        have := up m hm
        constructor <;> intro z <;> omega
      · rw [worth_diff f n m]
        have := up m hm
        constructor <;> intro z <;> omega
theorem until_spec {asked : List Form} {n : Int} (hn : 0 ≤ n) : (untilOf asked n = none → ∀ f ∈ asked, ∀ m, n ≤ m → sgn f m = sgn f n) ∧
    ∀ e, untilOf asked n = some e → n ≤ e ∧ (∃ f ∈ asked, e ≤ (f.2.natAbs : Int)) ∧ ∀ f ∈ asked, ∀ m, n ≤ m → m ≤ e → sgn f m = sgn f n := by
  unfold untilOf
  cases hl : asked.filterMap (fun f => sameTo f n) with
  | nil =>
    refine ⟨fun _ f hf => ?_, fun e he => by cases he⟩
    cases e : sameTo f n with
    | none => exact (same_spec hn).1 e
    | some x =>
      have : x ∈ asked.filterMap (fun f => sameTo f n) := List.mem_filterMap.mpr ⟨f, hf, e⟩
      rw [hl] at this
      cases this
  | cons x r =>
    refine ⟨fun h => (by cases h), fun e he => ?_⟩
    have he : r.foldl min x = e := Option.some.inj he
    obtain ⟨h1, h2⟩ := foldl_min r x
    rw [he] at h1 h2
    rw [← hl] at h1 h2
    obtain ⟨f, hf, ef⟩ := List.mem_filterMap.mp h1
    have sf := (same_spec hn).2 e ef
    refine ⟨sf.1, ⟨f, hf, sf.2.1⟩, fun g hg m m1 m2 => ?_⟩
    cases eg : sameTo g n with
    | none => exact (same_spec hn).1 eg m m1
    | some y =>
      have hy := h2 y (List.mem_filterMap.mpr ⟨g, hg, eg⟩)
      exact ((same_spec hn).2 y eg).2.2 m m1 (by omega)
end DL
namespace DL
open PySem PySem.Spec PyProof.Rows L2 LamX
/-! Bases; rows that cover. -/
structure RunBase (r : Run) (k : Nat) : Prop where
  tim : ∀ t ∈ r.tim, 0 ≤ t.1.2 ∧ t.1.2 + 8 ≤ 60 + 8 * (k : Int) ∧ t.2.2 = t.1.2 ∧ 1 ≤ t.2.1 - t.1.1 ∧ t.2.1 - t.1.1 ≤ 8
  ask : ∀ g ∈ r.ask, g.2.natAbs ≤ 92 ∧ sm g
theorem bounds_base {p : Plan} (ok : p.Ok) {r : Run} {k b : Nat} (hr : RunBase r k) (h : b < p.boats.length) : ∀ f ∈ bounds p r b, 0 ≤ f.2 ∧ f.2 ≤ 60 + 8 * (k : Int) := by
  have hs := step_le ok (ord := r.ord) h
  have hb := ok.st0 _ (bt_mem h)
  intro f hf
  unfold bounds at hf
  split at hf
  · rename_i l t e1 e2
    have ht := hr.tim t (List.mem_of_getLast? e2)
    split at hf
    · rcases List.mem_cons.mp hf with e | hf
      · subst e
        show 0 ≤ (bt p.boats b).st ∧ (bt p.boats b).st ≤ _
        omega
      · rcases List.mem_cons.mp hf with e | hf
        · subst e
          show 0 ≤ t.1.2 + (t.2.1 - t.1.1) ∧ t.1.2 + (t.2.1 - t.1.1) ≤ _
          omega
        · rw [List.mem_singleton] at hf
          subst hf
          show 0 ≤ t.2.2 + stepOf p r.ord b ∧ t.2.2 + stepOf p r.ord b ≤ _
          omega
    · rcases List.mem_cons.mp hf with e | hf
      · subst e
        show 0 ≤ (bt p.boats b).st ∧ (bt p.boats b).st ≤ _
        omega
      · rw [List.mem_singleton] at hf
        subst hf
        omega
  · rw [List.mem_singleton] at hf
    subst hf
    show 0 ≤ (bt p.boats b).st ∧ (bt p.boats b).st ≤ _
    omega
theorem topF_ask (n : Int) (P : Form → Prop) (S : Form → Prop) (hP : ∀ f g, S f → S g → P (fsub f g)) : ∀ (fs : List Form) (best : Form) (asked : List Form), S best → (∀ f ∈ fs, S f) → (∀ g ∈ asked, P g) → ∀ g ∈ (topF best asked n fs).2, P g
  | [], best, asked, _, _, ha => ha
  | f :: r, best, asked, hb, hf, ha => by
    have h1 := hf f (List.mem_cons_self ..)
    unfold topF
    refine topF_ask n P S hP r _ _ (by split <;> assumption) (fun g hg => hf g (List.mem_cons_of_mem _ hg)) fun g hg => ?_
    rcases List.mem_append.mp hg with hg | hg
    · exact ha g hg
    · rw [List.mem_singleton.mp hg]
      exact hP _ _ h1 hb
theorem top_ask {n : Int} {P S : Form → Prop} (hP : ∀ f g, S f → S g → P (fsub f g)) {fs : List Form} (h : ∀ f ∈ fs, S f) : ∀ g ∈ (topForm fs n).2, P g := by
  cases fs with
  | nil => exact fun g hg => absurd hg List.not_mem_nil
  | cons f r => exact topF_ask n P S hP r f [] (h f (List.mem_cons_self ..)) (fun g hg => h g (List.mem_cons_of_mem _ hg)) fun g hg => absurd hg List.not_mem_nil
/-- a bound of a run of at most four boats -/
def Sb (f : Form) : Prop := 0 ≤ f.2 ∧ f.2 ≤ 92 ∧ cap 1008 f
def Pb (g : Form) : Prop := g.2.natAbs ≤ 92 ∧ sm g
theorem Sb_sub (f g : Form) (a : Sb f) (b : Sb g) : Pb (fsub f g) := by
  unfold Sb DL.cap at a b
  refine ⟨?_, ?_⟩
  · show (f.2 - g.2).natAbs ≤ 92
    omega
  · unfold sm
    show (f.1 - g.1).natAbs < _
    omega
theorem bounds_Sb {p : Plan} (ok : p.Ok) {r : Run} {k b : Nat} (i : RunInv p r k) (hr : RunBase r k) (hk : k < p.boats.length) (h : b < p.boats.length) : ∀ f ∈ bounds p r b, Sb f := by
  have h5 := ok.len1
  intro f hf
  have h1 := bounds_base ok hr h f hf
  have h2 := bounds_cap ok (i.pre ok (Nat.le_of_lt hk)).cap h f hf
  exact ⟨h1.1, by omega, h2⟩
theorem next_ask {p : Plan} (ok : p.Ok) {r : Run} {k : Nat} (i : RunInv p r k) (hr : RunBase r k) (hk : k < p.boats.length) (n : Int) : ∀ g ∈ (nextBoat p r n).2, Pb g := by
  have lo : ∀ x ∈ leftOf p r.ord, x < p.boats.length := fun x hx => (left_mem.mp hx).1
  unfold nextBoat
  cases ea : headOf p.boats false (leftOf p r.ord) with
  | none => cases headOf p.boats true (leftOf p r.ord) <;> exact fun g hg => absurd hg List.not_mem_nil
  | some a =>
    cases eb : headOf p.boats true (leftOf p r.ord) with
    | none => exact fun g hg => absurd hg List.not_mem_nil
    | some b =>
      have sa := bounds_Sb ok i hr hk (lo a (headOf_mem ea).1)
      have sb := bounds_Sb ok i hr hk (lo b (headOf_mem eb).1)
      cases er : p.rule with
      | first => exact fun g hg => absurd hg List.not_mem_nil
      | batch m =>
        cases el : r.ord.getLast? with
        | none => exact fun g hg => absurd hg List.not_mem_nil
        | some l => exact fun g hg => absurd hg List.not_mem_nil
      | soon =>
        intro g hg
        have hg : g ∈ (topForm (bounds p r a) n).2 ++ (topForm (bounds p r b) n).2 ++ [gapOf p r n a b] := hg
        rcases List.mem_append.mp hg with hg | hg
        · rcases List.mem_append.mp hg with hg | hg
          · exact top_ask Sb_sub sa g hg
          · exact top_ask Sb_sub sb g hg
        · rw [List.mem_singleton.mp hg]
          exact Sb_sub _ _ (sa _ (top_mem (bounds_ne p r a) n)) (sb _ (top_mem (bounds_ne p r b) n))
theorem base_next {p : Plan} (ok : p.Ok) {r : Run} {k : Nat} (i : RunInv p r k) (hr : RunBase r k) (hk : k < p.boats.length) (n : Int) : RunBase (runStep p n r) (k + 1) := by
  have hl := room_left i.nd (m := p.boats.length) (by rw [i.lo]; exact hk)
  have hm := left_mem.mp (nextBoat_mem n hl)
  have hs := step_le ok (ord := r.ord) hm.1
  have sb := bounds_Sb ok i hr hk hm.1
  have hb := bounds_base ok hr hm.1 _ (top_mem (bounds_ne p r (nextBoat p r n).1) n)
  refine ⟨fun t ht => ?_, fun g hg => ?_⟩
  · have ht : t ∈ r.tim ++ [((topForm (bounds p r (nextBoat p r n).1) n).1, fadd (topForm (bounds p r (nextBoat p r n).1) n).1 (stepOf p r.ord (nextBoat p r n).1, 0))] := ht
    rcases List.mem_append.mp ht with ht | ht
    · have := hr.tim t ht
      omega
    · rw [List.mem_singleton] at ht
      subst ht
      refine ⟨hb.1, ?_, ?_, ?_, ?_⟩
      · show (topForm (bounds p r (nextBoat p r n).1) n).1.2 + 8 ≤ _
        omega
      · show (topForm (bounds p r (nextBoat p r n).1) n).1.2 + 0 = (topForm (bounds p r (nextBoat p r n).1) n).1.2
        omega
      · show 1 ≤ (topForm (bounds p r (nextBoat p r n).1) n).1.1 + stepOf p r.ord (nextBoat p r n).1 - (topForm (bounds p r (nextBoat p r n).1) n).1.1
        omega
      · show (topForm (bounds p r (nextBoat p r n).1) n).1.1 + stepOf p r.ord (nextBoat p r n).1 - (topForm (bounds p r (nextBoat p r n).1) n).1.1 ≤ 8
        omega
  · have hg : g ∈ r.ask ++ (nextBoat p r n).2 ++ (topForm (bounds p r (nextBoat p r n).1) n).2 := hg
    rcases List.mem_append.mp hg with hg | hg
    · rcases List.mem_append.mp hg with hg | hg
      · exact hr.ask g hg
      · exact next_ask ok i hr hk n g hg
    · exact top_ask Sb_sub sb g hg
theorem base_run {p : Plan} (ok : p.Ok) (n : Int) : ∀ (j k : Nat) (r : Run), RunInv p r k → RunBase r k → k + j = p.boats.length → RunBase (runK p n j r) p.boats.length
  | 0, k, r, i, b, h => by
    have : k = p.boats.length := by omega
    subst this
    exact b
  | j + 1, k, r, i, b, h => base_run ok n j (k + 1) (runStep p n r) (i.next ok n (by omega)) (base_next ok i b (by omega) n) (by omega)
theorem runWith_base {p : Plan} (ok : p.Ok) (n : Int) : RunBase (runWith p n) p.boats.length := base_run ok n p.boats.length 0 run0 (inv0 p) ⟨fun _ h => absurd h List.not_mem_nil, fun _ h => absurd h List.not_mem_nil⟩ (by omega)
/-! ### rows that cover -/
inductive Cov {α : Type} (f : Int → α) : Int → List (Row α) → Prop
  | last {l : Int} {a : α} : (∀ n, l ≤ n → f n = a) → Cov f l [(l, none, a)]
  | more {l g : Int} {a : α} {rest : List (Row α)} : l ≤ g → (∀ n, l ≤ n → n ≤ g → f n = a) → Cov f (g + 1) rest → Cov f l ((l, some g, a) :: rest)
inductive Pre {α : Type} (f : Int → α) (lo : Int) : List (Row α) → Int → Prop
  | nil : Pre f lo [] lo
  | snoc {found : List (Row α)} {l g : Int} {a : α} : Pre f lo found l → l ≤ g → (∀ n, l ≤ n → n ≤ g → f n = a) → Pre f lo (found ++ [(l, some g, a)]) (g + 1)
theorem Pre.cov {α : Type} {f : Int → α} {lo hi : Int} {found : List (Row α)} (p : Pre f lo found hi) : ∀ {rest : List (Row α)}, Cov f hi rest → Cov f lo (found ++ rest) := by
  induction p with
  | nil => intro rest c; exact c
  | snoc p h1 h2 ih =>
    intro rest c
    rw [List.append_assoc]
    exact ih (.more h1 h2 c)
theorem Pre.app {α : Type} {f : Int → α} {lo mid hi : Int} {xs ys : List (Row α)} (p : Pre f lo xs mid) (q : Pre f mid ys hi) : Pre f lo (xs ++ ys) hi := by
  induction q with
  | nil => rw [List.append_nil]; exact p
  | snoc q h1 h2 ih =>
    rw [← List.append_assoc]
    exact .snoc ih h1 h2
theorem Pre.le {α : Type} {f : Int → α} {lo hi : Int} {xs : List (Row α)} (p : Pre f lo xs hi) : lo ≤ hi := by
  induction p with
  | nil => exact Int.le_refl _
  | snoc p h1 h2 ih => omega
/-- the last row of a stretch -/
theorem Pre.last {α : Type} {f : Int → α} {lo hi : Int} {xs : List (Row α)} (p : Pre f lo xs hi) {x : Row α} (h : xs.getLast? = some x) : ∃ g, x.2.1 = some g ∧ hi = g + 1 ∧ x.1 ≤ g ∧ (∀ n, x.1 ≤ n → n ≤ g → f n = x.2.2) ∧ Pre f lo xs.dropLast x.1 := by
  cases p with
  | nil => cases h
  | @snoc found l g a p h1 h2 =>
    rw [List.getLast?_append] at h
    have h : (l, some g, a) = x := by simpa using h
    subst h
    refine ⟨g, rfl, rfl, h1, h2, ?_⟩
    rw [List.dropLast_concat]
    exact p
theorem join_cov {α : Type} [DecidableEq α] {f : Int → α} {lo : Int} : ∀ (rows found : List (Row α)) (hi : Int), Pre f lo found hi → Cov f hi rows → Cov f lo (rows.foldl joinStep found) := by
  intro rows
  induction rows with
  | nil => intro found hi _ c; cases c
  | cons r rows ih =>
    intro found hi p c
    rw [List.foldl_cons]
    cases c with
    | @last _ a h =>
      show Cov f lo (joinStep found (hi, none, a))
      unfold joinStep
      cases e : found.getLast? with
      | none => exact p.cov (.last h)
      | some x =>
        obtain ⟨g, e1, e2, e3, e4, e5⟩ := p.last e
        show Cov f lo (if x.2.2 = a then found.dropLast ++ [(x.1, none, a)] else found ++ [(hi, none, a)])
        by_cases hx : x.2.2 = a
        · rw [if_pos hx]
          refine e5.cov (.last fun n hn => ?_)
          by_cases hg : n ≤ g
          · rw [e4 n hn hg, hx]
          · exact h n (by omega)
        · rw [if_neg hx]
          exact p.cov (.last h)
    | @more _ g a rest h1 h2 c =>
      refine ih _ (g + 1) ?_ c
      unfold joinStep
      cases e : found.getLast? with
      | none => exact p.snoc h1 h2
      | some x =>
        obtain ⟨g', e1, e2, e3, e4, e5⟩ := p.last e
        show Pre f lo (if x.2.2 = a then found.dropLast ++ [(x.1, some g, a)] else found ++ [(hi, some g, a)]) (g + 1)
        by_cases hx : x.2.2 = a
        · rw [if_pos hx]
          refine e5.snoc (by omega) fun n hn hng => ?_
          by_cases hg : n ≤ g'
          · rw [e4 n hn hg, hx]
          · exact h2 n (by omega) hng
        · rw [if_neg hx]
          exact p.snoc h1 h2
theorem joined_cov {α : Type} [DecidableEq α] {f : Int → α} {lo : Int} {rows : List (Row α)} (c : Cov f lo rows) : Cov f lo (joined rows) := join_cov rows [] lo .nil c
theorem map_cov {α β : Type} {f : Int → α} {lo : Int} {rows : List (Row α)} (g : α → β) (c : Cov f lo rows) : Cov (fun n => g (f n)) lo (rows.map (mapRow g)) := by
  induction c with
  | last h => exact .last fun n hn => by rw [h n hn]
  | more h1 h2 c ih => exact .more h1 (fun n a b => by rw [h2 n a b]) ih
end DL
namespace DL
open PySem PySem.Spec PyProof.Rows L2 LamX
/-! All runs, both, cut: they cover and end. -/
def itemOf (p : Plan) (n : Int) : Item := ((runWith p n).ord, formsOf (runWith p n))
def EndB {α : Type} (rows : List (Row α)) : Prop := ∀ r ∈ rows, ∀ g, r.2.1 = some g → g ≤ 92
theorem item_const {p : Plan} {n m : Int} (h : ∀ g ∈ (runWith p n).ask, sgn g m = sgn g n) : itemOf p m = itemOf p n := by
  unfold itemOf
  rw [run_sign h]
theorem ask_until {p : Plan} (ok : p.Ok) {n : Int} (hn : 0 ≤ n) : (untilOf (runWith p n).ask n = none → ∀ m, n ≤ m → itemOf p m = itemOf p n) ∧ ∀ e, untilOf (runWith p n).ask n = some e → n ≤ e ∧ e ≤ 92 ∧ ∀ m, n ≤ m → m ≤ e → itemOf p m = itemOf p n := by
  have hb := runWith_base ok n
  obtain ⟨u1, u2⟩ := until_spec (asked := (runWith p n).ask) hn
  refine ⟨fun h m hm => item_const fun g hg => u1 h g hg m hm, fun e he => ?_⟩
  obtain ⟨h1, ⟨f, hf, h2⟩, h3⟩ := u2 e he
  have := (hb.ask f hf).1
  exact ⟨h1, by omega, fun m a b => item_const fun g hg => h3 g hg m a b⟩
theorem all_ends {p : Plan} (ok : p.Ok) : ∀ (k : Nat) (n : Int), 0 ≤ n → (94 - n).toNat < k → allEnds p k n
  | 0, n, _, h => absurd h (Nat.not_lt_zero _)
  | k + 1, n, h0, h => by
    unfold allEnds
    cases e : untilOf (runWith p n).ask n with
    | none => trivial
    | some e' =>
      have := (ask_until ok h0).2 e' e
      exact all_ends ok k (e' + 1) (by omega) (by omega)
theorem AllPre.of {p : Plan} (ok : p.Ok) : AllPre p := ⟨ok, fun n f hf => ((runWith_base ok n).ask f hf).2, all_ends ok 1000 2 (by decide) (by decide)⟩
theorem allLoop_cov {p : Plan} (ok : p.Ok) : ∀ (k : Nat) (found : List (Row Item)) (lo n : Int), 0 ≤ n → allEnds p k n → Pre (itemOf p) lo found n → EndB found → Cov (itemOf p) lo (allLoop p k found n) ∧ EndB (allLoop p k found n)
  | 0, _, _, _, _, h, _, _ => h.elim
  | k + 1, found, lo, n, h0, h, hp, hb => by
    unfold allEnds at h
    unfold allLoop
    obtain ⟨u1, u2⟩ := ask_until ok h0
    have eb : ∀ e, (∀ g, e = some g → g ≤ 92) → EndB (found ++ [((n, e, itemOf p n) : Row Item)]) := fun e he r hr g hg => by
      rcases List.mem_append.mp hr with hr | hr
      · exact hb r hr g hg
      · rw [List.mem_singleton] at hr
        subst hr
        exact he g hg
    cases e : untilOf (runWith p n).ask n with
    | none =>
      exact ⟨hp.cov (.last fun m hm => u1 e m hm), eb none fun g hg => by cases hg⟩
    | some e' =>
      rw [e] at h
      obtain ⟨h1, h2, h3⟩ := u2 e' e
      exact allLoop_cov ok k _ lo (e' + 1) (by omega) h (hp.snoc h1 h3) (eb (some e') fun g hg => by cases hg; exact h2)
theorem joinStep_end {α : Type} [DecidableEq α] {found : List (Row α)} {r : Row α} (hf : EndB found) (hr : ∀ g, r.2.1 = some g → g ≤ 92) : EndB (joinStep found r) := by
  unfold joinStep
  intro x hx g hg
  split at hx
  · split at hx
    · rcases List.mem_append.mp hx with hx | hx
      · exact hf x (List.dropLast_subset _ hx) g hg
      · rw [List.mem_singleton] at hx; subst hx; exact hr g hg
    · rcases List.mem_append.mp hx with hx | hx
      · exact hf x hx g hg
      · rw [List.mem_singleton] at hx; subst hx; exact hr g hg
  · rcases List.mem_append.mp hx with hx | hx
    · exact hf x hx g hg
    · rw [List.mem_singleton] at hx; subst hx; exact hr g hg
theorem join_end {α : Type} [DecidableEq α] : ∀ (rows found : List (Row α)), EndB found → EndB rows → EndB (rows.foldl joinStep found)
  | [], found, hf, _ => hf
  | r :: rows, found, hf, hr => by
    rw [List.foldl_cons]
    exact join_end rows _ (joinStep_end hf (hr r (List.mem_cons_self ..))) fun x hx => hr x (List.mem_cons_of_mem _ hx)
theorem map_end {α β : Type} (f : α → β) {rows : List (Row α)} (h : EndB rows) : EndB (rows.map (mapRow f)) := fun r hr g hg => by
  obtain ⟨x, hx, e⟩ := List.mem_map.mp hr
  subst e
  exact h x hx g hg
theorem cov_len {α : Type} {f : Int → α} {lo : Int} {rows : List (Row α)} (c : Cov f lo rows) (h : EndB rows) : lo ≤ 93 → (rows.length : Int) + lo ≤ 94 := by
  induction c with
  | last _ => intro hl; simp; omega
  | @more l g a rest h1 h2 c ih =>
    intro hl
    have hg := h _ (List.mem_cons_self ..) g rfl
    have := ih (fun r hr => h r (List.mem_cons_of_mem _ hr)) (by omega)
    rw [List.length_cons]
    omega
theorem allRuns_cov {p : Plan} (ok : p.Ok) : Cov (itemOf p) 2 (allRuns p) ∧ EndB (allRuns p) := by
  obtain ⟨h1, h2⟩ := allLoop_cov ok 1000 [] 2 2 (by decide) (AllPre.of ok).ends .nil fun _ h => absurd h List.not_mem_nil
  exact ⟨joined_cov h1, join_end _ _ (fun _ h => absurd h List.not_mem_nil) h2⟩
theorem byRuns_cov {β : Type} [DecidableEq β] {p : Plan} (ok : p.Ok) (f : Item → β) : Cov (fun n => f (itemOf p n)) 2 (joined ((allRuns p).map (mapRow f))) ∧ EndB (joined ((allRuns p).map (mapRow f))) := by
  obtain ⟨h1, h2⟩ := allRuns_cov ok
  exact ⟨joined_cov (map_cov f h1), join_end _ _ (fun _ h => absurd h List.not_mem_nil) (map_end f h2)⟩
/-! ### both -/
def maxI (a b : Int) : Int := if a > b then a else b
theorem maxI_or (a b : Int) : (maxI a b = a ∧ b ≤ a) ∨ (maxI a b = b ∧ a ≤ b) := by
  unfold maxI
  split <;> omega
theorem bothIn_some {α β : Type} {f : Int → α} {g : Int → β} {l e : Int} {a : α} (hf : ∀ n, l ≤ n → n ≤ e → f n = a) : ∀ {lo : Int} {ys : List (Row β)}, Cov g lo ys →
    (maxI l lo ≤ e → Pre (fun n => (f n, g n)) (maxI l lo) (bothIn (l, some e, a) ys) (e + 1)) ∧ (e < maxI l lo → bothIn (l, some e, a) ys = []) := by
  intro lo ys c
  induction c with
  | @last lo b h =>
    have hlow : lowOf ((l, some e, a) : Row α) ((lo, none, b) : Row β) = maxI l lo := rfl
    have hb : bothIn ((l, some e, a) : Row α) [((lo, none, b) : Row β)] = if maxI l lo ≤ e then [(maxI l lo, some e, (a, b))] else [] := by
      unfold bothIn bothRow
      rw [List.filterMap_cons, List.filterMap_nil, hlow]
      unfold meets lesserEnd
      by_cases hm : maxI l lo ≤ e <;> simp [hm]
    rw [hb]
    refine ⟨fun hm => ?_, fun hm => by rw [if_neg (by omega)]⟩
    rw [if_pos hm]
    have hl : l ≤ maxI l lo ∧ lo ≤ maxI l lo := by have := maxI_or l lo; omega
    exact Pre.snoc (found := []) .nil hm fun n h1 h2 => by rw [hf n (by omega) h2, h n (by omega)]
  | @more lo g' b rest h1 h2 c ih =>
    have hlow : lowOf ((l, some e, a) : Row α) ((lo, some g', b) : Row β) = maxI l lo := rfl
    have hle : lesserEnd (some e) (some g') = some (if e < g' then e else g') := by
      unfold lesserEnd
      by_cases q : e < g' <;> simp [q]
    have hb : bothIn ((l, some e, a) : Row α) (((lo, some g', b) : Row β) :: rest) = (if maxI l lo ≤ (if e < g' then e else g') then [(maxI l lo, some (if e < g' then e else g'), (a, b))] else []) ++ bothIn (l, some e, a) rest := by
      unfold bothIn
      rw [List.filterMap_cons]
      have : bothRow ((l, some e, a) : Row α) ((lo, some g', b) : Row β) = if maxI l lo ≤ (if e < g' then e else g') then some (maxI l lo, some (if e < g' then e else g'), (a, b)) else none := by
        unfold bothRow
        rw [hlow]
        show (if meets (maxI l lo) (lesserEnd (some e) (some g')) = true then some (maxI l lo, lesserEnd (some e) (some g'), (a, b)) else none) = _
        rw [hle]
        unfold meets
        by_cases hm : maxI l lo ≤ (if e < g' then e else g') <;> simp [hm]
      rw [this]
      by_cases hm : maxI l lo ≤ (if e < g' then e else g')
      · rw [if_pos hm, if_pos hm]; rfl
      · rw [if_neg hm, if_neg hm]; rfl
    have hl : l ≤ maxI l lo ∧ lo ≤ maxI l lo := by have := maxI_or l lo; omega
    rw [hb]
    obtain ⟨i1, i2⟩ := ih
    refine ⟨fun hm => ?_, fun hm => ?_⟩
    · by_cases hg : g' < maxI l lo
      · have hs : maxI l (g' + 1) = maxI l lo := by
          have := maxI_or l lo
          have := maxI_or l (g' + 1)
          omega
        rw [if_neg (by split <;> omega), List.nil_append, ← hs]
        exact i1 (by omega)
      · by_cases he : e < g'
        · have hs : maxI l (g' + 1) = g' + 1 := by have := maxI_or l lo; have := maxI_or l (g' + 1); omega
          rw [if_pos he, if_pos hm, i2 (by omega), List.append_nil]
          exact Pre.snoc (found := []) .nil hm fun n q1 q2 => by rw [hf n (by omega) q2, h2 n (by omega) (by omega)]
        · rw [if_neg he, if_pos (by omega)]
          have hs : maxI l (g' + 1) = g' + 1 := by have := maxI_or l lo; have := maxI_or l (g' + 1); omega
          have p1 : Pre (fun n => (f n, g n)) (maxI l lo) [(maxI l lo, some g', (a, b))] (g' + 1) := Pre.snoc (found := []) .nil (by omega) fun n q1 q2 => by rw [hf n (by omega) (by omega), h2 n (by omega) q2]
          by_cases hge : g' = e
          · rw [i2 (by omega), List.append_nil, ← hge]
            exact p1
          · refine p1.app ?_
            rw [← hs]
            exact i1 (by omega)
    · rw [if_neg (by split <;> omega), i2 (by have := maxI_or l lo; have := maxI_or l (g' + 1); omega)]
      rfl
theorem bothIn_none {α β : Type} {f : Int → α} {g : Int → β} {l : Int} {a : α} (hf : ∀ n, l ≤ n → f n = a) : ∀ {lo : Int} {ys : List (Row β)}, Cov g lo ys → Cov (fun n => (f n, g n)) (maxI l lo) (bothIn (l, none, a) ys) := by
  intro lo ys c
  induction c with
  | @last lo b h =>
    have hl : l ≤ maxI l lo ∧ lo ≤ maxI l lo := by have := maxI_or l lo; omega
    show Cov _ (maxI l lo) [(maxI l lo, none, (a, b))]
    exact .last fun n hn => by rw [hf n (by omega), h n (by omega)]
  | @more lo g' b rest h1 h2 c ih =>
    have hl : l ≤ maxI l lo ∧ lo ≤ maxI l lo := by have := maxI_or l lo; omega
    have hb : bothIn ((l, none, a) : Row α) (((lo, some g', b) : Row β) :: rest) = (if maxI l lo ≤ g' then [(maxI l lo, some g', (a, b))] else []) ++ bothIn (l, none, a) rest := by
      unfold bothIn
      rw [List.filterMap_cons]
      have : bothRow ((l, none, a) : Row α) ((lo, some g', b) : Row β) = if maxI l lo ≤ g' then some (maxI l lo, some g', (a, b)) else none := by
        unfold bothRow
        show (if meets (maxI l lo) (some g') = true then some (maxI l lo, some g', (a, b)) else none) = _
        unfold meets
        by_cases hm : maxI l lo ≤ g' <;> simp [hm]
      rw [this]
      by_cases hm : maxI l lo ≤ g'
      · rw [if_pos hm, if_pos hm]; rfl
      · rw [if_neg hm, if_neg hm]; rfl
    rw [hb]
    by_cases hm : maxI l lo ≤ g'
    · rw [if_pos hm]
      have hs : maxI l (g' + 1) = g' + 1 := by have := maxI_or l lo; have := maxI_or l (g' + 1); omega
      rw [hs] at ih
      exact .more hm (fun n q1 q2 => by rw [hf n (by omega), h2 n (by omega) q2]) ih
    · rw [if_neg hm, List.nil_append]
      have hs : maxI l (g' + 1) = maxI l lo := by
        have := maxI_or l lo
        have := maxI_or l (g' + 1)
        omega
      rw [← hs]
      exact ih
theorem both_cov {α β : Type} {f : Int → α} {g : Int → β} {lo : Int} {ys : List (Row β)} (cy : Cov g lo ys) : ∀ {l : Int} {xs : List (Row α)}, Cov f l xs → lo ≤ l → Cov (fun n => (f n, g n)) l (bothRows xs ys) := by
  intro l xs c
  induction c with
  | @last l a h =>
    intro hl
    have hs : maxI l lo = l := by have := maxI_or l lo; omega
    have := bothIn_none h cy
    rw [hs] at this
    show Cov _ l (bothIn (l, none, a) ys ++ [])
    rw [List.append_nil]
    exact this
  | @more l e a rest h1 h2 c ih =>
    intro hl
    have hs : maxI l lo = l := by have := maxI_or l lo; omega
    have p := (bothIn_some h2 cy).1 (by omega)
    rw [hs] at p
    show Cov _ l (bothIn (l, some e, a) ys ++ bothRows rest ys)
    exact p.cov (ih (by omega))
theorem both_end {α β : Type} {xs : List (Row α)} {ys : List (Row β)} (hx : EndB xs) (hy : EndB ys) : EndB (bothRows xs ys) := by
  intro r hr g hg
  obtain ⟨x, hx', hr⟩ := List.mem_flatMap.mp hr
  obtain ⟨y, hy', e⟩ := List.mem_filterMap.mp hr
  unfold bothRow at e
  split at e
  · have e := Option.some.inj e
    subst e
    have hg : lesserEnd x.2.1 y.2.1 = some g := hg
    unfold lesserEnd at hg
    split at hg
    · exact hy y hy' g hg
    · rename_i i e1 e2
      exact hx x hx' g (by rw [e1]; exact hg)
    · rename_i i j e1 e2
      split at hg
      · exact hx x hx' g (by rw [e1]; exact hg)
      · exact hy y hy' g (by rw [e2]; exact hg)
  · cases e
end DL
namespace DL
open PySem PySem.Spec PyProof.Rows L2 LamX
/-! cut covers and ends; the first false row. -/
def AskB {α : Type} (ask : α → Int → List Form) (a : α) : Prop := ∀ n, ∀ f ∈ ask a n, f.2.natAbs ≤ 92
def AskF {α β : Type} (F : α → Int → β) (ask : α → Int → List Form) : Prop := ∀ a n m, (∀ f ∈ ask a n, sgn f m = sgn f n) → F a m = F a n
theorem cut_until {α β : Type} {F : α → Int → β} {ask : α → Int → List Form} (hF : AskF F ask) {a : α} (hb : AskB ask a) {n : Int} (hn : 0 ≤ n) :
    (untilOf (ask a n) n = none → ∀ m, n ≤ m → F a m = F a n) ∧ ∀ e, untilOf (ask a n) n = some e → n ≤ e ∧ e ≤ 92 ∧ ∀ m, n ≤ m → m ≤ e → F a m = F a n := by
  obtain ⟨u1, u2⟩ := until_spec (asked := ask a n) hn
  refine ⟨fun h m hm => hF a n m fun g hg => u1 h g hg m hm, fun e he => ?_⟩
  obtain ⟨h1, ⟨f, hf, h2⟩, h3⟩ := u2 e he
  have := hb n f hf
  exact ⟨h1, by omega, fun m a b => hF _ n m fun g hg => h3 g hg m a b⟩
theorem until_bd {α : Type} {ask : α → Int → List Form} {a : α} (hb : AskB ask a) {n : Int} (hn : 0 ≤ n) {e : Int} (he : untilOf (ask a n) n = some e) : n ≤ e ∧ e ≤ 92 := by
  obtain ⟨h1, ⟨f, hf, h2⟩, _⟩ := (until_spec (asked := ask a n) hn).2 e he
  have := hb n f hf
  omega
theorem cutEnds_of {α : Type} {ask : α → Int → List Form} {a : α} (hb : AskB ask a) {g : Option Int} (hg : ∀ e, g = some e → e ≤ 92) : ∀ (k : Nat) (n : Int), 0 ≤ n → (94 - n).toNat < k → cutEnds ask a g k n
  | 0, n, _, h => absurd h (Nat.not_lt_zero _)
  | k + 1, n, h0, h => by
    unfold cutEnds
    intro hi
    cases hu : untilOf (ask a n) n with
    | none =>
      cases g with
      | none => exact trivial
      | some e =>
        have := hg e rfl
        have hi : n ≤ e := by simpa [inEnd] using hi
        exact cutEnds_of hb hg k (e + 1) (by omega) (by omega)
    | some u =>
      have hu' := until_bd hb h0 hu
      cases g with
      | none => exact cutEnds_of hb hg k (u + 1) (by omega) (by omega)
      | some e =>
        have := hg e rfl
        have hi : n ≤ e := by simpa [inEnd] using hi
        have hl : lesserEnd (some u) (some e) = some (if u < e then u else e) := by
          unfold lesserEnd
          by_cases q : u < e <;> simp [q]
        rw [hl]
        exact cutEnds_of hb hg k ((if u < e then u else e) + 1) (by split <;> omega) (by split <;> omega)
theorem cutIn_none {α β : Type} {F : α → Int → β} {ask : α → Int → List Form} (hF : AskF F ask) {a : α} (hb : AskB ask a) {f : Int → β} {lo : Int} : ∀ (k : Nat) (acc : List (Row β)) (n : Int), 0 ≤ n → cutEnds ask a none k n → (∀ m, n ≤ m → f m = F a m) → Pre f lo acc n → Cov f lo (cutIn F ask a none k acc n)
  | 0, _, _, _, h, _, _ => h.elim
  | k + 1, acc, n, h0, h, hf, p => by
    have hc := cut_until hF hb h0
    unfold cutEnds at h
    have h := h rfl
    unfold cutIn
    rw [if_pos (show inEnd none n = true from rfl)]
    cases hu : untilOf (ask a n) n with
    | none => exact p.cov (.last fun m hm => by rw [hf m hm, hc.1 hu m hm])
    | some u =>
      obtain ⟨c1, c2, c3⟩ := hc.2 u hu
      rw [hu] at h
      exact cutIn_none hF hb k _ (u + 1) (by omega) h (fun m hm => hf m (by omega)) (p.snoc c1 fun m m1 m2 => by rw [hf m m1, c3 m m1 m2])
theorem cutIn_some {α β : Type} {F : α → Int → β} {ask : α → Int → List Form} (hF : AskF F ask) {a : α} (hb : AskB ask a) {f : Int → β} {lo e : Int} : ∀ (k : Nat) (acc : List (Row β)) (n : Int), 0 ≤ n → n ≤ e + 1 → cutEnds ask a (some e) k n → (∀ m, n ≤ m → m ≤ e → f m = F a m) → Pre f lo acc n → Pre f lo (cutIn F ask a (some e) k acc n) (e + 1)
  | 0, _, _, _, _, h, _, _ => h.elim
  | k + 1, acc, n, h0, hne, h, hf, p => by
    have hc := cut_until hF hb h0
    unfold cutEnds at h
    unfold cutIn
    by_cases hi : n ≤ e
    · have hi' : inEnd (some e) n = true := by simpa [inEnd] using hi
      rw [if_pos hi']
      have h := h hi'
      cases hu : untilOf (ask a n) n with
      | none =>
        rw [hu] at h
        exact cutIn_some hF hb k _ (e + 1) (by omega) (by omega) h (fun m _ _ => hf m (by omega) (by omega)) (p.snoc hi fun m m1 m2 => by rw [hf m m1 m2, hc.1 hu m m1])
      | some u =>
        obtain ⟨c1, c2, c3⟩ := hc.2 u hu
        have hl : lesserEnd (some u) (some e) = some (if u < e then u else e) := by
          unfold lesserEnd
          by_cases q : u < e <;> simp [q]
        rw [hu, hl] at h
        rw [hl]
        have hm : n ≤ (if u < e then u else e) ∧ (if u < e then u else e) ≤ u ∧ (if u < e then u else e) ≤ e := by split <;> omega
        exact cutIn_some hF hb k _ _ (by omega) (by omega) h (fun m _ _ => hf m (by omega) (by omega)) (p.snoc hm.1 fun m m1 m2 => by rw [hf m m1 (by omega), c3 m m1 (by omega)])
    · have hi' : ¬ inEnd (some e) n = true := by simpa [inEnd] using hi
      rw [if_neg hi', show e + 1 = n by omega]
      exact p
theorem cutLoop_cov {α β : Type} {F : α → Int → β} {ask : α → Int → List Form} (hF : AskF F ask) {h : Int → α} {lo0 : Int} : ∀ {lo : Int} {rows : List (Row α)}, Cov h lo rows → 0 ≤ lo → EndB rows → (∀ r ∈ rows, AskB ask r.2.2) → ∀ acc : List (Row β), Pre (fun n => F (h n) n) lo0 acc lo → Cov (fun n => F (h n) n) lo0 (rows.foldl (fun acc r => cutIn F ask r.2.2 r.2.1 200 acc r.1) acc) := by
  intro lo rows c
  induction c with
  | @last l a hl =>
    intro h0 he hb acc p
    have hb' := hb _ (List.mem_singleton.mpr rfl)
    exact cutIn_none hF hb' 200 acc l h0 (cutEnds_of hb' (fun _ z => by cases z) 200 l h0 (by omega)) (fun m hm => by show F (h m) m = _; rw [hl m hm]) p
  | @more l g a rest h1 h2 c ih =>
    intro h0 he hb acc p
    have hb' := hb _ (List.mem_cons_self ..)
    rw [List.foldl_cons]
    refine ih (by omega) (fun r hr => he r (List.mem_cons_of_mem _ hr)) (fun r hr => hb r (List.mem_cons_of_mem _ hr)) _ ?_
    exact cutIn_some hF hb' 200 acc l h0 (by omega) (cutEnds_of hb' (fun e z => he _ (List.mem_cons_self ..) e z) 200 l h0 (by omega)) (fun m m1 m2 => by show F (h m) m = _; rw [h2 m m1 m2]) p
theorem cut_cov {α β : Type} [DecidableEq β] {F : α → Int → β} {ask : α → Int → List Form} (hF : AskF F ask) {h : Int → α} {lo : Int} {rows : List (Row α)} (c : Cov h lo rows) (h0 : 0 ≤ lo) (he : EndB rows) (hb : ∀ r ∈ rows, AskB ask r.2.2) : Cov (fun n => F (h n) n) lo (cutRows F ask rows) :=
  joined_cov (cutLoop_cov hF c h0 he hb [] .nil)
theorem first_spec {f : Int → Bool} {lo : Int} {rows : List (Row Bool)} (c : Cov f lo rows) : (firstFalse rows = none → ∀ n, lo ≤ n → f n = true) ∧ ∀ e, firstFalse rows = some e → lo ≤ e ∧ f e = false ∧ ∀ n, lo ≤ n → n < e → f n = true := by
  induction c with
  | @last l a h =>
    cases a with
    | true => exact ⟨fun _ => h, fun e he => by cases he⟩
    | false =>
      refine ⟨fun z => (by cases z), fun e he => ?_⟩
      have he : some l = some e := he
      cases he
      exact ⟨Int.le_refl _, h l (Int.le_refl _), fun n a b => by omega⟩
  | @more l g a rest h1 h2 c ih =>
    cases a with
    | true =>
      have e : firstFalse ((l, some g, true) :: rest) = firstFalse rest := rfl
      rw [e]
      refine ⟨fun z n hn => ?_, fun e he => ?_⟩
      · by_cases q : n ≤ g
        · exact h2 n hn q
        · exact ih.1 z n (by omega)
      · obtain ⟨i1, i2, i3⟩ := ih.2 e he
        refine ⟨by omega, i2, fun n a b => ?_⟩
        by_cases q : n ≤ g
        · exact h2 n a q
        · exact i3 n (by omega) b
    | false =>
      refine ⟨fun z => (by cases z), fun e he => ?_⟩
      have he : some l = some e := he
      cases he
      exact ⟨Int.le_refl _, h2 l (Int.le_refl _) h1, fun n a b => by omega⟩
end DL
namespace DL
open PySem PySem.Spec PyProof.Rows L2 LamX
/-! The parting number is the least number of boats at which the minutes differ. -/
theorem forms_mem {p : Plan} (ok : p.Ok) {n : Int} {t : FF} (h : t ∈ formsOf (runWith p n)) : t ∈ (runWith p n).tim := by
  obtain ⟨b, hb, e⟩ := List.mem_map.mp h
  subst e
  have a := runWith_all ok n
  have hb : b < p.boats.length := by
    have := List.mem_range.mp hb
    have := a.lo
    omega
  exact (List.of_mem_zip (a.mem hb)).2
theorem forms_len {p : Plan} (ok : p.Ok) (n : Int) : (formsOf (runWith p n)).length = p.boats.length := by
  unfold formsOf
  rw [List.length_map, List.length_range]
  exact (runWith_all ok n).lo
theorem forms_bd {p : Plan} (ok : p.Ok) {n : Int} {t : FF} (h : t ∈ formsOf (runWith p n)) : (0 ≤ t.1.2 ∧ t.1.2 ≤ 92 ∧ t.1.1.natAbs ≤ 1000) ∧ (0 ≤ t.2.2 ∧ t.2.2 ≤ 92 ∧ t.2.1.natAbs ≤ 1000) := by
  have h5 := ok.len1
  have h := forms_mem ok h
  have h1 := (runWith_base ok n).tim t h
  have h2 := (runWith_inv ok n).cap t h
  unfold DL.cap at h2
  omega
theorem gaps_mem {xs ys : List FF} {f : Form} (h : f ∈ gapsOf xs ys) : ∃ x ∈ xs, ∃ y ∈ ys, f = fsub x.1 y.1 ∨ f = fsub x.2 y.2 := by
  obtain ⟨q, hq, hf⟩ := List.mem_flatMap.mp h
  have := List.of_mem_zip (show (q.1, q.2) ∈ xs.zip ys from hq)
  refine ⟨q.1, this.1, q.2, this.2, ?_⟩
  simpa using hf
theorem gaps_bd {a b : Plan} (oa : a.Ok) (ob : b.Ok) {n m : Int} {f : Form} (h : f ∈ gapsOf (formsOf (runWith a n)) (formsOf (runWith b m))) : f.2.natAbs ≤ 92 ∧ sm f := by
  obtain ⟨x, hx, y, hy, e⟩ := gaps_mem h
  have h1 := forms_bd oa hx
  have h2 := forms_bd ob hy
  unfold sm
  rcases e with e | e
  · subst e
    show (x.1.2 - y.1.2).natAbs ≤ 92 ∧ (x.1.1 - y.1.1).natAbs < _
    omega
  · subst e
    show (x.2.2 - y.2.2).natAbs ≤ 92 ∧ (x.2.1 - y.2.1).natAbs < _
    omega
theorem allForms_cov {p : Plan} (ok : p.Ok) : Cov (fun n => formsOf (runWith p n)) 2 (allForms p) ∧ EndB (allForms p) := byRuns_cov ok fun x => x.2
theorem cov_val {α : Type} {f : Int → α} {lo : Int} {rows : List (Row α)} (c : Cov f lo rows) : ∀ r ∈ rows, r.2.2 = f r.1 := by
  induction c with
  | last h =>
    intro r hr
    rw [List.mem_singleton] at hr
    subst hr
    exact (h _ (Int.le_refl _)).symm
  | more h1 h2 c ih =>
    intro r hr
    rcases List.mem_cons.mp hr with e | hr
    · subst e
      exact (h2 _ (Int.le_refl _) h1).symm
    · exact ih r hr
theorem cov_lo {α : Type} {f : Int → α} {lo : Int} {rows : List (Row α)} (c : Cov f lo rows) : ∀ r ∈ rows, lo ≤ r.1 := by
  induction c with
  | last h =>
    intro r hr
    rw [List.mem_singleton] at hr
    subst hr
    exact Int.le_refl _
  | more h1 h2 c ih =>
    intro r hr
    rcases List.mem_cons.mp hr with e | hr
    · subst e
      exact Int.le_refl _
    · have := ih r hr
      omega
abbrev twoForms (a b : Plan) (n : Int) : List FF × List FF := (formsOf (runWith a n), formsOf (runWith b n))
theorem two_cov {a b : Plan} (oa : a.Ok) (ob : b.Ok) : Cov (twoForms a b) 2 (bothRows (allForms a) (allForms b)) ∧ EndB (bothRows (allForms a) (allForms b)) :=
  ⟨both_cov (allForms_cov ob).1 (allForms_cov oa).1 (Int.le_refl _), both_end (allForms_cov oa).2 (allForms_cov ob).2⟩
theorem askB_two {a b : Plan} (oa : a.Ok) (ob : b.Ok) : ∀ r ∈ bothRows (allForms a) (allForms b), AskB askSame r.2.2 := fun r hr n f hf => by
  have e := cov_val (two_cov oa ob).1 r hr
  have hf : f ∈ gapsOf r.2.2.1 r.2.2.2 := hf
  rw [e] at hf
  exact (gaps_bd oa ob hf).1
theorem PartPre.of {a b : Plan} (oa : a.Ok) (ob : b.Ok) : PartPre a b := by
  obtain ⟨c, e⟩ := two_cov oa ob
  have la := cov_len (allForms_cov oa).1 (allForms_cov oa).2 (by decide)
  have lb := cov_len (allForms_cov ob).1 (allForms_cov ob).2 (by decide)
  have lo := cov_len c e (by decide)
  refine ⟨.of oa, .of ob, by omega, by omega, by omega, fun r hr => ?_, fun r hr => ?_⟩
  · have ev := cov_val c r hr
    have l0 := cov_lo c r hr
    refine ⟨fun n f hf => ?_, fun n => ?_, cutEnds_of (askB_two oa ob r hr) (fun g hg => e r hr g hg) 200 r.1 (by omega) (by omega)⟩
    · have hf : f ∈ gapsOf r.2.2.1 r.2.2.2 := hf
      rw [ev] at hf
      exact (gaps_bd oa ob hf).2
    · show (gapsOf r.2.2.1 r.2.2.2).length ≤ 10000
      have h1 := gaps_len r.2.2.1 r.2.2.2
      rw [ev] at h1 ⊢
      have h2 : (twoForms a b r.1).1.length = a.boats.length := forms_len oa r.1
      have := oa.len1
      omega
  · rw [cov_val c r hr]
    have h2 : (twoForms a b r.1).1.length = a.boats.length := forms_len oa r.1
    have := oa.len1
    omega
def at2 (n : Int) (t : FF) : Int × Int := (worth t.1 n, worth t.2 n)
theorem same_iff (n : Int) : ∀ (xs ys : List FF), xs.length = ys.length → (((gapsOf xs ys).all fun f => sgn f n == 0) = true ↔ xs.map (at2 n) = ys.map (at2 n))
  | [], [], _ => by simp [gapsOf]
  | [], _ :: _, h => by cases h
  | _ :: _, [], h => by cases h
  | x :: xs, y :: ys, h => by
    have ih := same_iff n xs ys (by simpa using h)
    have e : gapsOf (x :: xs) (y :: ys) = fsub x.1 y.1 :: fsub x.2 y.2 :: gapsOf xs ys := rfl
    have c1 := (sgn_cases (fsub x.1 y.1) n).1
    have c2 := (sgn_cases (fsub x.2 y.2) n).1
    rw [worth_sub] at c1 c2
    rw [e, List.all_cons, List.all_cons, List.map_cons, List.map_cons, Bool.and_eq_true, Bool.and_eq_true, ih, beq_iff_eq, beq_iff_eq, c1, c2, List.cons.injEq]
    unfold at2
    rw [Prod.mk.injEq]
    constructor
    · rintro ⟨h1, h2, h3⟩
      exact ⟨⟨by omega, by omega⟩, h3⟩
    · rintro ⟨⟨h1, h2⟩, h3⟩
      exact ⟨by omega, by omega, h3⟩
theorem same_minutes {a b : Plan} (oa : a.Ok) (ob : b.Ok) (hl : a.boats.length = b.boats.length) (n : Int) : sameAll (twoForms a b n) n = true ↔ minutesOf a n = minutesOf b n :=
  same_iff n _ _ (by rw [forms_len oa, forms_len ob, hl])
theorem same_askF : AskF sameAll askSame := fun a n m h => by
  unfold sameAll
  have h : ∀ f ∈ gapsOf a.1 a.2, sgn f m = sgn f n := h
  rw [Bool.eq_iff_iff, List.all_eq_true, List.all_eq_true]
  constructor
  · intro z f hf; rw [← h f hf]; exact z f hf
  · intro z f hf; rw [h f hf]; exact z f hf
/-- what parting finds -/
theorem part_spec {a b : Plan} (oa : a.Ok) (ob : b.Ok) (hl : a.boats.length = b.boats.length) : (partNum a b = none → ∀ n, 2 ≤ n → minutesOf a n = minutesOf b n) ∧ ∀ e, partNum a b = some e → 2 ≤ e ∧ minutesOf a e ≠ minutesOf b e ∧ ∀ n, 2 ≤ n → n < e → minutesOf a n = minutesOf b n := by
  obtain ⟨c, e⟩ := two_cov oa ob
  have c2 := cut_cov same_askF c (by decide) e (askB_two oa ob)
  have f := first_spec c2
  have hp : partNum a b = firstFalse (cutRows sameAll askSame (bothRows (allForms a) (allForms b))) := by
    unfold partNum
    rw [if_neg (by simpa using hl)]
  rw [hp]
  refine ⟨fun z n hn => (same_minutes oa ob hl n).mp (f.1 z n hn), fun g hg => ?_⟩
  obtain ⟨h1, h2, h3⟩ := f.2 g hg
  refine ⟨h1, fun z => ?_, fun n x y => (same_minutes oa ob hl n).mp (h3 n x y)⟩
  have := (same_minutes oa ob hl g).mpr z
  rw [h2] at this
  cases this
theorem part_len {a b : Plan} (h : a.boats.length ≠ b.boats.length) : partNum a b = some 2 := by
  unfold partNum
  rw [if_pos h]
theorem part_unique {a b : Plan} (oa : a.Ok) (ob : b.Ok) (hl : a.boats.length = b.boats.length) {v : Option Int} (h : (v = none → ∀ n, 2 ≤ n → minutesOf a n = minutesOf b n) ∧ ∀ e, v = some e → 2 ≤ e ∧ minutesOf a e ≠ minutesOf b e ∧ ∀ n, 2 ≤ n → n < e → minutesOf a n = minutesOf b n) : partNum a b = v := by
  obtain ⟨p1, p2⟩ := part_spec oa ob hl
  obtain ⟨v1, v2⟩ := h
  cases hp : partNum a b with
  | none =>
    cases v with
    | none => rfl
    | some e =>
      have := v2 e rfl
      exact absurd (p1 hp e this.1) this.2.1
  | some e =>
    have h2 := p2 e hp
    cases v with
    | none => exact absurd (v1 rfl e h2.1) h2.2.1
    | some e' =>
      have h3 := v2 e' rfl
      rcases Int.lt_trichotomy e e' with q | q | q
      · exact absurd (h3.2.2 e h2.1 q) h2.2.1
      · rw [q]
      · exact absurd (h2.2.2 e' h3.1 q) h3.2.1
theorem part_symm {a b : Plan} (oa : a.Ok) (ob : b.Ok) : partNum b a = partNum a b := by
  by_cases hl : a.boats.length = b.boats.length
  · obtain ⟨p1, p2⟩ := part_spec oa ob hl
    refine part_unique ob oa hl.symm ⟨fun z n hn => (p1 z n hn).symm, fun e he => ?_⟩
    obtain ⟨h1, h2, h3⟩ := p2 e he
    exact ⟨h1, fun z => h2 z.symm, fun n x y => (h3 n x y).symm⟩
  · rw [part_len hl, part_len fun z => hl z.symm]
end DL
namespace DL
open PySem PySem.Spec PyProof.Rows L2 LamX
/-! The law is right about two plans. -/
def sp__law_right : DSp := fun ds P => ∃ a b : Plan, ds = [srcD, eP a, eP b] ∧ a.Ok ∧ b.Ok ∧ P (.bool true)
def eMs (l : List (Int × Int)) : Dt := .tuple (l.map eII)
theorem eqv_eII (x y : Int × Int) : PyData.eqv (eII x) (eII y) = decide (x = y) := by
  show ((x.1 == y.1) && ((x.2 == y.2) && true)) = _
  rw [Bool.and_true]
  by_cases h1 : x.1 = y.1 <;> by_cases h2 : x.2 = y.2 <;> simp [h1, h2, Prod.ext_iff]
theorem eqv_eMs (x y : List (Int × Int)) : PyData.eqv (eMs x) (eMs y) = decide (x = y) := eqvAll_map eqv_eII x y
theorem sh_eMs (x : List (Int × Int)) : SeqAt.shaped (eMs x) = true := (Gd.tup (n := 1) (GdA.map fun q _ => Gd.tup (GdA.cons (Gd.int _) (GdA.cons (Gd.int _) GdA.nil)))).sh
theorem mu_eO (o : Option Int) : isMut (eO o) = false := by cases o <;> rfl
theorem sh_eO (o : Option Int) : SeqAt.shaped (eO o) = true := by cases o <;> rfl
theorem eqv_eO (a b : Option Int) : PyData.eqv (eO a) (eO b) = decide (a = b) := by
  cases a with
  | none => cases b <;> simp [eO, PyData.eqv]
  | some x =>
    cases b with
    | none => simp [eO, PyData.eqv]
    | some y =>
      show (x == y) = _
      by_cases q : x = y <;> simp [q]
theorem gt_some (e n : Int) (R : Dt → Prop) : rGt (eO (some e)) (.int n) R = R (.bool (decide (n < e))) := rfl
abbrev bodyRight : DTS := dIfS (dOr (dB (dOp rIs (dVar 3) (dC .none))) (dB (dOp rGt (dVar 3) (dVar 5)))) (dIfS (dB (dOp rNe (dCall 2 sp__law_minutes (dCons (dVar 1) (dCons (dVar 5) dNil))) (dCall 2 sp__law_minutes (dCons (dVar 2) (dCons (dVar 5) dNil))))) (dRet (dC (.bool false))) dNext) dNext
theorem loop_right {a b : Plan} (oa : a.Ok) (ob : b.Ok) (hl : a.boats.length = b.boats.length) (x0 x4 : Option Dt) (D : DEnds) : ∀ (l : List Int) (o5 : Option Dt), (∀ n ∈ l, 2 ≤ n) → (∀ o5, D.nx [x0, some (eP a), some (eP b), some (eO (partNum a b)), x4, o5]) →
    forW (gN 5) bodyRight (l.map .int) D [x0, some (eP a), some (eP b), some (eO (partNum a b)), x4, o5]
  | [], o5, _, h => h o5
  | n :: l, o5, hn, h => by
    have n2 := hn n (List.mem_cons_self ..)
    have ih := loop_right oa ob hl x0 x4 D l (some (.int n)) (fun m hm => hn m (List.mem_cons_of_mem _ hm)) h
    obtain ⟨p1, p2⟩ := part_spec oa ob hl
    have hm : (∀ e, partNum a b = some e → n < e) → minutesOf a n = minutesOf b n := fun z => by
      cases hp : partNum a b with
      | none => exact p1 hp n n2
      | some e => exact (p2 e hp).2.2 n n2 (z e hp)
    simp only [List.map_cons, forW, gN, List.set_cons_zero, List.set_cons_succ, bodyRight, dIfS, dOr, dB, dOp, dVar, dC, List.getElem?_cons_zero, List.getElem?_cons_succ]
    have fin : ∀ E : DEnds, E.nx = forW (gN 5) bodyRight (l.map .int) D → (∀ e, partNum a b = some e → n < e) → (dIfS (dB (dOp rNe (dCall 2 sp__law_minutes (dCons (dVar 1) (dCons (dVar 5) dNil))) (dCall 2 sp__law_minutes (dCons (dVar 2) (dCons (dVar 5) dNil))))) (dRet (dC (.bool false))) dNext) E [x0, some (eP a), some (eP b), some (eO (partNum a b)), x4, some (.int n)] := fun E hE z => by
      simp only [dIfS, dB, dOp, dCall, dCons, dNil, dVar, List.getElem?_cons_zero, List.getElem?_cons_succ]
      refine ⟨rfl, rfl, by simp, a, n, rfl, oa, rfl, rfl, by simp, b, n, rfl, ob, ?_⟩
      refine ⟨sh_eMs _, sh_eMs _, ?_⟩
      have e := eqv_eMs (minutesOf a n) (minutesOf b n)
      rw [hm z, decide_eq_true rfl] at e
      rw [hm z]
      unfold eMs at e
      rw [e]
      show E.nx _
      rw [hE]
      exact ih
    have ih : ∀ E : DEnds, E.nx = forW (gN 5) bodyRight (l.map .int) D → dNext E [x0, some (eP a), some (eP b), some (eO (partNum a b)), x4, some (.int n)] := fun E hE => by show E.nx _; rw [hE]; exact ih
    cases hp : partNum a b with
    | none =>
      rw [hp] at fin
      exact ⟨rfl, fin _ rfl fun e z => by cases z⟩
    | some e =>
      rw [hp] at fin ih
      refine ⟨rfl, rfl, rfl, ?_⟩
      rw [gt_some]
      simp only [onB]
      by_cases q : n < e
      · rw [if_pos (by simpa using q)]
        exact fin _ rfl fun e' z => by cases z; exact q
      · rw [if_neg (by simpa using q)]
        exact ih _ rfl
theorem rNe_len (a b : Plan) (P : Dt → Prop) : rNe (.int (a.boats.length : Int)) (.int (b.boats.length : Int)) P = P (.bool (!decide (a.boats.length = b.boats.length))) := by
  have e : PyData.eqv (.int (a.boats.length : Int)) (.int (b.boats.length : Int)) = decide (a.boats.length = b.boats.length) := by
    show ((a.boats.length : Int) == (b.boats.length : Int)) = _
    by_cases q : a.boats.length = b.boats.length
    · simp [q]
    · have : (a.boats.length : Int) ≠ (b.boats.length : Int) := by omega
      simp [q, this]
  unfold rNe
  rw [e]
  apply propext
  exact ⟨fun z => z.2.2, fun z => ⟨rfl, rfl, z⟩⟩
theorem h__law_right : Hs 6 3 sp__law_right (t__law_right sp_parting sp__law_n sp_alike sp__law_minutes) := by
  rintro ds Q _ ⟨a, b, rfl, oa, ob, h⟩
  simp only [t__law_right, dSeq, dAsg, dCall, dCons, dNil, dVar, startD_3, List.replicate, List.getElem?_cons_zero, List.getElem?_cons_succ]
  refine ⟨rfl, rfl, by simp, a, b, rfl, oa, ob, fun _ => .of oa ob, ?_⟩
  simp only [gN, List.set_cons_zero, List.set_cons_succ, dOp, dLrg, dC, dLst, dCons, dNil, dCall, dVar, List.getElem?_cons_zero, List.getElem?_cons_succ]
  refine ⟨by decide, by decide, by decide, by decide, rfl, by simp, rfl, fun n1 a1 b1 => ⟨rfl, by simp, rfl, fun n2 a2 b2 => ?_⟩⟩
  have hpow : ∀ R : Dt → Prop, R (.int (10 ^ 30)) → rPow (.int 10) (.int 30) R := fun R hR => by
    exact ⟨⟨by decide, by decide, by decide⟩, hR⟩
  simp only [dCons, dNil, dOp, dC]
  refine hpow _ ?_
  refine ⟨by simp [line], ?_⟩
  obtain ⟨l, hl, hln⟩ : ∃ l : List Int, rngD 2 (60 - 2 : Int).toNat ++ [.int n1, .int n2, .int (10 ^ 30)] = l.map .int ∧ ∀ n ∈ l, 2 ≤ n := by
    refine ⟨(List.range 58).map (fun i : Nat => (2 + (i : Int) : Int)) ++ [n1, n2, 10 ^ 30], ?_, fun n hn => ?_⟩
    · unfold rngD
      simp
    · rcases List.mem_append.mp hn with hn | hn
      · obtain ⟨i, _, rfl⟩ := List.mem_map.mp hn
        omega
      · simp at hn
        rcases hn with rfl | rfl | rfl
        · exact a1
        · exact a2
        · decide
  have hadd : ∀ R : Dt → Prop, R (.list (l.map .int)) → rAdd (.list (rngD 2 (60 - 2 : Int).toNat)) (.list [.int n1, .int n2, .int (10 ^ 30)]) R := fun R hR => by
    rw [← hl] at hR
    simp only [rAdd]
    exact ⟨by simp [rngD, line], hR⟩
  refine hadd _ ?_
  simp only [gN, List.set_cons_zero, List.set_cons_succ, dIfS, dOr, dB, dOp, dC, dCall, dCons, dNil, dVar, List.getElem?_cons_zero, List.getElem?_cons_succ]
  refine ⟨rfl, rfl, by simp, a, b, rfl, oa, ob, fun _ => .of oa ob, mu_eO _, ?_⟩
  have hn : ∀ R : Dt → Prop, R (.bool (decide (partNum a b = none))) → rIs (eO (partNum a b)) .none R := fun R hR => by
    cases hp : partNum a b with
    | none => rw [hp] at hR; exact hR
    | some e => rw [hp] at hR; exact hR
  simp only [dC]
  refine hn _ ?_
  have e1 : ∀ x : Bool, PyData.eqv (.bool x) (.bool x) = true := fun x => by cases x <;> rfl
  refine ⟨rfl, rfl, ?_⟩
  rw [e1]
  simp only [onB, Bool.not_true]
  refine ⟨rfl, rfl, by simp, b, a, rfl, ob, oa, fun _ => .of ob oa, mu_eO _, sh_eO _, sh_eO _, ?_⟩
  rw [eqv_eO, part_symm oa ob]
  simp only [decide_true, Bool.not_true, onB, Bool.false_eq_true, if_false, dNext, dSeq, dIfS, dB, dOp, dC, dCb, dCons, dNil, dVar, List.getElem?_cons_zero, List.getElem?_cons_succ, rIx_eP2, sLen]
  refine ⟨rfl, rfl, ?_⟩
  rw [List.length_map, List.length_map, rNe_len]
  by_cases hlen : a.boats.length = b.boats.length
  · simp only [hlen, decide_true, Bool.not_true, onB, Bool.false_eq_true, if_false, dFor, iL, dVar, List.getElem?_cons_zero, List.getElem?_cons_succ, onL]
    refine ⟨rfl, ?_⟩
    refine loop_right oa ob hlen _ _ _ l _ hln fun o5 => ?_
    obtain ⟨p1, p2⟩ := part_spec oa ob hlen
    cases hp : partNum a b with
    | none => exact ⟨rfl, h⟩
    | some e =>
      obtain ⟨e1, e2, e3⟩ := p2 e hp
      have q := eqv_eMs (minutesOf a e) (minutesOf b e)
      rw [decide_eq_false e2] at q
      unfold eMs at q
      refine ⟨rfl, ?_⟩
      simp only [eO, isNon, onB, Bool.false_eq_true, if_false, dNext, dSeq, dIfS, dB, dOp, dC, dCall, dCons, dNil, dVar, List.getElem?_cons_zero, List.getElem?_cons_succ]
      refine ⟨rfl, rfl, by simp, a, e, rfl, oa, rfl, rfl, by simp, b, e, rfl, ob, sh_eMs _, sh_eMs _, ?_⟩
      rw [q]
      simp only [onB, Bool.false_eq_true, if_false, dNext, dRet, thawR_cons, thawR_nil, Option.map_some, thaw_int, thaw_eP, dOrV, dOp, dC, dCall, dCons, dNil, dVar, List.getElem?_cons_zero, List.getElem?_cons_succ]
      refine ⟨rfl, rfl, rfl, ?_⟩
      by_cases z : e = 2
      · subst z
        exact h
      · have z' : PyData.eqv (.int e) (.int 2) = false := by
          show (e == 2) = false
          simp [z]
        rw [z']
        simp only [onB, Bool.false_eq_true, if_false]
        refine ⟨rfl, rfl, rfl, a, e - 1, rfl, oa, rfl, rfl, rfl, b, e - 1, rfl, ob, sh_eMs _, sh_eMs _, ?_⟩
        have q := eqv_eMs (minutesOf a (e - 1)) (minutesOf b (e - 1))
        rw [e3 (e - 1) (by omega) (by omega), decide_eq_true rfl] at q
        rw [e3 (e - 1) (by omega) (by omega)]
        unfold eMs at q
        rw [q]
        exact h
  · simp only [hlen, decide_false, Bool.not_false, onB, if_true, dRet, dOp, dVar, dC, List.getElem?_cons_zero, List.getElem?_cons_succ]
    rw [part_len hlen]
    exact ⟨rfl, rfl, rfl, h⟩
end DL
namespace DL
open PySem PySem.Spec PyProof.Rows L2 LamX
/-! A source made for a loop's turn. -/
def spSrc (K : PySem.W.Frag) (F : FAT) (T : List (Addr × Str)) : Sp := fun vs H Q _ => ∃ (W : Md) (b : Addr) (ns : List Int) (k : Int), vs = [.ref b, .int k] ∧ Stt K F T W [] [] H ∧ ScrAt K W H b (ns.map V.int) ∧ 0 ≤ k ∧ k ≤ 1000 ∧
  ∀ (p : Addr) (H1 : Hp) (x y : Int), H1 p = none → Go T W.s H H1 → 0 ≤ x → 0 ≤ y → y < 2147483648 → Q (.ref p) (upd H1 p (.lst [.int x, .int y]))
structure GSrc (P : Program) (w : World) (K : PySem.W.Frag) (mg : Str → Option Value) (base : Heap) (F : FAT) (T : List (Addr × Str)) (k : Nat) : Prop where
  ex : ∃ (f : Addr) (fd : FuncData) (ps : List Str), FnOk P w K mg base CX0 k f fd ps (spSrc K F T) ∧ mg "_law_source" = some (.ref f) ∧ PySem.W.keepIn K (.ref f) = true ∧ Binds K fd ps []
theorem GSrc.mono {P : Program} {w : World} {K : PySem.W.Frag} {mg : Str → Option Value} {base : Heap} {F : FAT} {T : List (Addr × Str)} {j k : Nat} (g : GSrc P w K mg base F T j) (h : j ≤ k) : GSrc P w K mg base F T k := by
  obtain ⟨f, fd, ps, a, b⟩ := g.ex
  exact ⟨f, fd, ps, a.mono h, b⟩
theorem GSrc.of {P : Program} {w : World} {K : PySem.W.Frag} {mg : Str → Option Value} {base : Heap} {F : FAT} {T : List (Addr × Str)} {k : Nat} {st : Stmt} {f : Addr} {fd : FuncData} {ps : List Str} (Fd : FnP K "_law_source" st f fd) (hm : mg "_law_source" = some (.ref f))
    (hb : ∀ (kV doc pm : Value) (an : Option Addr) (cdv ct : Value) (us : List Value), us.length = ps.length → bindArgs (PySem.W.fnOf "_law_source" "_law_source" (defArgs st) (defBody st) (defScope st) .none kV doc pm an cdv ct) ⟨us, []⟩ = pure (ps.zip us))
    (o : FnOk P w K mg base CX0 k f fd ps (spSrc K F T)) : GSrc P w K mg base F T k := ⟨f, fd, ps, o, hm, Fd.kp, Fd.bindsN hb⟩
def only (a : Nat) (ρ : Rho) : Rho := ρ.mapIdx fun j d => if j = a then d else none
theorem only_len (a : Nat) (ρ : Rho) : (only a ρ).length = ρ.length := by simp [only]
theorem only_get {a j : Nat} {ρ : Rho} {d : Dt} (h : (only a ρ)[j]? = some (some d)) : j = a ∧ ρ[j]? = some (some d) := by
  unfold only at h
  rw [List.getElem?_mapIdx] at h
  cases e : ρ[j]? with
  | none => rw [e] at h; cases h
  | some o =>
    rw [e] at h
    have h2 : (if j = a then o else none) = some d := Option.some.inj h
    by_cases q : j = a
    · rw [if_pos q] at h2; exact ⟨q, by rw [h2]⟩
    · rw [if_neg q] at h2; cases h2
def dSrcIn (i a b : Nat) (u : DTS) : DTS := fun D ρ => ∃ (ns : List Int) (k : Int), ρ[a]? = some (some (scrD (ns.map .int))) ∧ ρ[b]? = some (some (.int k)) ∧ 0 ≤ k ∧ k ≤ 1000 ∧
  u { nx := fun ρ' => ρ'[a]? = some (some (scrD (ns.map .int))) ∧ D.nx (only a ρ'), rt := fun _ => False } ((only a ρ).set i (some srcD))
theorem rp_scr {K : PySem.W.Frag} {F : FAT} {W : Md} {H : Hp} {v : V} {ns : List Int} (h : Rp K F W H v (scrD (ns.map .int))) : ∃ a, v = .ref a ∧ ScrAt K W H a (ns.map V.int) := by
  generalize e : scrD (ns.map PyData.int) = d at h
  cases h with
  | src s e1 => unfold srcD scrD at e; injection e with e; cases e
  | scr h1 =>
    rename_i a ns'
    unfold scrD at e
    injection e with e
    injection e with e _
    injection e with _ e
    injection e with e
    have : ns = ns' := by
      clear h1
      induction ns generalizing ns' with
      | nil => cases ns' with
        | nil => rfl
        | cons => cases e
      | cons x xs ih => cases ns' with
        | nil => cases e
        | cons y ys =>
          injection e with e1 e2
          injection e1 with e1
          rw [e1, ih e2]
    subst this
    exact ⟨_, rfl, h1⟩
  | fn => unfold scrD fnD at e; injection e with e; injection e with e _; injection e with e _; cases e
  | dic => unfold scrD dicD at e; injection e with e; injection e with e _; injection e with e _; cases e
  | _ => unfold scrD at e; cases e
def Md.src (W : Md) (p : Addr) : Md := ⟨fun b => W.m b ∨ b = p, fun b => W.s b ∨ b = p, fun b => W.o b ∨ b = p⟩
/-- what stands while a source at p is at hand -/
def SrcInv (Φ : Md → Hp → Prop) (W0 : Md) (p : Addr) (W : Md) (H : Hp) : Prop := W.s = (W0.src p).s ∧ W.o = (W0.src p).o ∧ W.m p ∧ ¬ W0.o p ∧ SrcAt H p ∧ Φ ⟨W.m, W0.s, W0.o⟩ H
theorem SrcInv.inva {T : List (Addr × Str)} {Φ : Md → Hp → Prop} {W0 : Md} {p : Addr} (iv : Inva T Φ) : Inva T (SrcInv Φ W0 p) := by
  refine ⟨fun W H H' ⟨es, eo, m, no, ⟨x, y, e, z⟩, f⟩ g => ?_, fun W H l u o ⟨es, eo, m, no, ⟨x, y, e, z⟩, f⟩ ml nol hl cu co => ?_, fun W H l o ⟨es, eo, m, no, ⟨x, y, e, z⟩, f⟩ hl co => ?_⟩
  · have ps : W.s p := by rw [es]; exact .inr rfl
    have sr' := g.src p ps ⟨x, y, e, z⟩
    obtain ⟨x', y', e', z'⟩ := sr'
    refine ⟨es, eo, m, no, ⟨x', y', e', z'⟩, ?_⟩
    have gm : Go T W0.s H (upd H' p (.lst [.int x, .int y])) := by
      refine ⟨fun b o q f => ?_, fun b o q f n => ?_, fun b s q => ?_, fun b q => ?_, fun t => tabs_cell (g.tabs t) e' rfl⟩
      · have nb : b ≠ p := fun z => by rw [z, e] at q; cases q; cases f
        rw [upd_ne nb]; exact g.fix b o q f
      · by_cases nb : b = p
        · subst nb; rw [upd_same, ← e]; exact q
        · rw [upd_ne nb]
          exact g.keep b o q f fun z => by
            rw [es] at z
            exact z.elim n nb
      · by_cases nb : b = p
        · subst nb; exact ⟨x, y, upd_same, z⟩
        · obtain ⟨x2, y2, q1, q2⟩ := g.src b (by rw [es]; exact .inl s) q
          exact ⟨x2, y2, by rw [upd_ne nb]; exact q1, q2⟩
      · by_cases nb : b = p
        · subst nb; rw [upd_same]; exact fun z => nomatch z
        · rw [upd_ne nb]; exact g.there b q
    have f2 := iv.cell _ _ p _ (.lst [.int x', .int y']) (iv.go _ _ _ f gm) m no upd_same rfl rfl
    rw [upd_upd] at f2
    have ee : upd H' p (.lst [.int x', .int y']) = H' := by
      funext b
      by_cases nb : b = p
      · rw [nb, upd_same, e']
      · rw [upd_ne nb]
    rw [ee] at f2
    exact f2
  · have nb : p ≠ l := fun z => nol (by rw [eo, ← z]; exact .inr rfl)
    refine ⟨es, eo, m, no, ⟨x, y, by rw [upd_ne nb]; exact e, z⟩, iv.cell _ _ l u o f ml (fun z => nol (by rw [eo]; exact .inl z)) hl cu co⟩
  · have nb : p ≠ l := fun z => by rw [← z, e] at hl; cases hl
    exact ⟨es, eo, .inl m, no, ⟨x, y, by rw [upd_ne nb]; exact e, z⟩, iv.grow _ _ l o f hl co⟩
theorem dss_src {X : Cx} {F : FAT} {T : List (Addr × Str)} {k i a b : Nat} {x : Str} {e0 e1 : Expr} {rest : List Stmt} {u : DTS} {p1 p2 p3 pos : Pos} (G : GSrc X.prog X.w X.K X.mg X.base F T k) (hr : Room k X.A) (hg : Gl X "_law_source")
    (hN : X.N.Nodup) (hi : X.N[i]? = some x) (hx : Loc X.env.scope x) (h0 : PE X e0 (tVar a)) (h1 : PE X e1 (tVar b)) (hia : i ≠ a) (hrest : DSs X F T rest u)
    (he : starEach (e0 :: [e1]) X.env = (false, eval e0 X.env) :: starEach [e1] X.env := by rfl) (he1 : starEach [e1] X.env = (false, eval e1 X.env) :: starEach [] X.env := by rfl) (hpl : (backTo p2 (starEach [e1] X.env)).any (·.1) = false := by rfl)
    (hs : swapsWith (.Call (.Name "_law_source" p1) [e0, e1] [] p2) (some (.Name x p3)) pos.line X.env = pure false := by rfl) (hf : X.fn x = true ∨ X.env.scope.names.lookup x = some .local := by first | exact .inl rfl | exact .inr rfl | assumption) :
    DSs X F T (.Assign [.Name x p3] (.Call (.Name "_law_source" p1) [e0, e1] [] p2) pos :: rest) (dSrcIn i a b u) := by
  obtain ⟨f, fd, ps, o, hm, hk, hb⟩ := G.ex
  refine PSs.cons (pss_cons (ps_set hN hi hx (pe_call (E := E0) o hr hg hm hk hb .nil pass0 (pa_cons h0 (pa_cons h1 pa_nil he1) he) (by decide) he hpl) hs hf) hrest) fun D σ H ⟨Φ, W, ρ, P, iv, hΦ, st, ⟨ns, n, q0, q1, n0, n1, h⟩, kn, kr, kb, kc⟩ => ?_
  obtain ⟨v0, s0, r0⟩ := st.env a _ q0
  obtain ⟨v1, s1, r1⟩ := st.env b _ q1
  obtain ⟨l, rfl, sc⟩ := rp_scr (srp_rp r0 rfl)
  obtain rfl := rp_int (srp_rp r1 rfl)
  refine ⟨_, s0, _, s1, W, l, ns, n, rfl, st.bare, sc, n0, n1, fun p H1 x y hp g x0 y0 y1 => ?_⟩
  have st1 := st.go g
  have nm : ¬ W.m p := st1.free hp
  have hp0 : H p = none := by
    cases q : H p with
    | none => rfl
    | some o => exact absurd hp (g.there p (by rw [q]; exact fun z => nomatch z))
  have sc1 : ScrAt X.K (W.src p) (upd H1 p (.lst [.int x, .int y])) l (ns.map V.int) := by
    refine sc.cells (W := W) (H := H) (fun b z => z.elim .inl fun z => .inr (by rw [z]; exact hp0)) (fun b o e f m => ?_) fun b o e f => ?_
    · rw [upd_ne (fun z => by rw [z, hp0] at e; cases e)]
      exact g.keep b o e f fun z => m (st.sm b z)
    · rw [upd_ne (fun z => by rw [z, hp0] at e; cases e)]
      exact g.fix b o e f
  have so : SrcAt (upd H1 p (.lst [.int x, .int y])) p := ⟨x, y, upd_same, x0, y0, y1⟩
  refine ⟨SrcInv Φ W p, W.src p, _, _, SrcInv.inva iv, ⟨rfl, rfl, .inr rfl, fun z => nm (st.om p z), so, iv.grow _ _ p _ (iv.go _ _ _ hΦ g) hp rfl⟩, ?_, h, ?_, fun _ _ _ _ _ _ _ _ h => h.elim, fun _ _ _ _ _ _ _ _ h => h.elim, fun _ _ _ _ _ _ _ _ h => h.elim⟩
  · refine ⟨by rw [List.length_set, List.length_set, only_len]; exact st.len, fun j d e => ?_, fun j k d1 d2 hn e1 e2 m1 m2 => ?_, fun c z => ?_, fun c z => z.elim (fun z => .inl (st.so c z)) .inr, fun c z => z.elim (fun z => .inl (st.om c z)) .inr, (st1.go (Go.new hp)).tabs, st.hF⟩
    · by_cases c : i = j
      · subst c
        have hlt : i < ρ.length := by
          have := (List.getElem?_eq_some_iff.mp e).1
          rw [List.length_set, only_len] at this
          exact this
        rw [List.getElem?_set_self (by rw [only_len]; exact hlt)] at e
        cases e
        refine ⟨.ref p, List.getElem?_set_self (Nat.lt_of_lt_of_le hlt st.len), ?_⟩
        exact srp_of (.src (.inr rfl) so)
      · rw [List.getElem?_set_ne c] at e ⊢
        obtain ⟨rfl, e9⟩ := only_get e
        rw [q0] at e9
        cases e9
        exact ⟨_, s0, srp_of (.scr sc1)⟩
    · have nomut : ∀ {j : Nat} {d : Dt}, ((only a ρ).set i (some srcD))[j]? = some (some d) → isMut d = false := fun {j d} e => by
        by_cases c : i = j
        · subst c
          have hlt : i < ((only a ρ).set i (some srcD)).length := (List.getElem?_eq_some_iff.mp e).1
          rw [List.length_set] at hlt
          rw [List.getElem?_set_self hlt] at e
          cases e; rfl
        · rw [List.getElem?_set_ne c] at e
          obtain ⟨rfl, e9⟩ := only_get e
          rw [q0] at e9
          cases e9; rfl
      rw [nomut e1] at m1
      cases m1
    · rcases z with z | z
      · by_cases c2 : c = p
        · rw [c2, upd_same]; exact fun z => nomatch z
        · rw [upd_ne c2]; exact g.there c (st.mok c z)
      · rw [z, upd_same]; exact fun z => nomatch z
  · intro W' σ' ρ' H' es eo ⟨_, _, m', no', so', f'⟩ st' ⟨e', h'⟩
    refine kn ⟨W'.m, W.s, W.o⟩ σ' _ H' rfl rfl f' ?_ h'
    refine ⟨by rw [only_len]; exact st'.len, fun j d e => ?_, fun j k d1 d2 hn z1 z2 m1 m2 => ?_, st'.mok, st.so, fun c z => st'.om c (by rw [eo]; exact .inl z), st'.tabs, st'.hF⟩
    · obtain ⟨rfl, e9⟩ := only_get e
      rw [e'] at e9
      cases e9
      obtain ⟨v, s3, r3⟩ := st'.env j _ e'
      obtain ⟨l3, rfl, sc3⟩ := rp_scr (srp_rp r3 rfl)
      exact ⟨_, s3, srp_of (.scr sc3)⟩
    · obtain ⟨rfl, e9⟩ := only_get z1
      rw [e'] at e9
      cases e9
      cases m1
end DL
namespace DL
open PySem PySem.Spec PyProof.Rows L2 LamX
/-! The law's source: its list is new. -/
def top (i : Nat) : Stmt := PySem.Challenge.pw_lockstairs_k08_plans_compared.main.body.getD i (.Pass ⟨0, 0, 0, 0⟩)
abbrev s__law_source : Stmt := top 49
def N__law_source : List Str := ["_law_script", "_law_k", "_law_cell"]
theorem S__law_source : FnScope N__law_source ["_law_script", "_law_k"] (defScope s__law_source) := ⟨rfl, rfl, rfl, by decide +kernel, rfl, by decide +kernel, by decide +kernel⟩
def dSrc1 : DTS := dSeq (dAsg (dC (.int 0)) (gN 2)) (dIfS (dB (dOp rLt (dVar 1) (dCb sLen (dCons (dVar 0) dNil)))) (dAsg (dCb sAbs (dCons (dCb sInt (dCons (dOp rIx (dVar 0) (dVar 1)) dNil)) dNil)) (gN 2)) dNext)
def dSrcA : DTA := dCons (dC (.int 0)) (dCons (dOp rAdd (dC (.int 1)) (dOp rMod (dCb sInt (dCons (dOp rAdd (dOp rMul (dVar 2) (dC (.int 7919))) (dOp rMul (dC (.int 104729)) (dVar 1))) dNil)) (dC (.int 2147483646)))) dNil)
def dSrcB : DTA := dCons (dVar 2) (dCons (dOp rAdd (dC (.int 1)) (dOp rMod (dCb sInt (dCons (dOp rAdd (dVar 2) (dVar 1)) dNil)) (dC (.int 2147483646)))) dNil)
theorem src1_run {ns : List Int} {k : Int} (k0 : 0 ≤ k) (R : Rho → Prop) (rt : Dt → Prop) (h : ∀ c : Int, 0 ≤ c → R [some (scrD (ns.map .int)), some (.int k), some (.int c)]) : dSrc1 { nx := R, rt := rt } (startD 3 [scrD (ns.map .int), .int k]) := by
  simp only [dSrc1, dSeq, dAsg, dC, gN, startD_2, List.replicate, List.set_cons_zero, List.set_cons_succ, dIfS, dB, dOp, dCb, dCons, dNil, dVar, List.getElem?_cons_zero, List.getElem?_cons_succ, sLen_scr, rLt, onB]
  refine ⟨rfl, rfl, ?_⟩
  by_cases hk : k < ((ns.map PyData.int).length : Int)
  · simp only [hk, decide_true, if_true]
    obtain ⟨j, rfl⟩ := Int.eq_ofNat_of_zero_le k0
    have hj : j < ns.length := by rw [List.length_map] at hk; omega
    have e : atI (ns.map PyData.int) (j : Int) = some (.int ns[j]) := by rw [atI_nat, List.getElem?_map, List.getElem?_eq_getElem hj]; rfl
    simp only [rIx_scr, e]
    refine ⟨rfl, rfl, _, rfl, ?_⟩
    simp only [sInt, sAbs, List.set_cons_zero, List.set_cons_succ]
    exact h _ (by split <;> omega)
  · simp only [hk, decide_false, Bool.false_eq_true, if_false, dNext]
    exact h 0 (by decide)
theorem d__law_source {P : Program} {w : World} {K : PySem.W.Frag} {mg : Str → Option Value} {base : Heap} {F : FAT} {T : List (Addr × Str)} {k : Nat} {f : Addr} {fd : FuncData} (Fd : FnP K "_law_source" s__law_source f fd) (b_len : mg "len" = none) (b_int : mg "int" = none) (b_abs : mg "abs" = none) :
    FnOk P w K mg base CX0 (k + 1) f fd ["_law_script", "_law_k"] (spSrc K F T) := by
  refine Fd.ok S__law_source (fun vs H Q E h => by obtain ⟨W, b, ns, k, rfl, _⟩ := h; rfl) fun cdv A outer s H vs Q E hr ⟨W, b, ns, n, hvs, st, sc, n0, n1, kq⟩ => ?_
  have hu := hr.units
  subst hvs
  have hb : PSs (cxOf CX0 P w K mg base N__law_source "_law_source" (defScope s__law_source) f cdv A outer s H E).nox (defBody s__law_source) _ := pss_cons (ds_set (F := F) (T := T) S__law_source.nd (i := 2) rfl (by first | exact .inl rfl | exact .inr rfl) de_int)
      (pss_cons (ds_if (F := F) (T := T) (dt_cmp od_lt (de_var (pv 1)) (de_blt cd_len rfl b_len boot_len (da_cons (de_var (pv 0)) da_nil))) (dss_one (ds_set S__law_source.nd (i := 2) rfl (by first | exact .inl rfl | exact .inr rfl) (de_blt cd_abs rfl b_abs boot_abs (da_cons (de_bty cd_int rfl b_int boot_int (da_cons (de_ix (de_var (pv 0)) (de_var (pv 1))) da_nil)) da_nil)))) dss_nil)
      (pss_cons (ps_if (dt_cmp (F := F) (T := T) od_lt (de_var (pv 2)) (de_op od_pow de_int de_int)) (pss_one (ps_ret (pe_lst (da_cons (F := F) (T := T) de_int (da_cons (de_op od_add de_int (de_op od_mod (de_bty cd_int rfl b_int boot_int (da_cons (de_op od_add (de_op od_mul (de_var (pv 2)) de_int) (de_op od_mul de_int (de_var (pv 1)))) da_nil)) de_int)) da_nil))))) pss_nil)
      (pss_one (ps_ret (pe_lst (da_cons (F := F) (T := T) (de_var (pv 2)) (da_cons (de_op od_add de_int (de_op od_mod (de_bty cd_int rfl b_int boot_int (da_cons (de_op od_add (de_var (pv 2)) (de_var (pv 1))) da_nil)) de_int)) da_nil)))))))
  refine ⟨_, hb.nox, ?_⟩
  have hri : RpAll K F W H [.ref b, .int n] [scrD (ns.map .int), .int n] := .cons (.scr sc) (.cons (.int n) .nil)
  have fin : ∀ (t : DTA) (W2 : Md) (σ2 : L2.St) (ρ2 : Rho) (H2 : Hp), Inner T W H W2 H2 → Stt K F T W2 σ2 ρ2 H2 → t ρ2 (fun ds => ∃ x y : Int, ds = [.int x, .int y] ∧ 0 ≤ x ∧ 0 ≤ y ∧ y < 2147483648) →
      liftA K F T t σ2 H2 (fun xs H3 => xs.length ≤ sizeLine ∧ ∀ p, H3 p = none → Q (.ref p) (upd H3 p (.lst xs))) := fun t W2 σ2 ρ2 H2 hi st2 ht => by
    refine ⟨W2, ρ2, _, st2, ht, fun vs H3 ds g r ⟨x, y, e, x0, y0, y1⟩ => ?_⟩
    subst e
    cases r with
    | cons r1 r2 =>
      cases r2 with
      | cons r2 r3 =>
        cases r3
        obtain rfl := rp_int r1
        obtain rfl := rp_int r2
        exact ⟨Nat.le_trans (show 2 ≤ 100000 by decide) line_le, fun p hp => kq p H3 x y hp (hi.2.2.1.trans (by rw [← hi.1]; exact g)) x0 y0 y1⟩
  have i0 : Inner T W H W.enter H := ⟨rfl, rfl, Go.refl T W.s H, fun b z => .inl z⟩
  have md : ∀ z : Int, 0 ≤ 1 + z.fmod 2147483646 ∧ 1 + z.fmod 2147483646 < 2147483648 := fun z => by
    have := fmod_in (i := z) (j := 2147483646) (by decide)
    omega
  refine ⟨Inner T W H, W.enter, _, _, Inner.inva st.sm, i0, st.enter hri N__law_source, src1_run n0 (fun ρ' => ∃ c : Int, ρ' = [some (scrD (ns.map .int)), some (.int n), some (.int c)] ∧ 0 ≤ c) (fun _ => False) (fun c h => ⟨c, rfl, h⟩), ?_, fun _ _ _ _ _ _ _ _ h => h.elim, fun _ _ _ _ _ _ _ _ h => h.elim, fun _ _ _ _ _ _ _ _ h => h.elim⟩
  intro W1 σ1 ρ1 H1 s1 o1 hi1 st1 q1
  refine ⟨Inner T W H, W1, ρ1, _, Inner.inva st.sm, hi1, st1, q1, ?_, fun _ _ _ _ _ _ _ _ h => h.elim, fun _ _ _ _ _ _ _ _ h => h.elim, fun _ _ _ _ _ _ _ _ h => h.elim⟩
  rintro W2 σ2 ρ2 H2 s2 o2 hi2 st2 ⟨c, rfl, c0⟩
  refine ⟨W2, _, fun _ => True, st2, ?_, fun t H3 g3 _ => ?_⟩
  · simp only [dB, dOp, dVar, dC, List.getElem?_cons_zero, List.getElem?_cons_succ, rPow, rLt, onB]
    exact ⟨rfl, ⟨by decide, by decide, by decide⟩, trivial⟩
  have hi3 : Inner T W H W2 H3 := (Inner.inva st.sm).go _ _ _ hi2 g3
  have st3 := st2.go g3
  cases t with
  | true =>
    refine fin dSrcA W2 _ _ H3 hi3 st3 ?_
    simp only [dSrcA, dCons, dNil, dB, dOp, dVar, dC, dCb, List.getElem?_cons_zero, List.getElem?_cons_succ, rAdd, rMul, rMod, sInt]
    exact ⟨rfl, .inr (by decide), rfl, .inl (by decide), by decide, 0, _, rfl, by decide, (md _).1, (md _).2⟩
  | false =>
    refine fin dSrcB W2 _ _ H3 hi3 st3 ?_
    simp only [dSrcB, dCons, dNil, dB, dOp, dVar, dC, dCb, List.getElem?_cons_zero, List.getElem?_cons_succ, rAdd, rMul, rMod, sInt]
    exact ⟨rfl, rfl, rfl, by decide, _, _, rfl, c0, (md _).1, (md _).2⟩
end DL
namespace DL
open PySem PySem.Spec PyProof.Rows L2 LamX
/-! The law of k08. -/
def t_law (sp__law_plan : DSp) (sp__law_rule : DSp) (sp__law_near : DSp) (sp__law_right : DSp) (sp_parting : DSp) (sp_alike : DSp) : DTS :=
  (dSeq (dFor (iR1 (dCons (dOp rAdd (dC (.int 1)) (dCb sMin2 (dCons (dCb sLen (dCons (dVar 0) dNil)) (dCons (dC (.int 6)) dNil)))) dNil)) (gN 1) (dSrcIn 2 0 1
  (dFor (iR1 (dCons (dC (.int 3)) dNil)) (gN 3) (dSeq (dAsg (dCall 2 sp__law_plan (dCons (dVar 2) (dCons (dC (.int 5)) dNil))) (gN 4))
  (dSeq (dAsg (dTup (dCons (dOp rIx (dVar 4) (dC (.int 0))) (dCons (dCall 1 sp__law_rule (dCons (dVar 2) dNil)) (dCons (dOp rIx (dVar 4) (dC (.int 2))) dNil)))) (gN 5))
  (dSeq (dAsg (dOp rAdd (dSl (dVar 4) dNo (dPart (dC (.int 2)))) (dTup (dCons (dSl (dOp rIx (dVar 4) (dC (.int 2))) dNo (dPart (dC (.int 1)))) dNil))) (gN 6))
  (dFor (iL (dLst (dCons (dVar 5) (dCons (dCall 2 sp__law_near (dCons (dVar 2) (dCons (dVar 4) dNil))) (dCons (dVar 4) (dCons (dVar 6) dNil)))))) (gN 7) (dIfS (dNot (dB (dCall 3 sp__law_right (dCons (dVar 2) (dCons (dVar 4) (dCons (dVar 7) dNil)))))) (dRet (dC (.bool false))) dNext))))))))
  (dSeq (dAsg (dTup (dCons (dTup (dCons (dC (.str "up")) (dCons (dC (.int 0)) (dCons (dC (.int 2)) dNil)))) (dCons (dTup (dCons (dC (.str "up")) (dCons (dC (.int 3)) (dCons (dC (.int 1)) dNil)))) (dCons (dTup (dCons (dC (.str "down")) (dCons (dC (.int 4)) (dCons (dC (.int 1)) dNil)))) dNil)))) (gN 8))
  (dSeq (dAsg (dTup (dCons (dC (.int 1)) (dCons (dTup (dCons (dC (.str "first")) dNil)) (dCons (dVar 8) dNil)))) (gN 4))
  (dSeq (dIfS (dOr (dNot (dB (dCall 2 sp_alike (dCons (dVar 4) (dCons (dTup (dCons (dC (.int 1)) (dCons (dTup (dCons (dC (.str "soon")) dNil)) (dCons (dVar 8) dNil)))) dNil))))) (dB (dOp rNe (dCall 2 sp_parting (dCons (dVar 4) (dCons (dTup (dCons (dC (.int 1)) (dCons (dTup (dCons (dC (.str "batch")) (dCons (dC (.int 1)) dNil))) (dCons (dVar 8) dNil)))) dNil))) (dC (.int 2))))) (dRet (dC (.bool false))) dNext)
  (dSeq (dIfS (dOr (dB (dOp rNe (dCall 2 sp_parting (dCons (dVar 4) (dCons (dOp rAdd (dSl (dVar 4) dNo (dPart (dC (.int 2)))) (dTup (dCons (dSl (dVar 8) dNo (dPart (dC (.int 2)))) dNil))) dNil))) (dC (.int 2)))) (dB (dOp rIsn (dCall 2 sp_parting (dCons (dVar 4) (dCons (dVar 4) dNil))) (dC .none)))) (dRet (dC (.bool false))) dNext)
  (dSeq (dAsg (dTup (dCons (dC (.int 0)) (dCons (dTup (dCons (dC (.str "soon")) dNil)) (dCons (dTup (dCons (dTup (dCons (dC (.str "up")) (dCons (dC (.int 0)) (dCons (dC (.int 1)) dNil)))) (dCons (dTup (dCons (dC (.str "up")) (dCons (dC (.int 30)) (dCons (dC (.int 1)) dNil)))) (dCons (dTup (dCons (dC (.str "down")) (dCons (dC (.int 1)) (dCons (dC (.int 1)) dNil)))) dNil)))) dNil)))) (gN 9))
  (dSeq (dIfS (dB (dOp rNe (dCall 2 sp_parting (dCons (dVar 9) (dCons (dTup (dCons (dC (.int 0)) (dCons (dTup (dCons (dC (.str "batch")) (dCons (dC (.int 1)) dNil))) (dCons (dOp rIx (dVar 9) (dC (.int 2))) dNil)))) dNil))) (dC (.int 30)))) (dRet (dC (.bool false))) dNext)
  (dSeq (dIfS (dB (dOp rNe (dCall 2 sp_parting (dCons (dVar 9) (dCons (dTup (dCons (dC (.int 0)) (dCons (dTup (dCons (dC (.str "batch")) (dCons (dC (.int 2)) dNil))) (dCons (dOp rIx (dVar 9) (dC (.int 2))) dNil)))) dNil))) (dC (.int 2)))) (dRet (dC (.bool false))) dNext)
  (dSeq (dIfS (dB (dOp rNe (dCall 2 sp_parting (dCons (dTup (dCons (dC (.int 0)) (dCons (dTup (dCons (dC (.str "first")) dNil)) (dCons (dTup (dCons (dTup (dCons (dC (.str "up")) (dCons (dC (.int 0)) (dCons (dC (.int 1)) dNil)))) dNil)) dNil)))) (dCons (dTup (dCons (dC (.int 0)) (dCons (dTup (dCons (dC (.str "first")) dNil)) (dCons (dTup (dCons (dTup (dCons (dC (.str "up")) (dCons (dC (.int 0)) (dCons (dC (.int 2)) dNil)))) dNil)) dNil)))) dNil))) (dC (.int 2)))) (dRet (dC (.bool false))) dNext)
  (dSeq (dAsg (dTup (dCons (dTup (dCons (dTup (dCons (dC (.str "up")) (dCons (dC (.int 0)) (dCons (dC (.int 1)) dNil)))) (dCons (dTup (dCons (dC (.str "down")) (dCons (dC (.int 9)) (dCons (dC (.int 1)) dNil)))) dNil))) (dCons (dTup (dCons (dTup (dCons (dC (.str "up")) (dCons (dC (.int 0)) (dCons (dC (.int 1)) dNil)))) (dCons (dTup (dCons (dC (.str "down")) (dCons (dC (.int 8)) (dCons (dC (.int 1)) dNil)))) dNil))) dNil))) (gTupD 2 (gConsD (gN 10) (gConsD (gN 11) gNilD))))
  (dRet (dOp rEq (dCall 2 sp_parting (dCons (dTup (dCons (dC (.int 0)) (dCons (dTup (dCons (dC (.str "first")) dNil)) (dCons (dVar 10) dNil)))) (dCons (dTup (dCons (dC (.int 0)) (dCons (dTup (dCons (dC (.str "first")) dNil)) (dCons (dVar 11) dNil)))) dNil))) (dC (.int 2))))))))))))))
def sp_law : DSp := fun ds P => ∃ ns : List Int, ds = [scrD (ns.map .int)] ∧ ns.length ≤ 63 ∧ P (.bool true)
abbrev bodyOthers : DTS := dIfS (dNot (dB (dCall 3 sp__law_right (dCons (dVar 2) (dCons (dVar 4) (dCons (dVar 7) dNil)))))) (dRet (dC (.bool false))) dNext
theorem loop_others {a : Plan} (oa : a.Ok) (x0 x1 x3 x5 x6 x8 x9 x10 x11 : Option Dt) (D : DEnds) : ∀ (l : List Plan) (x7 : Option Dt), (∀ q ∈ l, q.Ok) → (∀ x7, D.nx [x0, x1, some srcD, x3, some (eP a), x5, x6, x7, x8, x9, x10, x11]) →
    forW (gN 7) bodyOthers (l.map eP) D [x0, x1, some srcD, x3, some (eP a), x5, x6, x7, x8, x9, x10, x11]
  | [], x7, _, h => h x7
  | q :: l, x7, hq, h => by
    have ih := loop_others oa x0 x1 x3 x5 x6 x8 x9 x10 x11 D l (some (eP q)) (fun m hm => hq m (List.mem_cons_of_mem _ hm)) h
    simp only [List.map_cons, forW, gN, List.set_cons_zero, List.set_cons_succ, bodyOthers, dIfS, dNot, dB, dCall, dCons, dNil, dVar, List.getElem?_cons_zero, List.getElem?_cons_succ]
    refine ⟨rfl, rfl, rfl, by simp, a, q, rfl, oa, hq q (List.mem_cons_self ..), ?_⟩
    exact ih
abbrev bodyTurn : DTS := (dSeq (dAsg (dCall 2 sp__law_plan (dCons (dVar 2) (dCons (dC (.int 5)) dNil))) (gN 4))
  (dSeq (dAsg (dTup (dCons (dOp rIx (dVar 4) (dC (.int 0))) (dCons (dCall 1 sp__law_rule (dCons (dVar 2) dNil)) (dCons (dOp rIx (dVar 4) (dC (.int 2))) dNil)))) (gN 5))
  (dSeq (dAsg (dOp rAdd (dSl (dVar 4) dNo (dPart (dC (.int 2)))) (dTup (dCons (dSl (dOp rIx (dVar 4) (dC (.int 2))) dNo (dPart (dC (.int 1)))) dNil))) (gN 6))
  (dFor (iL (dLst (dCons (dVar 5) (dCons (dCall 2 sp__law_near (dCons (dVar 2) (dCons (dVar 4) dNil))) (dCons (dVar 4) (dCons (dVar 6) dNil)))))) (gN 7) bodyOthers))))
theorem cut2 (a b c : Dt) : cutL [a, b, c] none (some 2) = [a, b] := rfl
theorem turn_body (x0 x1 x3 x4 x5 x6 x7 x8 x9 x10 x11 : Option Dt) (D : DEnds) (h : ∀ x4 x5 x6 x7, D.nx [x0, x1, some srcD, x3, x4, x5, x6, x7, x8, x9, x10, x11]) : bodyTurn D [x0, x1, some srcD, x3, x4, x5, x6, x7, x8, x9, x10, x11] := by
  simp only [bodyTurn, dSeq, dAsg, dCall, dCons, dNil, dVar, dC, gN, List.set_cons_zero, List.set_cons_succ, List.getElem?_cons_zero, List.getElem?_cons_succ]
  refine ⟨rfl, rfl, 5, rfl, by decide, by decide, fun p op hp => ?_⟩
  simp only [dTup, dCons, dNil, dOp, dVar, dC, dCall, List.getElem?_cons_zero, List.getElem?_cons_succ, rIx_eP0, rIx_eP2]
  refine ⟨rfl, rfl, rfl, rfl, fun r hr => ⟨rfl, by simp [line], ?_⟩⟩
  simp only [dSl, dNo, dPart, dOp, dVar, dC, dTup, dCons, dNil, List.set_cons_zero, List.set_cons_succ, List.getElem?_cons_zero, List.getElem?_cons_succ, onI, rIx_eP2]
  refine ⟨rfl, ?_⟩
  show cutD (.tuple [.int p.gap, eRu p.rule, .tuple (p.boats.map eB)]) none (some 2) _
  simp only [cutD_tup, cut2]
  refine ⟨rfl, ?_⟩
  rw [show ((1 : Int)) = ((1 : Nat) : Int) from rfl, cut_to _ 1 (by rw [List.length_map]; exact op.len0)]
  rw [← List.map_take]
  refine ⟨by simp [line], ?_⟩
  simp only [rAdd]
  refine ⟨by simp [line], ?_⟩
  simp only [dFor, iL, dLst, dCall, dCons, dNil, dVar, List.set_cons_zero, List.set_cons_succ, List.getElem?_cons_zero, List.getElem?_cons_succ]
  refine ⟨rfl, rfl, rfl, rfl, p, rfl, op, fun q oq hq => ⟨rfl, rfl, by simp [line], ?_⟩⟩
  show forW (gN 7) bodyOthers ([⟨p.gap, r, p.boats⟩, q, p, ⟨p.gap, p.rule, p.boats.take 1⟩].map eP) D _
  refine loop_others op x0 x1 x3 _ _ x8 x9 x10 x11 D _ _ (fun z hz => ?_) fun x7 => h _ _ _ x7
  simp only [List.mem_cons, List.not_mem_nil, or_false] at hz
  rcases hz with rfl | rfl | rfl | rfl
  · exact Plan.Ok.mk' op.g0 op.g1 hr op.len0 op.len1 op.boat
  · exact oq
  · exact op
  · exact Plan.Ok.mk' op.g0 op.g1 op.ru (by rw [List.length_take]; have := op.len0; omega) (by rw [List.length_take]; have := op.len1; omega) (fun b hb => op.boat b (List.mem_of_mem_take hb))
theorem loop_turns (x0 : Option Dt) (D : DEnds) : ∀ (l : List Dt) (x1 x3 x4 x5 x6 x7 x8 x9 x10 x11 : Option Dt), (∀ x1 x3 x4 x5 x6 x7 x8 x9 x10 x11, D.nx [x0, x1, some srcD, x3, x4, x5, x6, x7, x8, x9, x10, x11]) →
    forW (gN 3) bodyTurn l D [x0, x1, some srcD, x3, x4, x5, x6, x7, x8, x9, x10, x11]
  | [], x1, x3, x4, x5, x6, x7, x8, x9, x10, x11, h => h _ _ _ _ _ _ _ _ _ _
  | d :: l, x1, x3, x4, x5, x6, x7, x8, x9, x10, x11, h => by
    simp only [forW, gN, List.set_cons_zero, List.set_cons_succ]
    exact turn_body x0 x1 (some d) x4 x5 x6 x7 x8 x9 x10 x11 _ fun x4 x5 x6 x7 => loop_turns x0 D l x1 (some d) x4 x5 x6 x7 x8 x9 x10 x11 h
abbrev bodyK : DTS := dSrcIn 2 0 1 (dFor (iR1 (dCons (dC (.int 3)) dNil)) (gN 3) bodyTurn)
theorem loop_k (ns : List Int) (D : DEnds) : ∀ (l : List Int) (x1 x2 x3 x4 x5 x6 x7 x8 x9 x10 x11 : Option Dt), (∀ k ∈ l, 0 ≤ k ∧ k ≤ 1000) → (∀ x1 x2 x3 x4 x5 x6 x7 x8 x9 x10 x11, D.nx [some (scrD (ns.map .int)), x1, x2, x3, x4, x5, x6, x7, x8, x9, x10, x11]) →
    forW (gN 1) bodyK (l.map .int) D [some (scrD (ns.map .int)), x1, x2, x3, x4, x5, x6, x7, x8, x9, x10, x11]
  | [], x1, x2, x3, x4, x5, x6, x7, x8, x9, x10, x11, _, h => h _ _ _ _ _ _ _ _ _ _ _
  | k :: l, x1, x2, x3, x4, x5, x6, x7, x8, x9, x10, x11, hk, h => by
    obtain ⟨k0, k1⟩ := hk k (List.mem_cons_self ..)
    simp only [List.map_cons, forW, gN, List.set_cons_zero, List.set_cons_succ, bodyK, dSrcIn, only, List.getElem?_cons_zero, List.getElem?_cons_succ]
    refine ⟨ns, k, rfl, rfl, k0, k1, ?_⟩
    simp only [dFor, iR1, dCons, dC, dNil]
    refine ⟨⟨by decide, by decide⟩, ?_⟩
    exact loop_turns _ _ (rngD 0 (3 : Int).toNat) _ _ _ _ _ _ _ _ _ _ fun y1 y3 y4 y5 y6 y7 y8 y9 y10 y11 => ⟨rfl, loop_k ns D l none none none none none none none none none none none (fun k hk' => hk k (List.mem_cons_of_mem _ hk')) h⟩
def okB (p : Plan) : Bool := decide (0 ≤ p.gap) && (decide (p.gap ≤ 3) && ((match p.rule with
  | .batch m => decide (1 ≤ m) && decide (m ≤ 3)
  | _ => true) && (decide (0 < p.boats.length) && (decide (p.boats.length ≤ 5) && p.boats.all fun b => decide (0 ≤ b.st) && (decide (b.st ≤ 60) && (decide (1 ≤ b.pc) && decide (b.pc ≤ 5)))))))
theorem okB_ok {p : Plan} (h : okB p = true) : p.Ok := by
  unfold okB at h
  simp only [Bool.and_eq_true, decide_eq_true_eq, List.all_eq_true] at h
  obtain ⟨h1, h2, h3, h4, h5, h6⟩ := h
  refine Plan.Ok.mk' h1 h2 ?_ h4 h5 fun b hb => ?_
  · unfold RuleOk
    split
    · rename_i m e
      rw [e] at h3
      simpa using h3
    · trivial
  · obtain ⟨a, b, c, d⟩ := h6 b hb
    exact ⟨⟨a, b⟩, c, d⟩
theorem ask_part {a b : Plan} {o : Option Int} {P : Dt → Prop} (ha : okB a = true) (hb : okB b = true) (hn : partNum a b = o) (h : P (eO o)) : sp_parting [eP a, eP b] P := ⟨a, b, rfl, okB_ok ha, okB_ok hb, fun _ => .of (okB_ok ha) (okB_ok hb), by rw [hn]; exact h⟩
theorem ask_alike {a b : Plan} {P : Dt → Prop} (ha : okB a = true) (hb : okB b = true) (hn : partNum a b = none) (h : P (.bool true)) : sp_alike [eP a, eP b] P := ⟨a, b, rfl, okB_ok ha, okB_ok hb, fun _ => .of (okB_ok ha) (okB_ok hb), by rw [hn]; exact h⟩
def pA : Plan := ⟨1, .first, [⟨false, 0, 2⟩, ⟨false, 3, 1⟩, ⟨true, 4, 1⟩]⟩
def pB : Plan := ⟨1, .soon, [⟨false, 0, 2⟩, ⟨false, 3, 1⟩, ⟨true, 4, 1⟩]⟩
def pC : Plan := ⟨1, .batch 1, [⟨false, 0, 2⟩, ⟨false, 3, 1⟩, ⟨true, 4, 1⟩]⟩
def pA2 : Plan := ⟨1, .first, [⟨false, 0, 2⟩, ⟨false, 3, 1⟩]⟩
def pS : Plan := ⟨0, .soon, [⟨false, 0, 1⟩, ⟨false, 30, 1⟩, ⟨true, 1, 1⟩]⟩
def pS1 : Plan := ⟨0, .batch 1, [⟨false, 0, 1⟩, ⟨false, 30, 1⟩, ⟨true, 1, 1⟩]⟩
def pS2 : Plan := ⟨0, .batch 2, [⟨false, 0, 1⟩, ⟨false, 30, 1⟩, ⟨true, 1, 1⟩]⟩
def pU1 : Plan := ⟨0, .first, [⟨false, 0, 1⟩]⟩
def pU2 : Plan := ⟨0, .first, [⟨false, 0, 2⟩]⟩
def pN9 : Plan := ⟨0, .first, [⟨false, 0, 1⟩, ⟨true, 9, 1⟩]⟩
def pN8 : Plan := ⟨0, .first, [⟨false, 0, 1⟩, ⟨true, 8, 1⟩]⟩
theorem n1 : partNum pA pB = none := by decide +kernel
theorem n2 : partNum pA pC = some 2 := by decide +kernel
theorem n3 : partNum pA pA2 = some 2 := by decide +kernel
theorem n4 : partNum pA pA = none := by decide +kernel
theorem n5 : partNum pS pS1 = some 30 := by decide +kernel
theorem n6 : partNum pS pS2 = some 2 := by decide +kernel
theorem n7 : partNum pU1 pU2 = some 2 := by decide +kernel
theorem n8 : partNum pN9 pN8 = some 2 := by decide +kernel
theorem seq_gen {A B : DTS} {D : DEnds} {ρ : Rho} (h : ∀ K : Rho → Prop, K = B D → A { D with nx := K } ρ) : dSeq A B D ρ := h _ rfl
theorem rI0 (a : Dt) (l : List Dt) (P : Dt → Prop) : rIx (.tuple (a :: l)) (.int 0) P = P a := by simp [rIx]
theorem rI1 (a b : Dt) (l : List Dt) (P : Dt → Prop) : rIx (.tuple (a :: b :: l)) (.int 1) P = P b := by simp [rIx]
theorem rI2 (a b c : Dt) (l : List Dt) (P : Dt → Prop) : rIx (.tuple (a :: b :: c :: l)) (.int 2) P = P c := by simp [rIx]
theorem eqv_oi (k : Int) : PyData.eqv (eO (some k)) (.int k) = true := by show (k == k) = true; simp
theorem eq_self {k : Int} {P : Dt → Prop} (h : P (.bool true)) : rEq (eO (some k)) (.int k) P := by
  refine ⟨(Gd.int _).sh, (Gd.int _).sh, ?_⟩
  have e : PyData.eqv (eO (some k)) (.int k) = true := by show (k == k) = true; simp
  rw [e]; exact h
theorem h_law : Hs 12 1 sp_law (t_law sp__law_plan sp__law_rule sp__law_near sp__law_right sp_parting sp_alike) := by
  rintro ds Q _ ⟨ns, rfl, hl, h⟩
  unfold t_law
  refine seq_gen fun K hK => ?_
  simp only [dFor, iR1, dCons, dNil, dOp, dC, dCb, dVar, startD_1, List.replicate, List.getElem?_cons_zero, sLen_scr, sMin2, rAdd, List.length_map]
  refine ⟨rfl, ?_⟩
  have hr : ∃ l : List Int, rngD 0 (1 + (if (6 : Int) < (ns.length : Int) then 6 else (ns.length : Int))).toNat = l.map .int ∧ ∀ k ∈ l, 0 ≤ k ∧ k ≤ 1000 := by
    refine ⟨(List.range (1 + (if (6 : Int) < (ns.length : Int) then 6 else (ns.length : Int))).toNat).map fun i : Nat => (i : Int), by simp [rngD], fun k hk => ?_⟩
    obtain ⟨i, hi, rfl⟩ := List.mem_map.mp hk
    rw [List.mem_range] at hi
    split at hi <;> omega
  obtain ⟨l, el, hl2⟩ := hr
  refine ⟨by unfold big; split <;> omega, ?_⟩
  rw [el]
  refine loop_k ns _ l _ _ _ _ _ _ _ _ _ _ _ hl2 fun x1 x2 x3 x4 x5 x6 x7 x8 x9 x10 x11 => ?_
  subst hK
  dsimp only
  refine seq_gen fun K hK => ?_
  try simp only [Bool.not_true, Bool.not_false, Bool.false_eq_true, if_false, if_true, dSeq, dAsg, dTup, dLst, dCons, dNil, dC, dVar, dOp, dCall, dB, onB, dIfS, dOr, dAnd, dNot, dNext, dSl, dNo, dPart, onI, cutD, gN, List.set_cons_zero, List.set_cons_succ, List.getElem?_cons_zero, List.getElem?_cons_succ]
  repeat (first | refine ⟨rfl, ?_⟩ | refine ⟨trivial, ?_⟩ | refine ⟨Nat.le_of_ble_eq_true rfl, ?_⟩)
  try simp only [rI0, rI1, rI2, cut2, rAdd, List.cons_append, List.nil_append, Bool.not_true, Bool.not_false, Bool.false_eq_true, if_false, if_true, dSeq, dAsg, dTup, dLst, dCons, dNil, dC, dVar, dOp, dCall, dB, onB, dIfS, dOr, dAnd, dNot, dNext, dSl, dNo, dPart, onI, cutD, gN, List.set_cons_zero, List.set_cons_succ, List.getElem?_cons_zero, List.getElem?_cons_succ]
  try simp only [Bool.not_true, Bool.not_false, Bool.false_eq_true, if_false, if_true, dSeq, dAsg, dTup, dLst, dCons, dNil, dC, dVar, dOp, dCall, dB, onB, dIfS, dOr, dAnd, dNot, dNext, dSl, dNo, dPart, onI, cutD, gN, List.set_cons_zero, List.set_cons_succ, List.getElem?_cons_zero, List.getElem?_cons_succ]
  repeat (first | refine ⟨rfl, ?_⟩ | refine ⟨trivial, ?_⟩ | refine ⟨Nat.le_of_ble_eq_true rfl, ?_⟩)
  show K _
  subst hK
  refine seq_gen fun K hK => ?_
  try simp only [Bool.not_true, Bool.not_false, Bool.false_eq_true, if_false, if_true, dSeq, dAsg, dTup, dLst, dCons, dNil, dC, dVar, dOp, dCall, dB, onB, dIfS, dOr, dAnd, dNot, dNext, dSl, dNo, dPart, onI, cutD, gN, List.set_cons_zero, List.set_cons_succ, List.getElem?_cons_zero, List.getElem?_cons_succ]
  repeat (first | refine ⟨rfl, ?_⟩ | refine ⟨trivial, ?_⟩ | refine ⟨Nat.le_of_ble_eq_true rfl, ?_⟩)
  try simp only [rI0, rI1, rI2, cut2, rAdd, List.cons_append, List.nil_append, Bool.not_true, Bool.not_false, Bool.false_eq_true, if_false, if_true, dSeq, dAsg, dTup, dLst, dCons, dNil, dC, dVar, dOp, dCall, dB, onB, dIfS, dOr, dAnd, dNot, dNext, dSl, dNo, dPart, onI, cutD, gN, List.set_cons_zero, List.set_cons_succ, List.getElem?_cons_zero, List.getElem?_cons_succ]
  try simp only [Bool.not_true, Bool.not_false, Bool.false_eq_true, if_false, if_true, dSeq, dAsg, dTup, dLst, dCons, dNil, dC, dVar, dOp, dCall, dB, onB, dIfS, dOr, dAnd, dNot, dNext, dSl, dNo, dPart, onI, cutD, gN, List.set_cons_zero, List.set_cons_succ, List.getElem?_cons_zero, List.getElem?_cons_succ]
  repeat (first | refine ⟨rfl, ?_⟩ | refine ⟨trivial, ?_⟩ | refine ⟨Nat.le_of_ble_eq_true rfl, ?_⟩)
  show K _
  subst hK
  refine seq_gen fun K hK => ?_
  try simp only [Bool.not_true, Bool.not_false, Bool.false_eq_true, if_false, if_true, dSeq, dAsg, dTup, dLst, dCons, dNil, dC, dVar, dOp, dCall, dB, onB, dIfS, dOr, dAnd, dNot, dNext, dSl, dNo, dPart, onI, cutD, gN, List.set_cons_zero, List.set_cons_succ, List.getElem?_cons_zero, List.getElem?_cons_succ]
  repeat (first | refine ⟨rfl, ?_⟩ | refine ⟨trivial, ?_⟩ | refine ⟨Nat.le_of_ble_eq_true rfl, ?_⟩)
  try simp only [rI0, rI1, rI2, cut2, rAdd, List.cons_append, List.nil_append, Bool.not_true, Bool.not_false, Bool.false_eq_true, if_false, if_true, dSeq, dAsg, dTup, dLst, dCons, dNil, dC, dVar, dOp, dCall, dB, onB, dIfS, dOr, dAnd, dNot, dNext, dSl, dNo, dPart, onI, cutD, gN, List.set_cons_zero, List.set_cons_succ, List.getElem?_cons_zero, List.getElem?_cons_succ]
  try simp only [Bool.not_true, Bool.not_false, Bool.false_eq_true, if_false, if_true, dSeq, dAsg, dTup, dLst, dCons, dNil, dC, dVar, dOp, dCall, dB, onB, dIfS, dOr, dAnd, dNot, dNext, dSl, dNo, dPart, onI, cutD, gN, List.set_cons_zero, List.set_cons_succ, List.getElem?_cons_zero, List.getElem?_cons_succ]
  repeat (first | refine ⟨rfl, ?_⟩ | refine ⟨trivial, ?_⟩ | refine ⟨Nat.le_of_ble_eq_true rfl, ?_⟩)
  refine ask_alike (a := pA) (b := pB) (by decide) (by decide) n1 ?_
  try simp only [Bool.not_true, Bool.not_false, Bool.false_eq_true, if_false, if_true, dSeq, dAsg, dTup, dLst, dCons, dNil, dC, dVar, dOp, dCall, dB, onB, dIfS, dOr, dAnd, dNot, dNext, dSl, dNo, dPart, onI, cutD, gN, List.set_cons_zero, List.set_cons_succ, List.getElem?_cons_zero, List.getElem?_cons_succ]
  repeat (first | refine ⟨rfl, ?_⟩ | refine ⟨trivial, ?_⟩ | refine ⟨Nat.le_of_ble_eq_true rfl, ?_⟩)
  try simp only [rI0, rI1, rI2, cut2, rAdd, List.cons_append, List.nil_append, Bool.not_true, Bool.not_false, Bool.false_eq_true, if_false, if_true, dSeq, dAsg, dTup, dLst, dCons, dNil, dC, dVar, dOp, dCall, dB, onB, dIfS, dOr, dAnd, dNot, dNext, dSl, dNo, dPart, onI, cutD, gN, List.set_cons_zero, List.set_cons_succ, List.getElem?_cons_zero, List.getElem?_cons_succ]
  try simp only [Bool.not_true, Bool.not_false, Bool.false_eq_true, if_false, if_true, dSeq, dAsg, dTup, dLst, dCons, dNil, dC, dVar, dOp, dCall, dB, onB, dIfS, dOr, dAnd, dNot, dNext, dSl, dNo, dPart, onI, cutD, gN, List.set_cons_zero, List.set_cons_succ, List.getElem?_cons_zero, List.getElem?_cons_succ]
  repeat (first | refine ⟨rfl, ?_⟩ | refine ⟨trivial, ?_⟩ | refine ⟨Nat.le_of_ble_eq_true rfl, ?_⟩)
  refine ask_part (a := pA) (b := pC) (by decide) (by decide) n2 ?_
  try simp only [Bool.not_true, Bool.not_false, Bool.false_eq_true, if_false, if_true, dSeq, dAsg, dTup, dLst, dCons, dNil, dC, dVar, dOp, dCall, dB, onB, dIfS, dOr, dAnd, dNot, dNext, dSl, dNo, dPart, onI, cutD, gN, List.set_cons_zero, List.set_cons_succ, List.getElem?_cons_zero, List.getElem?_cons_succ]
  repeat (first | refine ⟨rfl, ?_⟩ | refine ⟨trivial, ?_⟩ | refine ⟨Nat.le_of_ble_eq_true rfl, ?_⟩)
  try simp only [rI0, rI1, rI2, cut2, rAdd, List.cons_append, List.nil_append, Bool.not_true, Bool.not_false, Bool.false_eq_true, if_false, if_true, dSeq, dAsg, dTup, dLst, dCons, dNil, dC, dVar, dOp, dCall, dB, onB, dIfS, dOr, dAnd, dNot, dNext, dSl, dNo, dPart, onI, cutD, gN, List.set_cons_zero, List.set_cons_succ, List.getElem?_cons_zero, List.getElem?_cons_succ]
  try simp only [Bool.not_true, Bool.not_false, Bool.false_eq_true, if_false, if_true, dSeq, dAsg, dTup, dLst, dCons, dNil, dC, dVar, dOp, dCall, dB, onB, dIfS, dOr, dAnd, dNot, dNext, dSl, dNo, dPart, onI, cutD, gN, List.set_cons_zero, List.set_cons_succ, List.getElem?_cons_zero, List.getElem?_cons_succ]
  repeat (first | refine ⟨rfl, ?_⟩ | refine ⟨trivial, ?_⟩ | refine ⟨Nat.le_of_ble_eq_true rfl, ?_⟩)
  try simp only [eqv_oi, Bool.not_true, Bool.not_false, Bool.false_eq_true, if_false, if_true, dSeq, dAsg, dTup, dLst, dCons, dNil, dC, dVar, dOp, dCall, dB, onB, dIfS, dOr, dAnd, dNot, dNext, dSl, dNo, dPart, onI, cutD, gN, List.set_cons_zero, List.set_cons_succ, List.getElem?_cons_zero, List.getElem?_cons_succ]
  try simp only [Bool.not_true, Bool.not_false, Bool.false_eq_true, if_false, if_true, dSeq, dAsg, dTup, dLst, dCons, dNil, dC, dVar, dOp, dCall, dB, onB, dIfS, dOr, dAnd, dNot, dNext, dSl, dNo, dPart, onI, cutD, gN, List.set_cons_zero, List.set_cons_succ, List.getElem?_cons_zero, List.getElem?_cons_succ]
  repeat (first | refine ⟨rfl, ?_⟩ | refine ⟨trivial, ?_⟩ | refine ⟨Nat.le_of_ble_eq_true rfl, ?_⟩)
  show K _
  subst hK
  refine seq_gen fun K hK => ?_
  try simp only [Bool.not_true, Bool.not_false, Bool.false_eq_true, if_false, if_true, dSeq, dAsg, dTup, dLst, dCons, dNil, dC, dVar, dOp, dCall, dB, onB, dIfS, dOr, dAnd, dNot, dNext, dSl, dNo, dPart, onI, cutD, gN, List.set_cons_zero, List.set_cons_succ, List.getElem?_cons_zero, List.getElem?_cons_succ]
  repeat (first | refine ⟨rfl, ?_⟩ | refine ⟨trivial, ?_⟩ | refine ⟨Nat.le_of_ble_eq_true rfl, ?_⟩)
  try simp only [rI0, rI1, rI2, cut2, rAdd, List.cons_append, List.nil_append, Bool.not_true, Bool.not_false, Bool.false_eq_true, if_false, if_true, dSeq, dAsg, dTup, dLst, dCons, dNil, dC, dVar, dOp, dCall, dB, onB, dIfS, dOr, dAnd, dNot, dNext, dSl, dNo, dPart, onI, cutD, gN, List.set_cons_zero, List.set_cons_succ, List.getElem?_cons_zero, List.getElem?_cons_succ]
  try simp only [Bool.not_true, Bool.not_false, Bool.false_eq_true, if_false, if_true, dSeq, dAsg, dTup, dLst, dCons, dNil, dC, dVar, dOp, dCall, dB, onB, dIfS, dOr, dAnd, dNot, dNext, dSl, dNo, dPart, onI, cutD, gN, List.set_cons_zero, List.set_cons_succ, List.getElem?_cons_zero, List.getElem?_cons_succ]
  repeat (first | refine ⟨rfl, ?_⟩ | refine ⟨trivial, ?_⟩ | refine ⟨Nat.le_of_ble_eq_true rfl, ?_⟩)
  refine ask_part (a := pA) (b := pA2) (by decide) (by decide) n3 ?_
  try simp only [Bool.not_true, Bool.not_false, Bool.false_eq_true, if_false, if_true, dSeq, dAsg, dTup, dLst, dCons, dNil, dC, dVar, dOp, dCall, dB, onB, dIfS, dOr, dAnd, dNot, dNext, dSl, dNo, dPart, onI, cutD, gN, List.set_cons_zero, List.set_cons_succ, List.getElem?_cons_zero, List.getElem?_cons_succ]
  repeat (first | refine ⟨rfl, ?_⟩ | refine ⟨trivial, ?_⟩ | refine ⟨Nat.le_of_ble_eq_true rfl, ?_⟩)
  try simp only [rI0, rI1, rI2, cut2, rAdd, List.cons_append, List.nil_append, Bool.not_true, Bool.not_false, Bool.false_eq_true, if_false, if_true, dSeq, dAsg, dTup, dLst, dCons, dNil, dC, dVar, dOp, dCall, dB, onB, dIfS, dOr, dAnd, dNot, dNext, dSl, dNo, dPart, onI, cutD, gN, List.set_cons_zero, List.set_cons_succ, List.getElem?_cons_zero, List.getElem?_cons_succ]
  try simp only [Bool.not_true, Bool.not_false, Bool.false_eq_true, if_false, if_true, dSeq, dAsg, dTup, dLst, dCons, dNil, dC, dVar, dOp, dCall, dB, onB, dIfS, dOr, dAnd, dNot, dNext, dSl, dNo, dPart, onI, cutD, gN, List.set_cons_zero, List.set_cons_succ, List.getElem?_cons_zero, List.getElem?_cons_succ]
  repeat (first | refine ⟨rfl, ?_⟩ | refine ⟨trivial, ?_⟩ | refine ⟨Nat.le_of_ble_eq_true rfl, ?_⟩)
  try simp only [eqv_oi, Bool.not_true, Bool.not_false, Bool.false_eq_true, if_false, if_true, dSeq, dAsg, dTup, dLst, dCons, dNil, dC, dVar, dOp, dCall, dB, onB, dIfS, dOr, dAnd, dNot, dNext, dSl, dNo, dPart, onI, cutD, gN, List.set_cons_zero, List.set_cons_succ, List.getElem?_cons_zero, List.getElem?_cons_succ]
  try simp only [Bool.not_true, Bool.not_false, Bool.false_eq_true, if_false, if_true, dSeq, dAsg, dTup, dLst, dCons, dNil, dC, dVar, dOp, dCall, dB, onB, dIfS, dOr, dAnd, dNot, dNext, dSl, dNo, dPart, onI, cutD, gN, List.set_cons_zero, List.set_cons_succ, List.getElem?_cons_zero, List.getElem?_cons_succ]
  repeat (first | refine ⟨rfl, ?_⟩ | refine ⟨trivial, ?_⟩ | refine ⟨Nat.le_of_ble_eq_true rfl, ?_⟩)
  refine ask_part (a := pA) (b := pA) (by decide) (by decide) n4 ?_
  try simp only [Bool.not_true, Bool.not_false, Bool.false_eq_true, if_false, if_true, dSeq, dAsg, dTup, dLst, dCons, dNil, dC, dVar, dOp, dCall, dB, onB, dIfS, dOr, dAnd, dNot, dNext, dSl, dNo, dPart, onI, cutD, gN, List.set_cons_zero, List.set_cons_succ, List.getElem?_cons_zero, List.getElem?_cons_succ]
  repeat (first | refine ⟨rfl, ?_⟩ | refine ⟨trivial, ?_⟩ | refine ⟨Nat.le_of_ble_eq_true rfl, ?_⟩)
  try simp only [rI0, rI1, rI2, cut2, rAdd, List.cons_append, List.nil_append, Bool.not_true, Bool.not_false, Bool.false_eq_true, if_false, if_true, dSeq, dAsg, dTup, dLst, dCons, dNil, dC, dVar, dOp, dCall, dB, onB, dIfS, dOr, dAnd, dNot, dNext, dSl, dNo, dPart, onI, cutD, gN, List.set_cons_zero, List.set_cons_succ, List.getElem?_cons_zero, List.getElem?_cons_succ]
  try simp only [Bool.not_true, Bool.not_false, Bool.false_eq_true, if_false, if_true, dSeq, dAsg, dTup, dLst, dCons, dNil, dC, dVar, dOp, dCall, dB, onB, dIfS, dOr, dAnd, dNot, dNext, dSl, dNo, dPart, onI, cutD, gN, List.set_cons_zero, List.set_cons_succ, List.getElem?_cons_zero, List.getElem?_cons_succ]
  repeat (first | refine ⟨rfl, ?_⟩ | refine ⟨trivial, ?_⟩ | refine ⟨Nat.le_of_ble_eq_true rfl, ?_⟩)
  show K _
  subst hK
  refine seq_gen fun K hK => ?_
  try simp only [Bool.not_true, Bool.not_false, Bool.false_eq_true, if_false, if_true, dSeq, dAsg, dTup, dLst, dCons, dNil, dC, dVar, dOp, dCall, dB, onB, dIfS, dOr, dAnd, dNot, dNext, dSl, dNo, dPart, onI, cutD, gN, List.set_cons_zero, List.set_cons_succ, List.getElem?_cons_zero, List.getElem?_cons_succ]
  repeat (first | refine ⟨rfl, ?_⟩ | refine ⟨trivial, ?_⟩ | refine ⟨Nat.le_of_ble_eq_true rfl, ?_⟩)
  try simp only [rI0, rI1, rI2, cut2, rAdd, List.cons_append, List.nil_append, Bool.not_true, Bool.not_false, Bool.false_eq_true, if_false, if_true, dSeq, dAsg, dTup, dLst, dCons, dNil, dC, dVar, dOp, dCall, dB, onB, dIfS, dOr, dAnd, dNot, dNext, dSl, dNo, dPart, onI, cutD, gN, List.set_cons_zero, List.set_cons_succ, List.getElem?_cons_zero, List.getElem?_cons_succ]
  try simp only [Bool.not_true, Bool.not_false, Bool.false_eq_true, if_false, if_true, dSeq, dAsg, dTup, dLst, dCons, dNil, dC, dVar, dOp, dCall, dB, onB, dIfS, dOr, dAnd, dNot, dNext, dSl, dNo, dPart, onI, cutD, gN, List.set_cons_zero, List.set_cons_succ, List.getElem?_cons_zero, List.getElem?_cons_succ]
  repeat (first | refine ⟨rfl, ?_⟩ | refine ⟨trivial, ?_⟩ | refine ⟨Nat.le_of_ble_eq_true rfl, ?_⟩)
  show K _
  subst hK
  refine seq_gen fun K hK => ?_
  try simp only [Bool.not_true, Bool.not_false, Bool.false_eq_true, if_false, if_true, dSeq, dAsg, dTup, dLst, dCons, dNil, dC, dVar, dOp, dCall, dB, onB, dIfS, dOr, dAnd, dNot, dNext, dSl, dNo, dPart, onI, cutD, gN, List.set_cons_zero, List.set_cons_succ, List.getElem?_cons_zero, List.getElem?_cons_succ]
  repeat (first | refine ⟨rfl, ?_⟩ | refine ⟨trivial, ?_⟩ | refine ⟨Nat.le_of_ble_eq_true rfl, ?_⟩)
  try simp only [rI0, rI1, rI2, cut2, rAdd, List.cons_append, List.nil_append, Bool.not_true, Bool.not_false, Bool.false_eq_true, if_false, if_true, dSeq, dAsg, dTup, dLst, dCons, dNil, dC, dVar, dOp, dCall, dB, onB, dIfS, dOr, dAnd, dNot, dNext, dSl, dNo, dPart, onI, cutD, gN, List.set_cons_zero, List.set_cons_succ, List.getElem?_cons_zero, List.getElem?_cons_succ]
  try simp only [Bool.not_true, Bool.not_false, Bool.false_eq_true, if_false, if_true, dSeq, dAsg, dTup, dLst, dCons, dNil, dC, dVar, dOp, dCall, dB, onB, dIfS, dOr, dAnd, dNot, dNext, dSl, dNo, dPart, onI, cutD, gN, List.set_cons_zero, List.set_cons_succ, List.getElem?_cons_zero, List.getElem?_cons_succ]
  repeat (first | refine ⟨rfl, ?_⟩ | refine ⟨trivial, ?_⟩ | refine ⟨Nat.le_of_ble_eq_true rfl, ?_⟩)
  refine ask_part (a := pS) (b := pS1) (by decide) (by decide) n5 ?_
  try simp only [Bool.not_true, Bool.not_false, Bool.false_eq_true, if_false, if_true, dSeq, dAsg, dTup, dLst, dCons, dNil, dC, dVar, dOp, dCall, dB, onB, dIfS, dOr, dAnd, dNot, dNext, dSl, dNo, dPart, onI, cutD, gN, List.set_cons_zero, List.set_cons_succ, List.getElem?_cons_zero, List.getElem?_cons_succ]
  repeat (first | refine ⟨rfl, ?_⟩ | refine ⟨trivial, ?_⟩ | refine ⟨Nat.le_of_ble_eq_true rfl, ?_⟩)
  try simp only [rI0, rI1, rI2, cut2, rAdd, List.cons_append, List.nil_append, Bool.not_true, Bool.not_false, Bool.false_eq_true, if_false, if_true, dSeq, dAsg, dTup, dLst, dCons, dNil, dC, dVar, dOp, dCall, dB, onB, dIfS, dOr, dAnd, dNot, dNext, dSl, dNo, dPart, onI, cutD, gN, List.set_cons_zero, List.set_cons_succ, List.getElem?_cons_zero, List.getElem?_cons_succ]
  try simp only [Bool.not_true, Bool.not_false, Bool.false_eq_true, if_false, if_true, dSeq, dAsg, dTup, dLst, dCons, dNil, dC, dVar, dOp, dCall, dB, onB, dIfS, dOr, dAnd, dNot, dNext, dSl, dNo, dPart, onI, cutD, gN, List.set_cons_zero, List.set_cons_succ, List.getElem?_cons_zero, List.getElem?_cons_succ]
  repeat (first | refine ⟨rfl, ?_⟩ | refine ⟨trivial, ?_⟩ | refine ⟨Nat.le_of_ble_eq_true rfl, ?_⟩)
  try simp only [eqv_oi, Bool.not_true, Bool.not_false, Bool.false_eq_true, if_false, if_true, dSeq, dAsg, dTup, dLst, dCons, dNil, dC, dVar, dOp, dCall, dB, onB, dIfS, dOr, dAnd, dNot, dNext, dSl, dNo, dPart, onI, cutD, gN, List.set_cons_zero, List.set_cons_succ, List.getElem?_cons_zero, List.getElem?_cons_succ]
  try simp only [Bool.not_true, Bool.not_false, Bool.false_eq_true, if_false, if_true, dSeq, dAsg, dTup, dLst, dCons, dNil, dC, dVar, dOp, dCall, dB, onB, dIfS, dOr, dAnd, dNot, dNext, dSl, dNo, dPart, onI, cutD, gN, List.set_cons_zero, List.set_cons_succ, List.getElem?_cons_zero, List.getElem?_cons_succ]
  repeat (first | refine ⟨rfl, ?_⟩ | refine ⟨trivial, ?_⟩ | refine ⟨Nat.le_of_ble_eq_true rfl, ?_⟩)
  show K _
  subst hK
  refine seq_gen fun K hK => ?_
  try simp only [Bool.not_true, Bool.not_false, Bool.false_eq_true, if_false, if_true, dSeq, dAsg, dTup, dLst, dCons, dNil, dC, dVar, dOp, dCall, dB, onB, dIfS, dOr, dAnd, dNot, dNext, dSl, dNo, dPart, onI, cutD, gN, List.set_cons_zero, List.set_cons_succ, List.getElem?_cons_zero, List.getElem?_cons_succ]
  repeat (first | refine ⟨rfl, ?_⟩ | refine ⟨trivial, ?_⟩ | refine ⟨Nat.le_of_ble_eq_true rfl, ?_⟩)
  try simp only [rI0, rI1, rI2, cut2, rAdd, List.cons_append, List.nil_append, Bool.not_true, Bool.not_false, Bool.false_eq_true, if_false, if_true, dSeq, dAsg, dTup, dLst, dCons, dNil, dC, dVar, dOp, dCall, dB, onB, dIfS, dOr, dAnd, dNot, dNext, dSl, dNo, dPart, onI, cutD, gN, List.set_cons_zero, List.set_cons_succ, List.getElem?_cons_zero, List.getElem?_cons_succ]
  try simp only [Bool.not_true, Bool.not_false, Bool.false_eq_true, if_false, if_true, dSeq, dAsg, dTup, dLst, dCons, dNil, dC, dVar, dOp, dCall, dB, onB, dIfS, dOr, dAnd, dNot, dNext, dSl, dNo, dPart, onI, cutD, gN, List.set_cons_zero, List.set_cons_succ, List.getElem?_cons_zero, List.getElem?_cons_succ]
  repeat (first | refine ⟨rfl, ?_⟩ | refine ⟨trivial, ?_⟩ | refine ⟨Nat.le_of_ble_eq_true rfl, ?_⟩)
  refine ask_part (a := pS) (b := pS2) (by decide) (by decide) n6 ?_
  try simp only [Bool.not_true, Bool.not_false, Bool.false_eq_true, if_false, if_true, dSeq, dAsg, dTup, dLst, dCons, dNil, dC, dVar, dOp, dCall, dB, onB, dIfS, dOr, dAnd, dNot, dNext, dSl, dNo, dPart, onI, cutD, gN, List.set_cons_zero, List.set_cons_succ, List.getElem?_cons_zero, List.getElem?_cons_succ]
  repeat (first | refine ⟨rfl, ?_⟩ | refine ⟨trivial, ?_⟩ | refine ⟨Nat.le_of_ble_eq_true rfl, ?_⟩)
  try simp only [rI0, rI1, rI2, cut2, rAdd, List.cons_append, List.nil_append, Bool.not_true, Bool.not_false, Bool.false_eq_true, if_false, if_true, dSeq, dAsg, dTup, dLst, dCons, dNil, dC, dVar, dOp, dCall, dB, onB, dIfS, dOr, dAnd, dNot, dNext, dSl, dNo, dPart, onI, cutD, gN, List.set_cons_zero, List.set_cons_succ, List.getElem?_cons_zero, List.getElem?_cons_succ]
  try simp only [Bool.not_true, Bool.not_false, Bool.false_eq_true, if_false, if_true, dSeq, dAsg, dTup, dLst, dCons, dNil, dC, dVar, dOp, dCall, dB, onB, dIfS, dOr, dAnd, dNot, dNext, dSl, dNo, dPart, onI, cutD, gN, List.set_cons_zero, List.set_cons_succ, List.getElem?_cons_zero, List.getElem?_cons_succ]
  repeat (first | refine ⟨rfl, ?_⟩ | refine ⟨trivial, ?_⟩ | refine ⟨Nat.le_of_ble_eq_true rfl, ?_⟩)
  try simp only [eqv_oi, Bool.not_true, Bool.not_false, Bool.false_eq_true, if_false, if_true, dSeq, dAsg, dTup, dLst, dCons, dNil, dC, dVar, dOp, dCall, dB, onB, dIfS, dOr, dAnd, dNot, dNext, dSl, dNo, dPart, onI, cutD, gN, List.set_cons_zero, List.set_cons_succ, List.getElem?_cons_zero, List.getElem?_cons_succ]
  try simp only [Bool.not_true, Bool.not_false, Bool.false_eq_true, if_false, if_true, dSeq, dAsg, dTup, dLst, dCons, dNil, dC, dVar, dOp, dCall, dB, onB, dIfS, dOr, dAnd, dNot, dNext, dSl, dNo, dPart, onI, cutD, gN, List.set_cons_zero, List.set_cons_succ, List.getElem?_cons_zero, List.getElem?_cons_succ]
  repeat (first | refine ⟨rfl, ?_⟩ | refine ⟨trivial, ?_⟩ | refine ⟨Nat.le_of_ble_eq_true rfl, ?_⟩)
  show K _
  subst hK
  refine seq_gen fun K hK => ?_
  try simp only [Bool.not_true, Bool.not_false, Bool.false_eq_true, if_false, if_true, dSeq, dAsg, dTup, dLst, dCons, dNil, dC, dVar, dOp, dCall, dB, onB, dIfS, dOr, dAnd, dNot, dNext, dSl, dNo, dPart, onI, cutD, gN, List.set_cons_zero, List.set_cons_succ, List.getElem?_cons_zero, List.getElem?_cons_succ]
  repeat (first | refine ⟨rfl, ?_⟩ | refine ⟨trivial, ?_⟩ | refine ⟨Nat.le_of_ble_eq_true rfl, ?_⟩)
  try simp only [rI0, rI1, rI2, cut2, rAdd, List.cons_append, List.nil_append, Bool.not_true, Bool.not_false, Bool.false_eq_true, if_false, if_true, dSeq, dAsg, dTup, dLst, dCons, dNil, dC, dVar, dOp, dCall, dB, onB, dIfS, dOr, dAnd, dNot, dNext, dSl, dNo, dPart, onI, cutD, gN, List.set_cons_zero, List.set_cons_succ, List.getElem?_cons_zero, List.getElem?_cons_succ]
  try simp only [Bool.not_true, Bool.not_false, Bool.false_eq_true, if_false, if_true, dSeq, dAsg, dTup, dLst, dCons, dNil, dC, dVar, dOp, dCall, dB, onB, dIfS, dOr, dAnd, dNot, dNext, dSl, dNo, dPart, onI, cutD, gN, List.set_cons_zero, List.set_cons_succ, List.getElem?_cons_zero, List.getElem?_cons_succ]
  repeat (first | refine ⟨rfl, ?_⟩ | refine ⟨trivial, ?_⟩ | refine ⟨Nat.le_of_ble_eq_true rfl, ?_⟩)
  refine ask_part (a := pU1) (b := pU2) (by decide) (by decide) n7 ?_
  try simp only [Bool.not_true, Bool.not_false, Bool.false_eq_true, if_false, if_true, dSeq, dAsg, dTup, dLst, dCons, dNil, dC, dVar, dOp, dCall, dB, onB, dIfS, dOr, dAnd, dNot, dNext, dSl, dNo, dPart, onI, cutD, gN, List.set_cons_zero, List.set_cons_succ, List.getElem?_cons_zero, List.getElem?_cons_succ]
  repeat (first | refine ⟨rfl, ?_⟩ | refine ⟨trivial, ?_⟩ | refine ⟨Nat.le_of_ble_eq_true rfl, ?_⟩)
  try simp only [rI0, rI1, rI2, cut2, rAdd, List.cons_append, List.nil_append, Bool.not_true, Bool.not_false, Bool.false_eq_true, if_false, if_true, dSeq, dAsg, dTup, dLst, dCons, dNil, dC, dVar, dOp, dCall, dB, onB, dIfS, dOr, dAnd, dNot, dNext, dSl, dNo, dPart, onI, cutD, gN, List.set_cons_zero, List.set_cons_succ, List.getElem?_cons_zero, List.getElem?_cons_succ]
  try simp only [Bool.not_true, Bool.not_false, Bool.false_eq_true, if_false, if_true, dSeq, dAsg, dTup, dLst, dCons, dNil, dC, dVar, dOp, dCall, dB, onB, dIfS, dOr, dAnd, dNot, dNext, dSl, dNo, dPart, onI, cutD, gN, List.set_cons_zero, List.set_cons_succ, List.getElem?_cons_zero, List.getElem?_cons_succ]
  repeat (first | refine ⟨rfl, ?_⟩ | refine ⟨trivial, ?_⟩ | refine ⟨Nat.le_of_ble_eq_true rfl, ?_⟩)
  try simp only [eqv_oi, Bool.not_true, Bool.not_false, Bool.false_eq_true, if_false, if_true, dSeq, dAsg, dTup, dLst, dCons, dNil, dC, dVar, dOp, dCall, dB, onB, dIfS, dOr, dAnd, dNot, dNext, dSl, dNo, dPart, onI, cutD, gN, List.set_cons_zero, List.set_cons_succ, List.getElem?_cons_zero, List.getElem?_cons_succ]
  try simp only [Bool.not_true, Bool.not_false, Bool.false_eq_true, if_false, if_true, dSeq, dAsg, dTup, dLst, dCons, dNil, dC, dVar, dOp, dCall, dB, onB, dIfS, dOr, dAnd, dNot, dNext, dSl, dNo, dPart, onI, cutD, gN, List.set_cons_zero, List.set_cons_succ, List.getElem?_cons_zero, List.getElem?_cons_succ]
  repeat (first | refine ⟨rfl, ?_⟩ | refine ⟨trivial, ?_⟩ | refine ⟨Nat.le_of_ble_eq_true rfl, ?_⟩)
  show K _
  subst hK
  refine seq_gen fun K hK => ?_
  simp only [gTupD, gConsD, gNilD, Bool.not_true, Bool.not_false, Bool.false_eq_true, if_false, if_true, dSeq, dAsg, dTup, dLst, dCons, dNil, dC, dVar, dOp, dCall, dB, onB, dIfS, dOr, dAnd, dNot, dNext, dSl, dNo, dPart, onI, cutD, gN, List.set_cons_zero, List.set_cons_succ, List.getElem?_cons_zero, List.getElem?_cons_succ]; repeat (first | refine ⟨rfl, ?_⟩ | refine ⟨trivial, ?_⟩ | refine ⟨Nat.le_of_ble_eq_true rfl, ?_⟩)
  show K _
  subst hK
  simp only [dRet, thawR_cons, thawR_nil, Option.map_some, thaw_tuple, Bool.not_true, Bool.not_false, Bool.false_eq_true, if_false, if_true, dSeq, dAsg, dTup, dLst, dCons, dNil, dC, dVar, dOp, dCall, dB, onB, dIfS, dOr, dAnd, dNot, dNext, dSl, dNo, dPart, onI, cutD, gN, List.set_cons_zero, List.set_cons_succ, List.getElem?_cons_zero, List.getElem?_cons_succ]; repeat (first | refine ⟨rfl, ?_⟩ | refine ⟨trivial, ?_⟩ | refine ⟨Nat.le_of_ble_eq_true rfl, ?_⟩)
  refine ask_part (a := pN9) (b := pN8) (by decide) (by decide) n8 ?_
  refine eq_self ?_
  exact h
end DL
namespace DL
open PySem PySem.Spec PyProof.Rows L2 LamX
/-! What function values promise, together; code objects. -/
section
variable {P : Program} {w : World} {K : PySem.W.Frag} {mg : Str → Option Value} {base : Heap} {T : List (Addr × Str)} {Ls : List (Int × LamD)} {gs : List (Int × Addr)}
theorem CallD.mono {F : FAT} {j k : Nat} {n : Int} {ds : List Dt} {sp : DSp} (c : CallD P w K mg base F T j n ds sp) (h : j ≤ k) : CallD P w K mg base F T k n ds sp :=
  ⟨c.fat, fun A outer s H f us vs Q hr => c.run A outer s H f us vs Q (hr.mono h)⟩
/-- each number of a def stands for a function of K -/
def GsOk (K : PySem.W.Frag) (gs : List (Int × Addr)) : Prop := ∀ i f, gs.lookup i = some f → ∃ oc od fd sl, K.lookup f = some ⟨oc, od, .func fd, sl⟩
theorem fat_all (hg : GsOk K gs) {n : Int} {ds : List Dt} {h : Heap} {H : Hp} {f : Addr} (hok : HOk P w H h) (kin : K.In h) (hf : lamF K Ls gs n ds H f) : PySem.W.FnAt f h := by
  rcases hf with ⟨L, cl, c', h1, x⟩ | ⟨_, h1⟩
  · obtain ⟨⟨od, sl, pm, ctv, e⟩, _, _⟩ := hok f _ x.fn
    exact ⟨_, _, _, _, e⟩
  · obtain ⟨oc, od, fd, sl, e⟩ := hg _ _ h1
    exact ⟨_, _, _, _, kin _ _ e⟩
theorem calld_no (hg : GsOk K gs) {k : Nat} {n : Int} {ds : List Dt} {sp : DSp} (hs : ∀ args Q, ¬ sp args Q) : CallD P w K mg base (lamF K Ls gs) T k n ds sp :=
  ⟨fun h H f hok kin hf => fat_all hg hok kin hf, fun A outer s H f us vs Q hr e0 hf r ⟨W, args, Pd, st, ra, h, kk⟩ => (hs _ _ h).elim⟩
theorem calld_none {k : Nat} {n : Int} {ds : List Dt} {sp : DSp} (h1 : Ls.lookup n = none) (h2 : gs.lookup n = none) : CallD P w K mg base (lamF K Ls gs) T k n ds sp := by
  have no : ∀ {H : Hp} {f : Addr}, ¬ lamF K Ls gs n ds H f := fun {H f} h => by
    rcases h with ⟨L, cl, c', e, x⟩ | ⟨_, e⟩
    · rw [h1] at e; cases e
    · rw [h2] at e; cases e
  exact ⟨fun h H f hok kin hf => (no hf).elim, fun A outer s H f us vs Q hr e0 hf r q => (no hf).elim⟩
/-- a def as a value -/
theorem calld_def {k : Nat} {x : Str} {st : Stmt} {f : Addr} {fd : FuncData} {ps : List Str} {sp : DSp} {n : Int} {ds : List Dt} (Fd : FnP K x st f fd) (hL : Ls.lookup n = none) (hg : gs.lookup n = some f) (G : FnOk P w K mg base CX0 k f fd ps (spD K (lamF K Ls gs) T ps.length sp))
    (hb : ∀ (kV doc pm : Value) (an : Option Addr) (cdv ct : Value) (us : List Value), us.length = ps.length → bindArgs (PySem.W.fnOf x x (defArgs st) (defBody st) (defScope st) .none kV doc pm an cdv ct) ⟨us, []⟩ = pure (ps.zip us)) (hl : ∀ args Q, sp args Q → args.length = ps.length) : CallD P w K mg base (lamF K Ls gs) T k n ds sp := by
  obtain ⟨oc, od, dV, kV, doc, pm, an, cdv, ct, osl, e, lk, _⟩ := Fd.ex
  exact calld_fn (hL := hL) (hg := hg) (hlk := lk) G (Fd.bindsN hb) hl
theorem gsok_one {x : Str} {st : Stmt} {f : Addr} {fd : FuncData} (Fd : FnP K x st f fd) : ∃ oc od fd sl, K.lookup f = some ⟨oc, od, .func fd, sl⟩ := by
  obtain ⟨oc, od, dV, kV, doc, pm, an, cdv, ct, osl, e, lk, _⟩ := Fd.ex
  exact ⟨_, _, _, _, lk⟩
theorem code_of {x : Str} {st : Stmt} {fd : FuncData} (Fd : FnP K x st (He.fAd K (x, none)) fd) : fd.code = .ref (He.codeOf K (x, none)) := by
  obtain ⟨oc, od, dV, kV, doc, pm, an, cdv, ct, osl, e, lk, ci, _⟩ := Fd.ex
  obtain ⟨c, ec⟩ := He.codeIn_ref ci
  have e2 : fd.code = .ref c := by rw [e]; exact ec
  rw [e2, He.codeOf_eq lk e2]
end
/-- the end: what a head says, a law's promise -/
theorem law_end {l : PySem.W.OpenLaw} {k n : Nat} {q : Program} {loose : List Str} {XP : (Str → Option Value) → Heap → Prop} {d : DefRec} {fa : List He.Fa} {fn : List He.DefD} {ts : List He.Tab} {tf : List He.Defn} {ex : PySem.W.Frag → Bool} {x : Str} {Ls : List (Int × LamD)} {gs : PySem.W.Frag → List (Int × Addr)} {Tt : PySem.W.Frag → List (Addr × Str)} {sp : DSp}
    (hT : ∀ K, ∀ p ∈ Tt K, ∃ p' ∈ tf, p.1 = (He.cT K p').2) (hn : l.most = some n) (hn2 : n ≤ sizeLine) (hdf : d.params.defaults = []) (hr : Room k callerA) (hname : d.name = "law")
    (E : ∀ {w : World} {K : PySem.W.Frag} {h : Heap} {mg : Str → Option Value} {f : Addr}, K.In h → h.Ns mainGlobals mg → mg ("law" : Str) = some (.ref f) → He.SaysX fa fn ts tf ex w h K →
      ∃ fd : FuncData, (∀ (s : Shared) (v : Value), BindsTo s fd ⟨[v], []⟩ [(x, v)]) ∧ ∀ base : Heap, K.In base → base.Ns mainGlobals mg → (∀ p ∈ tf.map (He.cT K), TabB base mg p.1 p.2) → FnOk l.prog w K mg base CX0 k f fd [x] (spD K (lamF K Ls (gs K)) (Tt K) 1 sp))
    (hsp : ∀ ns : List Int, ns.length ≤ n → ∀ P : Dt → Prop, P (.bool true) → sp [scrD (ns.map .int)] P) :
    PySem.W.WalkO q loose XP (He.hookX 4 fa fn ts tf ex).says l.row.toRowW d [] (fun f vs => PySem.call f vs) := by
  refine walk_ofTsE (CX := fun _ => CX0) (k := k) (x := x) hn hn2 hdf hr ?_ (fun _ _ _ _ _ z => z)
  intro w mg f h ⟨K, KX, c⟩ G hmg
  rw [hname] at hmg
  obtain ⟨fd, hb, hF⟩ := E KX G hmg c
  refine ⟨K, KX, fd, tf.map (He.cT K), _, fun p hp => ?_, fun p hp => ?_, fun p hp => ?_, hb, fun H a ns hl _ hH hS => ?_, hF⟩
  · obtain ⟨p', h', rfl⟩ := List.mem_map.mp hp
    exact c.empty p' h'
  · obtain ⟨p', h', rfl⟩ := List.mem_map.mp hp
    exact c.out p' h'
  · obtain ⟨p', h', rfl⟩ := List.mem_map.mp hp
    exact PySem.W.codeHd_of_K KX (c.hd p' h')
  · refine ⟨rfl, noW, [scrD (ns.map .int)], fun d => d = .bool true, ?_, .cons (.scr ?_) .nil, hsp ns hl _ rfl, fun v H' d g r e => ?_⟩
    · refine ⟨Nat.le_refl _, fun i d e => by simp at e, fun i j d e _ q => by simp at q, fun b z => z.elim, fun b z => z.elim, fun b z => z.elim, fun p hp => ?_, lamF_ok _ _ _⟩
      obtain ⟨p', h', e⟩ := hT K p hp
      exact ⟨#[], by rw [e]; exact hH _ (List.mem_map_of_mem h'), by first | trivial | exact (fun _ h => by cases h) | simp, fun pos cv e => by cases e⟩
    · rcases hS with (hS | ⟨o, hS⟩) | hS
      · exact .inl ⟨fun z => z, hS⟩
      · exact .inr (.inl ⟨o, hS⟩)
      · exact .inr (.inr hS)
    · subst e
      exact rp_bool r
end DL
namespace DL
open PySem PySem.Spec PyProof.Rows L2 LamX
/-! Every def keeps its promise. -/
abbrev s_is_number : Stmt := top 6
def N_is_number : List Str := ["value", "least", "most"]
theorem S_is_number : FnScope N_is_number ["value", "least", "most"] (defScope s_is_number) := ⟨rfl, rfl, rfl, by decide +kernel, rfl, by decide +kernel, by decide +kernel⟩
theorem d_is_number {P : Program} {w : World} {K : PySem.W.Frag} {mg : Str → Option Value} {base : Heap} {F : FAT} {T : List (Addr × Str)} {k : Nat} {f : Addr} {fd : FuncData} (Fd : FnP K "is_number" s_is_number f fd) (b_isinstance : mg "isinstance" = none) (b_bool : mg "bool" = none) (b_int : mg "int" = none) {sp : DSp} (hsp : ∀ (ds : List Dt) (Q : Dt → Prop), ds.length = 3 → sp ds Q → t_is_number { nx := fun _ => Q .none, rt := Q } (startD 3 ds)) : FnOk P w K mg base CX0 (k + 1) f fd ["value", "least", "most"] (spD K F T 3 sp) := by
  refine fn_data (N := N_is_number) (ps := ["value", "least", "most"]) Fd S_is_number (fun cdv A outer s H E hr => ?_) hsp
  have hu := hr.units
  exact (dss_one (ds_ret (de_and (de_isi (n := "int") (by decide) rfl b_isinstance rfl b_int boot_int (de_var (pv 0))) (de_and (de_not (de_isi (n := "bool") (by decide) rfl b_isinstance rfl b_bool boot_bool (de_var (pv 0)))) (de_one (de_chain od_le od_le (de_var (pv 1)) (de_var (pv 0)) (de_var (pv 2))))))))
abbrev s_is_tuple : Stmt := top 7
def N_is_tuple : List Str := ["value", "least", "most"]
theorem S_is_tuple : FnScope N_is_tuple ["value", "least", "most"] (defScope s_is_tuple) := ⟨rfl, rfl, rfl, by decide +kernel, rfl, by decide +kernel, by decide +kernel⟩
theorem d_is_tuple {P : Program} {w : World} {K : PySem.W.Frag} {mg : Str → Option Value} {base : Heap} {F : FAT} {T : List (Addr × Str)} {k : Nat} {f : Addr} {fd : FuncData} (Fd : FnP K "is_tuple" s_is_tuple f fd) (b_len : mg "len" = none) (b_isinstance : mg "isinstance" = none) (b_tuple : mg "tuple" = none) {sp : DSp} (hsp : ∀ (ds : List Dt) (Q : Dt → Prop), ds.length = 3 → sp ds Q → t_is_tuple { nx := fun _ => Q .none, rt := Q } (startD 3 ds)) : FnOk P w K mg base CX0 (k + 1) f fd ["value", "least", "most"] (spD K F T 3 sp) := by
  refine fn_data (N := N_is_tuple) (ps := ["value", "least", "most"]) Fd S_is_tuple (fun cdv A outer s H E hr => ?_) hsp
  have hu := hr.units
  exact (dss_one (ds_ret (de_and (de_isi (n := "tuple") (by decide) rfl b_isinstance rfl b_tuple boot_tuple (de_var (pv 0))) (de_one (de_chain od_le od_le (de_var (pv 1)) (de_blt cd_len rfl b_len boot_len (da_cons (de_var (pv 0)) da_nil)) (de_var (pv 2)))))))
abbrev s_is_word : Stmt := top 8
def N_is_word : List Str := ["value", "words"]
theorem S_is_word : FnScope N_is_word ["value", "words"] (defScope s_is_word) := ⟨rfl, rfl, rfl, by decide +kernel, rfl, by decide +kernel, by decide +kernel⟩
theorem d_is_word {P : Program} {w : World} {K : PySem.W.Frag} {mg : Str → Option Value} {base : Heap} {F : FAT} {T : List (Addr × Str)} {k : Nat} {f : Addr} {fd : FuncData} (Fd : FnP K "is_word" s_is_word f fd) (b_isinstance : mg "isinstance" = none) (b_str : mg "str" = none) {sp : DSp} (hsp : ∀ (ds : List Dt) (Q : Dt → Prop), ds.length = 2 → sp ds Q → t_is_word { nx := fun _ => Q .none, rt := Q } (startD 2 ds)) : FnOk P w K mg base CX0 (k + 1) f fd ["value", "words"] (spD K F T 2 sp) := by
  refine fn_data (N := N_is_word) (ps := ["value", "words"]) Fd S_is_word (fun cdv A outer s H E hr => ?_) hsp
  have hu := hr.units
  exact (dss_one (ds_ret (de_and (de_isi (n := "str") (by decide) rfl b_isinstance rfl b_str boot_str (de_var (pv 0))) (de_one (de_cmp od_in (de_var (pv 0)) (de_var (pv 1)))))))
abbrev s_is_good_rule : Stmt := top 9
def N_is_good_rule : List Str := ["value"]
theorem S_is_good_rule : FnScope N_is_good_rule ["value"] (defScope s_is_good_rule) := ⟨rfl, rfl, rfl, by decide +kernel, rfl, by decide +kernel, by decide +kernel⟩
theorem d_is_good_rule {P : Program} {w : World} {K : PySem.W.Frag} {mg : Str → Option Value} {base : Heap} {F : FAT} {T : List (Addr × Str)} {k : Nat} {f : Addr} {fd : FuncData} (Fd : FnP K "is_good_rule" s_is_good_rule f fd) {sp_is_word : DSp} {sp_is_tuple : DSp} {sp_is_number : DSp} (g_is_word : GFn P w K mg base F T k "is_word" 2 sp_is_word) (g_is_tuple : GFn P w K mg base F T k "is_tuple" 3 sp_is_tuple) (g_is_number : GFn P w K mg base F T k "is_number" 3 sp_is_number) (b_len : mg "len" = none) {sp : DSp} (hsp : ∀ (ds : List Dt) (Q : Dt → Prop), ds.length = 1 → sp ds Q → t_is_good_rule sp_is_word sp_is_tuple sp_is_number { nx := fun _ => Q .none, rt := Q } (startD 1 ds)) : FnOk P w K mg base CX0 (k + 1) f fd ["value"] (spD K F T 1 sp) := by
  refine fn_data (N := N_is_good_rule) (ps := ["value"]) Fd S_is_good_rule (fun cdv A outer s H E hr => ?_) hsp
  have hu := hr.units
  exact (dss_cons (ds_if (dw_pt (dw_or (dt_not (dt_val (de_callG g_is_tuple hr rfl (da_cons (de_var (pv 0)) (da_cons de_int (da_cons de_int da_nil)))))) (dw_or1 (dt_not (dt_val (de_callG g_is_word hr rfl (da_cons (de_ix (de_var (pv 0)) de_int) (da_cons (de_tup (da_cons de_str (da_cons de_str (da_cons de_str da_nil)))) da_nil)))))))) (dss_one (ds_ret de_bl)) dss_nil)
  (dss_cons (ds_if (dt_cmp (od_eq hu) (de_ix (de_var (pv 0)) de_int) de_str) (dss_one (ds_ret (de_and (de_cmp (od_eq hu) (de_blt cd_len rfl b_len boot_len (da_cons (de_var (pv 0)) da_nil)) de_int) (de_one (de_callG g_is_number hr rfl (da_cons (de_ix (de_var (pv 0)) de_int) (da_cons de_int (da_cons de_int da_nil)))))))) dss_nil)
  (dss_one (ds_ret (de_cmp (od_eq hu) (de_blt cd_len rfl b_len boot_len (da_cons (de_var (pv 0)) da_nil)) de_int)))))
abbrev s_is_boat : Stmt := top 10
def N_is_boat : List Str := ["value"]
theorem S_is_boat : FnScope N_is_boat ["value"] (defScope s_is_boat) := ⟨rfl, rfl, rfl, by decide +kernel, rfl, by decide +kernel, by decide +kernel⟩
theorem d_is_boat {P : Program} {w : World} {K : PySem.W.Frag} {mg : Str → Option Value} {base : Heap} {F : FAT} {T : List (Addr × Str)} {k : Nat} {f : Addr} {fd : FuncData} (Fd : FnP K "is_boat" s_is_boat f fd) {sp_is_word : DSp} {sp_is_tuple : DSp} {sp_is_number : DSp} (g_is_word : GFn P w K mg base F T k "is_word" 2 sp_is_word) (g_is_tuple : GFn P w K mg base F T k "is_tuple" 3 sp_is_tuple) (g_is_number : GFn P w K mg base F T k "is_number" 3 sp_is_number) {a_WAYS : Addr} (c_WAYS : mg "WAYS" = some (.ref a_WAYS)) (h_WAYS : ∀ W H, Rp K F W H (.ref a_WAYS) d_WAYS) {sp : DSp} (hsp : ∀ (ds : List Dt) (Q : Dt → Prop), ds.length = 1 → sp ds Q → t_is_boat sp_is_word sp_is_tuple sp_is_number { nx := fun _ => Q .none, rt := Q } (startD 1 ds)) : FnOk P w K mg base CX0 (k + 1) f fd ["value"] (spD K F T 1 sp) := by
  refine fn_data (N := N_is_boat) (ps := ["value"]) Fd S_is_boat (fun cdv A outer s H E hr => ?_) hsp
  have hu := hr.units
  exact (dss_cons (ds_if (dw_pt (dw_or (dt_not (dt_val (de_callG g_is_tuple hr rfl (da_cons (de_var (pv 0)) (da_cons de_int (da_cons de_int da_nil)))))) (dw_or1 (dt_not (dt_val (de_callG g_is_word hr rfl (da_cons (de_ix (de_var (pv 0)) de_int) (da_cons (de_gdat rfl c_WAYS h_WAYS) da_nil)))))))) (dss_one (ds_ret de_bl)) dss_nil)
  (dss_one (ds_ret (de_and (de_callG g_is_number hr rfl (da_cons (de_ix (de_var (pv 0)) de_int) (da_cons de_int (da_cons de_int da_nil)))) (de_one (de_callG g_is_number hr rfl (da_cons (de_ix (de_var (pv 0)) de_int) (da_cons de_int (da_cons de_int da_nil)))))))))
abbrev s_is_good_plan : Stmt := top 11
def N_is_good_plan : List Str := ["value", "boat"]
theorem S_is_good_plan : FnScope N_is_good_plan ["value"] (defScope s_is_good_plan) := ⟨rfl, rfl, rfl, by decide +kernel, rfl, by decide +kernel, by decide +kernel⟩
theorem d_is_good_plan {P : Program} {w : World} {K : PySem.W.Frag} {mg : Str → Option Value} {base : Heap} {F : FAT} {T : List (Addr × Str)} {k : Nat} {f : Addr} {fd : FuncData} (Fd : FnP K "is_good_plan" s_is_good_plan f fd) {sp_is_good_rule : DSp} {sp_is_number : DSp} {sp_is_tuple : DSp} {sp_is_boat : DSp} (g_is_good_rule : GFn P w K mg base F T k "is_good_rule" 1 sp_is_good_rule) (g_is_number : GFn P w K mg base F T k "is_number" 3 sp_is_number) (g_is_tuple : GFn P w K mg base F T k "is_tuple" 3 sp_is_tuple) (g_is_boat : GFn P w K mg base F T k "is_boat" 1 sp_is_boat) (b_all : mg "all" = none) {sp : DSp} (hsp : ∀ (ds : List Dt) (Q : Dt → Prop), ds.length = 1 → sp ds Q → t_is_good_plan sp_is_good_rule sp_is_number sp_is_tuple sp_is_boat { nx := fun _ => Q .none, rt := Q } (startD 2 ds)) : FnOk P w K mg base CX0 (k + 1) f fd ["value"] (spD K F T 1 sp) := by
  refine fn_data (N := N_is_good_plan) (ps := ["value"]) Fd S_is_good_plan (fun cdv A outer s H E hr => ?_) hsp
  have hu := hr.units
  exact (dss_cons (ds_if (dw_pt (dw_or (dt_not (dt_val (de_callG g_is_tuple hr rfl (da_cons (de_var (pv 0)) (da_cons de_int (da_cons de_int da_nil)))))) (dw_or (dt_not (dt_val (de_callG g_is_number hr rfl (da_cons (de_ix (de_var (pv 0)) de_int) (da_cons de_int (da_cons de_int da_nil)))))) (dw_or1 (dt_not (dt_val (de_callG g_is_good_rule hr rfl (da_cons (de_ix (de_var (pv 0)) de_int) da_nil)))))))) (dss_one (ds_ret de_bl)) dss_nil)
  (dss_one (ds_ret (de_and (de_callG g_is_tuple hr rfl (da_cons (de_ix (de_var (pv 0)) de_int) (da_cons de_int (da_cons de_int da_nil)))) (de_one (de_blt (cd_all rfl) rfl b_all boot_all (da_cons (de_lc (own := [("boat", 1)]) rfl S_is_good_plan.nd (di_tup (de_ix (de_var (pv 0)) de_int)) (blkOk_by (N := N_is_good_plan) (sc := defScope s_is_good_plan) (own := [("boat", 1)]) (by decide +kernel)) (fun _ _ _ _ _ => (dg_name S_is_good_plan.nd (i := 1) rfl (by first | exact .inl rfl | exact .inr rfl) (by decide))) (fun _ _ _ _ _ => dts_nil) (fun _ _ _ _ _ => (de_callG g_is_boat hr rfl (da_cons (de_var (pv 1)) da_nil)))) da_nil)))))))
abbrev s_need_plan : Stmt := top 12
def N_need_plan : List Str := ["value"]
theorem S_need_plan : FnScope N_need_plan ["value"] (defScope s_need_plan) := ⟨rfl, rfl, rfl, by decide +kernel, rfl, by decide +kernel, by decide +kernel⟩
theorem d_need_plan {P : Program} {w : World} {K : PySem.W.Frag} {mg : Str → Option Value} {base : Heap} {F : FAT} {T : List (Addr × Str)} {k : Nat} {f : Addr} {fd : FuncData} (Fd : FnP K "need_plan" s_need_plan f fd) {sp_is_good_plan : DSp} (g_is_good_plan : GFn P w K mg base F T k "is_good_plan" 1 sp_is_good_plan) {sp : DSp} (hsp : ∀ (ds : List Dt) (Q : Dt → Prop), ds.length = 1 → sp ds Q → t_need_plan sp_is_good_plan { nx := fun _ => Q .none, rt := Q } (startD 1 ds)) : FnOk P w K mg base CX0 (k + 1) f fd ["value"] (spD K F T 1 sp) := by
  refine fn_data (N := N_need_plan) (ps := ["value"]) Fd S_need_plan (fun cdv A outer s H E hr => ?_) hsp
  have hu := hr.units
  exact (dss_one (ds_if (dt_not (dt_val (de_callG g_is_good_plan hr rfl (da_cons (de_var (pv 0)) da_nil)))) (dss_one ds_never) dss_nil))
abbrev s_added : Stmt := top 13
def N_added : List Str := ["one", "other"]
theorem S_added : FnScope N_added ["one", "other"] (defScope s_added) := ⟨rfl, rfl, rfl, by decide +kernel, rfl, by decide +kernel, by decide +kernel⟩
theorem d_added {P : Program} {w : World} {K : PySem.W.Frag} {mg : Str → Option Value} {base : Heap} {F : FAT} {T : List (Addr × Str)} {k : Nat} {f : Addr} {fd : FuncData} (Fd : FnP K "added" s_added f fd) {sp : DSp} (hsp : ∀ (ds : List Dt) (Q : Dt → Prop), ds.length = 2 → sp ds Q → t_added { nx := fun _ => Q .none, rt := Q } (startD 2 ds)) : FnOk P w K mg base CX0 (k + 1) f fd ["one", "other"] (spD K F T 2 sp) := by
  refine fn_data (N := N_added) (ps := ["one", "other"]) Fd S_added (fun cdv A outer s H E hr => ?_) hsp
  have hu := hr.units
  exact (dss_one (ds_ret (de_tup (da_cons (de_op od_add (de_ix (de_var (pv 0)) de_int) (de_ix (de_var (pv 1)) de_int)) (da_cons (de_op od_add (de_ix (de_var (pv 0)) de_int) (de_ix (de_var (pv 1)) de_int)) da_nil)))))
abbrev s_less : Stmt := top 14
def N_less : List Str := ["one", "other"]
theorem S_less : FnScope N_less ["one", "other"] (defScope s_less) := ⟨rfl, rfl, rfl, by decide +kernel, rfl, by decide +kernel, by decide +kernel⟩
theorem d_less {P : Program} {w : World} {K : PySem.W.Frag} {mg : Str → Option Value} {base : Heap} {F : FAT} {T : List (Addr × Str)} {k : Nat} {f : Addr} {fd : FuncData} (Fd : FnP K "less" s_less f fd) {sp : DSp} (hsp : ∀ (ds : List Dt) (Q : Dt → Prop), ds.length = 2 → sp ds Q → t_less { nx := fun _ => Q .none, rt := Q } (startD 2 ds)) : FnOk P w K mg base CX0 (k + 1) f fd ["one", "other"] (spD K F T 2 sp) := by
  refine fn_data (N := N_less) (ps := ["one", "other"]) Fd S_less (fun cdv A outer s H E hr => ?_) hsp
  have hu := hr.units
  exact (dss_one (ds_ret (de_tup (da_cons (de_op od_sub (de_ix (de_var (pv 0)) de_int) (de_ix (de_var (pv 1)) de_int)) (da_cons (de_op od_sub (de_ix (de_var (pv 0)) de_int) (de_ix (de_var (pv 1)) de_int)) da_nil)))))
abbrev s_worth : Stmt := top 15
def N_worth : List Str := ["form", "n"]
theorem S_worth : FnScope N_worth ["form", "n"] (defScope s_worth) := ⟨rfl, rfl, rfl, by decide +kernel, rfl, by decide +kernel, by decide +kernel⟩
theorem d_worth {P : Program} {w : World} {K : PySem.W.Frag} {mg : Str → Option Value} {base : Heap} {F : FAT} {T : List (Addr × Str)} {k : Nat} {f : Addr} {fd : FuncData} (Fd : FnP K "worth" s_worth f fd) {sp : DSp} (hsp : ∀ (ds : List Dt) (Q : Dt → Prop), ds.length = 2 → sp ds Q → t_worth { nx := fun _ => Q .none, rt := Q } (startD 2 ds)) : FnOk P w K mg base CX0 (k + 1) f fd ["form", "n"] (spD K F T 2 sp) := by
  refine fn_data (N := N_worth) (ps := ["form", "n"]) Fd S_worth (fun cdv A outer s H E hr => ?_) hsp
  have hu := hr.units
  exact (dss_one (ds_ret (de_op od_add (de_op od_mul (de_ix (de_var (pv 0)) de_int) (de_var (pv 1))) (de_ix (de_var (pv 0)) de_int))))
abbrev s_sign_of : Stmt := top 16
def N_sign_of : List Str := ["form", "n", "here"]
theorem S_sign_of : FnScope N_sign_of ["form", "n"] (defScope s_sign_of) := ⟨rfl, rfl, rfl, by decide +kernel, rfl, by decide +kernel, by decide +kernel⟩
theorem d_sign_of {P : Program} {w : World} {K : PySem.W.Frag} {mg : Str → Option Value} {base : Heap} {F : FAT} {T : List (Addr × Str)} {k : Nat} {f : Addr} {fd : FuncData} (Fd : FnP K "sign_of" s_sign_of f fd) {sp_worth : DSp} (g_worth : GFn P w K mg base F T k "worth" 2 sp_worth) {sp : DSp} (hsp : ∀ (ds : List Dt) (Q : Dt → Prop), ds.length = 2 → sp ds Q → t_sign_of sp_worth { nx := fun _ => Q .none, rt := Q } (startD 3 ds)) : FnOk P w K mg base CX0 (k + 1) f fd ["form", "n"] (spD K F T 2 sp) := by
  refine fn_data (N := N_sign_of) (ps := ["form", "n"]) Fd S_sign_of (fun cdv A outer s H E hr => ?_) hsp
  have hu := hr.units
  exact (dss_cons (ds_set S_sign_of.nd (i := 2) rfl (by first | exact .inl rfl | exact .inr rfl) (de_callG g_worth hr rfl (da_cons (de_var (pv 0)) (da_cons (de_var (pv 1)) da_nil))))
  (dss_one (ds_ret (de_if (dt_cmp od_gt (de_var (pv 2)) de_int) de_int (de_if (dt_cmp od_lt (de_var (pv 2)) de_int) (de_un ud_neg de_int) de_int)))))
abbrev s_same_to : Stmt := top 17
def N_same_to : List Str := ["form", "n", "sign", "more", "base"]
theorem S_same_to : FnScope N_same_to ["form", "n"] (defScope s_same_to) := ⟨rfl, rfl, rfl, by decide +kernel, rfl, by decide +kernel, by decide +kernel⟩
theorem d_same_to {P : Program} {w : World} {K : PySem.W.Frag} {mg : Str → Option Value} {base : Heap} {F : FAT} {T : List (Addr × Str)} {k : Nat} {f : Addr} {fd : FuncData} (Fd : FnP K "same_to" s_same_to f fd) {sp_sign_of : DSp} (g_sign_of : GFn P w K mg base F T k "sign_of" 2 sp_sign_of) (b_abs : mg "abs" = none) {sp : DSp} (hsp : ∀ (ds : List Dt) (Q : Dt → Prop), ds.length = 2 → sp ds Q → t_same_to sp_sign_of { nx := fun _ => Q .none, rt := Q } (startD 5 ds)) : FnOk P w K mg base CX0 (k + 1) f fd ["form", "n"] (spD K F T 2 sp) := by
  refine fn_data (N := N_same_to) (ps := ["form", "n"]) Fd S_same_to (fun cdv A outer s H E hr => ?_) hsp
  have hu := hr.units
  exact (dss_cons (ds_asg (vs := [2, 3, 4]) (de_tup (da_cons (de_callG g_sign_of hr rfl (da_cons (de_var (pv 0)) (da_cons (de_var (pv 1)) da_nil))) (da_cons (de_var (pv 0)) da_nil))) (dg_tup rfl (dgs_cons (dg_name S_same_to.nd (i := 2) rfl (by first | exact .inl rfl | exact .inr rfl) (by decide)) (dgs_cons (dg_tup rfl (dgs_cons (dg_name S_same_to.nd (i := 3) rfl (by first | exact .inl rfl | exact .inr rfl) (by decide)) (dgs_cons (dg_name S_same_to.nd (i := 4) rfl (by first | exact .inl rfl | exact .inr rfl) (by decide)) dgs_nil))) dgs_nil))))
  (dss_cons (ds_if (dw_pt (dw_or (dt_cmp (od_eq hu) (de_var (pv 3)) de_int) (dw_or1 (dw_pt (dw_and (dt_cmp (od_ne hu) (de_var (pv 2)) de_int) (dw_and1 (dt_cmp od_gt (de_op od_mul (de_var (pv 2)) (de_var (pv 3))) de_int))))))) (dss_one (ds_ret de_non)) dss_nil)
  (dss_cons (ds_if (dt_cmp (od_eq hu) (de_var (pv 2)) de_int) (dss_one (ds_ret (de_var (pv 1)))) dss_nil)
  (dss_one (ds_ret (de_op od_fdv (de_op od_sub (de_blt cd_abs rfl b_abs boot_abs (da_cons (de_var (pv 4)) da_nil)) de_int) (de_blt cd_abs rfl b_abs boot_abs (da_cons (de_var (pv 3)) da_nil))))))))
abbrev s_is_turned : Stmt := top 19
def N_is_turned : List Str := ["boats", "done", "boat"]
theorem S_is_turned : FnScope N_is_turned ["boats", "done", "boat"] (defScope s_is_turned) := ⟨rfl, rfl, rfl, by decide +kernel, rfl, by decide +kernel, by decide +kernel⟩
theorem d_is_turned {P : Program} {w : World} {K : PySem.W.Frag} {mg : Str → Option Value} {base : Heap} {F : FAT} {T : List (Addr × Str)} {k : Nat} {f : Addr} {fd : FuncData} (Fd : FnP K "is_turned" s_is_turned f fd) {sp : DSp} (hsp : ∀ (ds : List Dt) (Q : Dt → Prop), ds.length = 3 → sp ds Q → t_is_turned { nx := fun _ => Q .none, rt := Q } (startD 3 ds)) : FnOk P w K mg base CX0 (k + 1) f fd ["boats", "done", "boat"] (spD K F T 3 sp) := by
  refine fn_data (N := N_is_turned) (ps := ["boats", "done", "boat"]) Fd S_is_turned (fun cdv A outer s H E hr => ?_) hsp
  have hu := hr.units
  exact (dss_cons (ds_if (dt_cmp (od_eq hu) (de_var (pv 1)) (de_tup da_nil)) (dss_one (ds_ret (de_cmp (od_eq hu) (de_ix (de_ix (de_var (pv 0)) (de_var (pv 2))) de_int) de_str))) dss_nil)
  (dss_one (ds_ret (de_cmp (od_eq hu) (de_ix (de_ix (de_var (pv 0)) (de_ix (de_var (pv 1)) (de_un ud_neg de_int))) de_int) (de_ix (de_ix (de_var (pv 0)) (de_var (pv 2))) de_int)))))
abbrev s_step_of : Stmt := top 20
def N_step_of : List Str := ["plan", "done", "boat"]
theorem S_step_of : FnScope N_step_of ["plan", "done", "boat"] (defScope s_step_of) := ⟨rfl, rfl, rfl, by decide +kernel, rfl, by decide +kernel, by decide +kernel⟩
theorem d_step_of {P : Program} {w : World} {K : PySem.W.Frag} {mg : Str → Option Value} {base : Heap} {F : FAT} {T : List (Addr × Str)} {k : Nat} {f : Addr} {fd : FuncData} (Fd : FnP K "step_of" s_step_of f fd) {sp_is_turned : DSp} (g_is_turned : GFn P w K mg base F T k "is_turned" 3 sp_is_turned) {sp : DSp} (hsp : ∀ (ds : List Dt) (Q : Dt → Prop), ds.length = 3 → sp ds Q → t_step_of sp_is_turned { nx := fun _ => Q .none, rt := Q } (startD 3 ds)) : FnOk P w K mg base CX0 (k + 1) f fd ["plan", "done", "boat"] (spD K F T 3 sp) := by
  refine fn_data (N := N_step_of) (ps := ["plan", "done", "boat"]) Fd S_step_of (fun cdv A outer s H E hr => ?_) hsp
  have hu := hr.units
  exact (dss_one (ds_ret (de_op od_add (de_ix (de_ix (de_ix (de_var (pv 0)) de_int) (de_var (pv 2))) de_int) (de_if (dt_val (de_callG g_is_turned hr rfl (da_cons (de_ix (de_var (pv 0)) de_int) (da_cons (de_var (pv 1)) (da_cons (de_var (pv 2)) da_nil))))) (de_ix (de_var (pv 0)) de_int) de_int))))
abbrev s_bounds_of : Stmt := top 21
def N_bounds_of : List Str := ["plan", "run", "boat", "done", "times", "asked", "start", "into", "out", "step", "last"]
theorem S_bounds_of : FnScope N_bounds_of ["plan", "run", "boat"] (defScope s_bounds_of) := ⟨rfl, rfl, rfl, by decide +kernel, rfl, by decide +kernel, by decide +kernel⟩
theorem d_bounds_of {P : Program} {w : World} {K : PySem.W.Frag} {mg : Str → Option Value} {base : Heap} {F : FAT} {T : List (Addr × Str)} {k : Nat} {f : Addr} {fd : FuncData} (Fd : FnP K "bounds_of" s_bounds_of f fd) {sp_less : DSp} {sp_step_of : DSp} {sp_added : DSp} (g_less : GFn P w K mg base F T k "less" 2 sp_less) (g_step_of : GFn P w K mg base F T k "step_of" 3 sp_step_of) (g_added : GFn P w K mg base F T k "added" 2 sp_added) {sp : DSp} (hsp : ∀ (ds : List Dt) (Q : Dt → Prop), ds.length = 3 → sp ds Q → t_bounds_of sp_less sp_step_of sp_added { nx := fun _ => Q .none, rt := Q } (startD 11 ds)) : FnOk P w K mg base CX0 (k + 1) f fd ["plan", "run", "boat"] (spD K F T 3 sp) := by
  refine fn_data (N := N_bounds_of) (ps := ["plan", "run", "boat"]) Fd S_bounds_of (fun cdv A outer s H E hr => ?_) hsp
  have hu := hr.units
  exact (dss_cons (ds_asg (vs := [3, 4, 5]) (de_var (pv 1)) (dg_tup rfl (dgs_cons (dg_name S_bounds_of.nd (i := 3) rfl (by first | exact .inl rfl | exact .inr rfl) (by decide)) (dgs_cons (dg_name S_bounds_of.nd (i := 4) rfl (by first | exact .inl rfl | exact .inr rfl) (by decide)) (dgs_cons (dg_name S_bounds_of.nd (i := 5) rfl (by first | exact .inl rfl | exact .inr rfl) (by decide)) dgs_nil)))))
  (dss_cons (ds_set S_bounds_of.nd (i := 6) rfl (by first | exact .inl rfl | exact .inr rfl) (de_tup (da_cons de_int (da_cons (de_ix (de_ix (de_ix (de_var (pv 0)) de_int) (de_var (pv 2))) de_int) da_nil))))
  (dss_cons (ds_if (dt_cmp (od_eq hu) (de_var (pv 3)) (de_tup da_nil)) (dss_one (ds_ret (de_lst (da_cons (de_var (pv 6)) da_nil)))) dss_nil)
  (dss_cons (ds_asg (vs := [7, 8]) (de_ix (de_var (pv 4)) (de_un ud_neg de_int)) (dg_tup rfl (dgs_cons (dg_name S_bounds_of.nd (i := 7) rfl (by first | exact .inl rfl | exact .inr rfl) (by decide)) (dgs_cons (dg_name S_bounds_of.nd (i := 8) rfl (by first | exact .inl rfl | exact .inr rfl) (by decide)) dgs_nil))))
  (dss_cons (ds_if (dt_cmp (od_ne hu) (de_ix (de_ix (de_ix (de_var (pv 0)) de_int) (de_ix (de_var (pv 3)) (de_un ud_neg de_int))) de_int) (de_ix (de_ix (de_ix (de_var (pv 0)) de_int) (de_var (pv 2))) de_int)) (dss_one (ds_ret (de_lst (da_cons (de_var (pv 6)) (da_cons (de_var (pv 8)) da_nil))))) dss_nil)
  (dss_cons (ds_par rfl S_bounds_of.nd (i := 9) (j := 10) rfl rfl (by decide) rfl rfl (da_cons (de_callG g_step_of hr rfl (da_cons (de_var (pv 0)) (da_cons (de_var (pv 3)) (da_cons (de_var (pv 2)) da_nil)))) (da_cons (de_callG g_less hr rfl (da_cons (de_var (pv 8)) (da_cons (de_var (pv 7)) da_nil))) da_nil)) rfl)
  (dss_one (ds_ret (de_lst (da_cons (de_var (pv 6)) (da_cons (de_callG g_added hr rfl (da_cons (de_var (pv 7)) (da_cons (de_tup (da_cons de_int (da_cons (de_ix (de_var (pv 10)) de_int) da_nil))) da_nil))) (da_cons (de_callG g_added hr rfl (da_cons (de_var (pv 8)) (da_cons (de_tup (da_cons (de_un ud_neg (de_var (pv 9))) (da_cons (de_var (pv 9)) da_nil))) da_nil))) da_nil))))))))))))
abbrev s_top_form : Stmt := top 22
def N_top_form : List Str := ["forms", "n", "best", "asked", "form"]
theorem S_top_form : FnScope N_top_form ["forms", "n"] (defScope s_top_form) := ⟨rfl, rfl, rfl, by decide +kernel, rfl, by decide +kernel, by decide +kernel⟩
theorem d_top_form {P : Program} {w : World} {K : PySem.W.Frag} {mg : Str → Option Value} {base : Heap} {F : FAT} {T : List (Addr × Str)} {k : Nat} {f : Addr} {fd : FuncData} (Fd : FnP K "top_form" s_top_form f fd) {sp_less : DSp} {sp_sign_of : DSp} (g_less : GFn P w K mg base F T k "less" 2 sp_less) (g_sign_of : GFn P w K mg base F T k "sign_of" 2 sp_sign_of) {sp : DSp} (hsp : ∀ (ds : List Dt) (Q : Dt → Prop), ds.length = 2 → sp ds Q → t_top_form sp_less sp_sign_of { nx := fun _ => Q .none, rt := Q } (startD 5 ds)) : FnOk P w K mg base CX0 (k + 1) f fd ["forms", "n"] (spD K F T 2 sp) := by
  refine fn_data (N := N_top_form) (ps := ["forms", "n"]) Fd S_top_form (fun cdv A outer s H E hr => ?_) hsp
  have hu := hr.units
  exact (dss_cons (ds_par rfl S_top_form.nd (i := 2) (j := 3) rfl rfl (by decide) rfl rfl (da_cons (de_ix (de_var (pv 0)) de_int) (da_cons (de_tup da_nil) da_nil)) rfl)
  (dss_cons (ds_for (vs := [4]) PassesOwn.never rfl (di_list (de_slice (de_var (pv 0)) (do_some de_int) do_none)) (dg_name S_top_form.nd (i := 4) rfl (by first | exact .inl rfl | exact .inr rfl) (by decide)) (dss_cons (ds_set S_top_form.nd (i := 3) rfl (by first | exact .inl rfl | exact .inr rfl) (de_op od_add (de_var (pv 3)) (de_tup (da_cons (de_callG g_less hr rfl (da_cons (de_var (pv 4)) (da_cons (de_var (pv 2)) da_nil))) da_nil))))
  (dss_one (ds_set S_top_form.nd (i := 2) rfl (by first | exact .inl rfl | exact .inr rfl) (de_if (dt_cmp od_gt (de_callG g_sign_of hr rfl (da_cons (de_ix (de_var (pv 3)) (de_un ud_neg de_int)) (da_cons (de_var (pv 1)) da_nil))) de_int) (de_var (pv 4)) (de_var (pv 2)))))))
  (dss_one (ds_ret (de_tup (da_cons (de_var (pv 2)) (da_cons (de_var (pv 3)) da_nil)))))))
abbrev s_head_of : Stmt := top 23
def N_head_of : List Str := ["boats", "way", "left", "some", "boat"]
theorem S_head_of : FnScope N_head_of ["boats", "way", "left"] (defScope s_head_of) := ⟨rfl, rfl, rfl, by decide +kernel, rfl, by decide +kernel, by decide +kernel⟩
theorem d_head_of {P : Program} {w : World} {K : PySem.W.Frag} {mg : Str → Option Value} {base : Heap} {F : FAT} {T : List (Addr × Str)} {k : Nat} {f : Addr} {fd : FuncData} (Fd : FnP K "head_of" s_head_of f fd) (b_int : mg "int" = none) (b_sorted : mg "sorted" = none) {sp : DSp} (hsp : ∀ (ds : List Dt) (Q : Dt → Prop), ds.length = 3 → sp ds Q → t_head_of { nx := fun _ => Q .none, rt := Q } (startD 5 ds)) : FnOk P w K mg base CX0 (k + 1) f fd ["boats", "way", "left"] (spD K F T 3 sp) := by
  refine fn_data (N := N_head_of) (ps := ["boats", "way", "left"]) Fd S_head_of (fun cdv A outer s H E hr => ?_) hsp
  have hu := hr.units
  exact (dss_cons (ds_set S_head_of.nd (i := 3) rfl (by first | exact .inl rfl | exact .inr rfl) (de_blt (cd_sort hu) rfl b_sorted boot_sorted (da_cons (de_lc (own := [("boat", 4)]) rfl S_head_of.nd (di_list (de_var (pv 2))) (blkOk_by (N := N_head_of) (sc := defScope s_head_of) (own := [("boat", 4)]) (by decide +kernel)) (fun _ _ _ _ _ => (dg_name S_head_of.nd (i := 4) rfl (by first | exact .inl rfl | exact .inr rfl) (by decide))) (fun _ _ _ _ _ => (dts_one (dt_cmp (od_eq hu) (de_ix (de_ix (de_var (pv 0)) (de_var (pv 4))) de_int) (de_var (pv 1))))) (fun _ _ _ _ _ => (de_tup (da_cons (de_bty cd_int rfl b_int boot_int (da_cons (de_ix (de_ix (de_var (pv 0)) (de_var (pv 4))) de_int) da_nil)) (da_cons (de_bty cd_int rfl b_int boot_int (da_cons (de_var (pv 4)) da_nil)) da_nil))))) da_nil)))
  (dss_one (ds_ret (de_if (dt_cmp (od_ne hu) (de_var (pv 3)) (de_lst da_nil)) (de_ix (de_ix (de_var (pv 3)) de_int) de_int) de_non))))
abbrev s_row_behind : Stmt := top 24
def N_row_behind : List Str := ["boats", "done", "found", "boat"]
theorem S_row_behind : FnScope N_row_behind ["boats", "done"] (defScope s_row_behind) := ⟨rfl, rfl, rfl, by decide +kernel, rfl, by decide +kernel, by decide +kernel⟩
theorem d_row_behind {P : Program} {w : World} {K : PySem.W.Frag} {mg : Str → Option Value} {base : Heap} {F : FAT} {T : List (Addr × Str)} {k : Nat} {f : Addr} {fd : FuncData} (Fd : FnP K "row_behind" s_row_behind f fd) {sp : DSp} (hsp : ∀ (ds : List Dt) (Q : Dt → Prop), ds.length = 2 → sp ds Q → t_row_behind { nx := fun _ => Q .none, rt := Q } (startD 4 ds)) : FnOk P w K mg base CX0 (k + 1) f fd ["boats", "done"] (spD K F T 2 sp) := by
  refine fn_data (N := N_row_behind) (ps := ["boats", "done"]) Fd S_row_behind (fun cdv A outer s H E hr => ?_) hsp
  have hu := hr.units
  exact (dss_cons (ds_set S_row_behind.nd (i := 2) rfl (by first | exact .inl rfl | exact .inr rfl) de_int)
  (dss_cons (ds_for (vs := [3]) PassesOwn.never rfl (di_tup (de_rev (de_var (pv 1)))) (dg_name S_row_behind.nd (i := 3) rfl (by first | exact .inl rfl | exact .inr rfl) (by decide)) (dss_cons (ds_if (dt_cmp (od_ne hu) (de_ix (de_ix (de_var (pv 0)) (de_var (pv 3))) de_int) (de_ix (de_ix (de_var (pv 0)) (de_ix (de_var (pv 1)) (de_un ud_neg de_int))) de_int)) (dss_one (ds_ret (de_var (pv 2)))) dss_nil)
  (dss_one (ds_set S_row_behind.nd (i := 2) rfl (by first | exact .inl rfl | exact .inr rfl) (de_op od_add (de_var (pv 2)) de_int)))))
  (dss_one (ds_ret (de_var (pv 2))))))
abbrev s_earlier_start : Stmt := top 25
def N_earlier_start : List Str := ["boats", "heads", "boat"]
theorem S_earlier_start : FnScope N_earlier_start ["boats", "heads"] (defScope s_earlier_start) := ⟨rfl, rfl, rfl, by decide +kernel, rfl, by decide +kernel, by decide +kernel⟩
theorem d_earlier_start {P : Program} {w : World} {K : PySem.W.Frag} {mg : Str → Option Value} {base : Heap} {F : FAT} {T : List (Addr × Str)} {k : Nat} {f : Addr} {fd : FuncData} (Fd : FnP K "earlier_start" s_earlier_start f fd) (b_int : mg "int" = none) (b_sorted : mg "sorted" = none) {sp : DSp} (hsp : ∀ (ds : List Dt) (Q : Dt → Prop), ds.length = 2 → sp ds Q → t_earlier_start { nx := fun _ => Q .none, rt := Q } (startD 3 ds)) : FnOk P w K mg base CX0 (k + 1) f fd ["boats", "heads"] (spD K F T 2 sp) := by
  refine fn_data (N := N_earlier_start) (ps := ["boats", "heads"]) Fd S_earlier_start (fun cdv A outer s H E hr => ?_) hsp
  have hu := hr.units
  exact (dss_one (ds_ret (de_ix (de_ix (de_blt (cd_sort hu) rfl b_sorted boot_sorted (da_cons (de_lc (own := [("boat", 2)]) rfl S_earlier_start.nd (di_list (de_var (pv 1))) (blkOk_by (N := N_earlier_start) (sc := defScope s_earlier_start) (own := [("boat", 2)]) (by decide +kernel)) (fun _ _ _ _ _ => (dg_name S_earlier_start.nd (i := 2) rfl (by first | exact .inl rfl | exact .inr rfl) (by decide))) (fun _ _ _ _ _ => dts_nil) (fun _ _ _ _ _ => (de_tup (da_cons (de_bty cd_int rfl b_int boot_int (da_cons (de_ix (de_ix (de_var (pv 0)) (de_var (pv 2))) de_int) da_nil)) (da_cons (de_bty cd_int rfl b_int boot_int (da_cons (de_var (pv 2)) da_nil)) da_nil))))) da_nil)) de_int) de_int)))
abbrev s_next_soon : Stmt := top 26
def N_next_soon : List Str := ["plan", "run", "heads", "n", "found", "asked", "boat", "form", "more", "gap", "sign", "same"]
theorem S_next_soon : FnScope N_next_soon ["plan", "run", "heads", "n"] (defScope s_next_soon) := ⟨rfl, rfl, rfl, by decide +kernel, rfl, by decide +kernel, by decide +kernel⟩
theorem d_next_soon {P : Program} {w : World} {K : PySem.W.Frag} {mg : Str → Option Value} {base : Heap} {F : FAT} {T : List (Addr × Str)} {k : Nat} {f : Addr} {fd : FuncData} (Fd : FnP K "next_soon" s_next_soon f fd) {sp_top_form : DSp} {sp_bounds_of : DSp} {sp_less : DSp} {sp_sign_of : DSp} (g_top_form : GFn P w K mg base F T k "top_form" 2 sp_top_form) (g_bounds_of : GFn P w K mg base F T k "bounds_of" 3 sp_bounds_of) (g_less : GFn P w K mg base F T k "less" 2 sp_less) (g_sign_of : GFn P w K mg base F T k "sign_of" 2 sp_sign_of) (b_int : mg "int" = none) (b_min : mg "min" = none) {sp : DSp} (hsp : ∀ (ds : List Dt) (Q : Dt → Prop), ds.length = 4 → sp ds Q → t_next_soon sp_top_form sp_bounds_of sp_less sp_sign_of { nx := fun _ => Q .none, rt := Q } (startD 12 ds)) : FnOk P w K mg base CX0 (k + 1) f fd ["plan", "run", "heads", "n"] (spD K F T 4 sp) := by
  refine fn_data (N := N_next_soon) (ps := ["plan", "run", "heads", "n"]) Fd S_next_soon (fun cdv A outer s H E hr => ?_) hsp
  have hu := hr.units
  exact (dss_cons (ds_par rfl S_next_soon.nd (i := 4) (j := 5) rfl rfl (by decide) rfl rfl (da_cons (de_lst da_nil) (da_cons (de_tup da_nil) da_nil)) rfl)
  (dss_cons (ds_for (vs := [6]) PassesOwn.never rfl (di_list (de_var (pv 2))) (dg_name S_next_soon.nd (i := 6) rfl (by first | exact .inl rfl | exact .inr rfl) (by decide)) (dss_cons (ds_asg (vs := [7, 8]) (de_callG g_top_form hr rfl (da_cons (de_callG g_bounds_of hr rfl (da_cons (de_var (pv 0)) (da_cons (de_var (pv 1)) (da_cons (de_var (pv 6)) da_nil)))) (da_cons (de_var (pv 3)) da_nil))) (dg_tup rfl (dgs_cons (dg_name S_next_soon.nd (i := 7) rfl (by first | exact .inl rfl | exact .inr rfl) (by decide)) (dgs_cons (dg_name S_next_soon.nd (i := 8) rfl (by first | exact .inl rfl | exact .inr rfl) (by decide)) dgs_nil))))
  (dss_one (ds_par rfl S_next_soon.nd (i := 4) (j := 5) rfl rfl (by decide) rfl rfl (da_cons (de_op od_add (de_var (pv 4)) (de_lst (da_cons (de_var (pv 7)) da_nil))) (da_cons (de_op od_add (de_var (pv 5)) (de_var (pv 8))) da_nil)) rfl))))
  (dss_cons (ds_set S_next_soon.nd (i := 9) rfl (by first | exact .inl rfl | exact .inr rfl) (de_callG g_less hr rfl (da_cons (de_ix (de_var (pv 4)) de_int) (da_cons (de_ix (de_var (pv 4)) de_int) da_nil))))
  (dss_cons (ds_set S_next_soon.nd (i := 10) rfl (by first | exact .inl rfl | exact .inr rfl) (de_callG g_sign_of hr rfl (da_cons (de_var (pv 9)) (da_cons (de_var (pv 3)) da_nil))))
  (dss_cons (ds_if (dt_cmp (od_ne hu) (de_var (pv 10)) de_int) (dss_one (ds_ret (de_tup (da_cons (de_if (dt_cmp od_lt (de_var (pv 10)) de_int) (de_ix (de_var (pv 2)) de_int) (de_ix (de_var (pv 2)) de_int)) (da_cons (de_op od_add (de_var (pv 5)) (de_tup (da_cons (de_var (pv 9)) da_nil))) da_nil))))) dss_nil)
  (dss_cons (ds_setLc (own := [("boat", 6)]) rfl S_next_soon.nd (i := 11) rfl rfl (sw_true rfl rfl rfl (by decide +kernel)) (di_list (de_var (pv 2))) (blkOk_by (N := N_next_soon) (sc := defScope s_next_soon) (own := [("boat", 6)]) (by decide +kernel)) (fun _ _ _ _ _ => (dg_name S_next_soon.nd (i := 6) rfl (by first | exact .inl rfl | exact .inr rfl) (by decide))) (fun _ _ _ _ _ => (dts_one (dw_pt (dw_and (dt_cmp (od_ne hu) (de_ix (de_var (pv 1)) de_int) (de_tup da_nil)) (dw_and1 (dt_cmp (od_eq hu) (de_ix (de_ix (de_ix (de_var (pv 0)) de_int) (de_var (pv 6))) de_int) (de_ix (de_ix (de_ix (de_var (pv 0)) de_int) (de_ix (de_ix (de_var (pv 1)) de_int) (de_un ud_neg de_int))) de_int))))))) (fun _ _ _ _ _ => (de_var (pv 6))))
  (dss_one (ds_ret (de_tup (da_cons (de_if (dt_cmp (od_ne hu) (de_var (pv 11)) (de_lst da_nil)) (de_ix (de_var (pv 11)) de_int) (de_blt (cd_min2 rfl) rfl b_min boot_min (da_cons (de_bty cd_int rfl b_int boot_int (da_cons (de_ix (de_var (pv 2)) de_int) da_nil)) (da_cons (de_bty cd_int rfl b_int boot_int (da_cons (de_ix (de_var (pv 2)) de_int) da_nil)) da_nil)))) (da_cons (de_op od_add (de_var (pv 5)) (de_tup (da_cons (de_var (pv 9)) da_nil))) da_nil)))))))))))
abbrev s_next_boat : Stmt := top 27
def N_next_boat : List Str := ["plan", "run", "n", "boats", "done", "left", "heads", "same", "other", "boat", "way"]
theorem S_next_boat : FnScope N_next_boat ["plan", "run", "n"] (defScope s_next_boat) := ⟨rfl, rfl, rfl, by decide +kernel, rfl, by decide +kernel, by decide +kernel⟩
theorem d_next_boat {P : Program} {w : World} {K : PySem.W.Frag} {mg : Str → Option Value} {base : Heap} {F : FAT} {T : List (Addr × Str)} {k : Nat} {f : Addr} {fd : FuncData} (Fd : FnP K "next_boat" s_next_boat f fd) {sp_head_of : DSp} {sp_next_soon : DSp} {sp_earlier_start : DSp} {sp_row_behind : DSp} (g_head_of : GFn P w K mg base F T k "head_of" 3 sp_head_of) (g_next_soon : GFn P w K mg base F T k "next_soon" 4 sp_next_soon) (g_earlier_start : GFn P w K mg base F T k "earlier_start" 2 sp_earlier_start) (g_row_behind : GFn P w K mg base F T k "row_behind" 2 sp_row_behind) (b_len : mg "len" = none) (b_range : mg "range" = none) {sp : DSp} (hsp : ∀ (ds : List Dt) (Q : Dt → Prop), ds.length = 3 → sp ds Q → t_next_boat sp_head_of sp_next_soon sp_earlier_start sp_row_behind { nx := fun _ => Q .none, rt := Q } (startD 11 ds)) : FnOk P w K mg base CX0 (k + 1) f fd ["plan", "run", "n"] (spD K F T 3 sp) := by
  refine fn_data (N := N_next_boat) (ps := ["plan", "run", "n"]) Fd S_next_boat (fun cdv A outer s H E hr => ?_) hsp
  have hu := hr.units
  exact (dss_cons (ds_asg (vs := [3, 4]) (de_tup (da_cons (de_ix (de_var (pv 0)) de_int) (da_cons (de_ix (de_var (pv 1)) de_int) da_nil))) (dg_tup rfl (dgs_cons (dg_name S_next_boat.nd (i := 3) rfl (by first | exact .inl rfl | exact .inr rfl) (by decide)) (dgs_cons (dg_name S_next_boat.nd (i := 4) rfl (by first | exact .inl rfl | exact .inr rfl) (by decide)) dgs_nil))))
  (dss_cons (ds_set S_next_boat.nd (i := 5) rfl (by first | exact .inl rfl | exact .inr rfl) (de_lc (own := [("boat", 9)]) rfl S_next_boat.nd (di_rng1 rfl b_range (da_cons (de_blt cd_len rfl b_len boot_len (da_cons (de_var (pv 3)) da_nil)) da_nil)) (blkOk_by (N := N_next_boat) (sc := defScope s_next_boat) (own := [("boat", 9)]) (by decide +kernel)) (fun _ _ _ _ _ => (dg_name S_next_boat.nd (i := 9) rfl (by first | exact .inl rfl | exact .inr rfl) (by decide))) (fun _ _ _ _ _ => (dts_one (dt_cmp od_nin (de_var (pv 9)) (de_var (pv 4))))) (fun _ _ _ _ _ => (de_var (pv 9)))))
  (dss_cons (ds_setLc (own := [("way", 10)]) rfl S_next_boat.nd (i := 6) rfl rfl (sw_true rfl rfl rfl (by decide +kernel)) (di_tup (de_tup (da_cons de_str (da_cons de_str da_nil)))) (blkOk_by (N := N_next_boat) (sc := defScope s_next_boat) (own := [("way", 10)]) (by decide +kernel)) (fun _ _ _ _ _ => (dg_name S_next_boat.nd (i := 10) rfl (by first | exact .inl rfl | exact .inr rfl) (by decide))) (fun _ _ _ _ _ => dts_nil) (fun _ _ _ _ _ => (de_callG g_head_of hr rfl (da_cons (de_var (pv 3)) (da_cons (de_var (pv 10)) (da_cons (de_var (pv 5)) da_nil))))))
  (dss_cons (ds_setLc (own := [("boat", 9)]) rfl S_next_boat.nd (i := 6) rfl rfl (sw_true rfl rfl rfl (by decide +kernel)) (di_list (de_var (pv 6))) (blkOk_by (N := N_next_boat) (sc := defScope s_next_boat) (own := [("boat", 9)]) (by decide +kernel)) (fun _ _ _ _ _ => (dg_name S_next_boat.nd (i := 9) rfl (by first | exact .inl rfl | exact .inr rfl) (by decide))) (fun _ _ _ _ _ => (dts_one (dt_cmp od_isn (de_var (pv 9)) de_non))) (fun _ _ _ _ _ => (de_var (pv 9))))
  (dss_cons (ds_if (dt_cmp (od_eq hu) (de_blt cd_len rfl b_len boot_len (da_cons (de_var (pv 6)) da_nil)) de_int) (dss_one (ds_ret (de_tup (da_cons (de_ix (de_var (pv 6)) de_int) (da_cons (de_tup da_nil) da_nil))))) dss_nil)
  (dss_cons (ds_if (dt_cmp (od_eq hu) (de_ix (de_ix (de_var (pv 0)) de_int) de_int) de_str) (dss_one (ds_ret (de_callG g_next_soon hr rfl (da_cons (de_var (pv 0)) (da_cons (de_var (pv 1)) (da_cons (de_var (pv 6)) (da_cons (de_var (pv 2)) da_nil))))))) dss_nil)
  (dss_cons (ds_if (dw_pt (dw_or (dt_cmp (od_eq hu) (de_ix (de_ix (de_var (pv 0)) de_int) de_int) de_str) (dw_or1 (dt_cmp (od_eq hu) (de_var (pv 4)) (de_tup da_nil))))) (dss_one (ds_ret (de_tup (da_cons (de_callG g_earlier_start hr rfl (da_cons (de_var (pv 3)) (da_cons (de_var (pv 6)) da_nil))) (da_cons (de_tup da_nil) da_nil))))) dss_nil)
  (dss_cons (ds_set S_next_boat.nd (i := 7) rfl (by first | exact .inl rfl | exact .inr rfl) (de_ix (de_lc (own := [("boat", 9)]) rfl S_next_boat.nd (di_list (de_var (pv 6))) (blkOk_by (N := N_next_boat) (sc := defScope s_next_boat) (own := [("boat", 9)]) (by decide +kernel)) (fun _ _ _ _ _ => (dg_name S_next_boat.nd (i := 9) rfl (by first | exact .inl rfl | exact .inr rfl) (by decide))) (fun _ _ _ _ _ => (dts_one (dt_cmp (od_eq hu) (de_ix (de_ix (de_var (pv 3)) (de_var (pv 9))) de_int) (de_ix (de_ix (de_var (pv 3)) (de_ix (de_var (pv 4)) (de_un ud_neg de_int))) de_int)))) (fun _ _ _ _ _ => (de_var (pv 9)))) de_int))
  (dss_cons (ds_set S_next_boat.nd (i := 8) rfl (by first | exact .inl rfl | exact .inr rfl) (de_ix (de_lc (own := [("boat", 9)]) rfl S_next_boat.nd (di_list (de_var (pv 6))) (blkOk_by (N := N_next_boat) (sc := defScope s_next_boat) (own := [("boat", 9)]) (by decide +kernel)) (fun _ _ _ _ _ => (dg_name S_next_boat.nd (i := 9) rfl (by first | exact .inl rfl | exact .inr rfl) (by decide))) (fun _ _ _ _ _ => (dts_one (dt_cmp (od_ne hu) (de_var (pv 9)) (de_var (pv 7))))) (fun _ _ _ _ _ => (de_var (pv 9)))) de_int))
  (dss_one (ds_ret (de_tup (da_cons (de_if (dt_cmp od_lt (de_callG g_row_behind hr rfl (da_cons (de_var (pv 3)) (da_cons (de_var (pv 4)) da_nil))) (de_ix (de_ix (de_var (pv 0)) de_int) de_int)) (de_var (pv 7)) (de_var (pv 8))) (da_cons (de_tup da_nil) da_nil))))))))))))))
abbrev s_run_with : Stmt := top 28
def N_run_with : List Str := ["plan", "n", "run", "turn", "boat", "asked", "into", "more", "out"]
theorem S_run_with : FnScope N_run_with ["plan", "n"] (defScope s_run_with) := ⟨rfl, rfl, rfl, by decide +kernel, rfl, by decide +kernel, by decide +kernel⟩
theorem d_run_with {P : Program} {w : World} {K : PySem.W.Frag} {mg : Str → Option Value} {base : Heap} {F : FAT} {T : List (Addr × Str)} {k : Nat} {f : Addr} {fd : FuncData} (Fd : FnP K "run_with" s_run_with f fd) {sp_next_boat : DSp} {sp_top_form : DSp} {sp_bounds_of : DSp} {sp_added : DSp} {sp_step_of : DSp} (g_next_boat : GFn P w K mg base F T k "next_boat" 3 sp_next_boat) (g_top_form : GFn P w K mg base F T k "top_form" 2 sp_top_form) (g_bounds_of : GFn P w K mg base F T k "bounds_of" 3 sp_bounds_of) (g_added : GFn P w K mg base F T k "added" 2 sp_added) (g_step_of : GFn P w K mg base F T k "step_of" 3 sp_step_of) (b_len : mg "len" = none) (b_range : mg "range" = none) {sp : DSp} (hsp : ∀ (ds : List Dt) (Q : Dt → Prop), ds.length = 2 → sp ds Q → t_run_with sp_next_boat sp_top_form sp_bounds_of sp_added sp_step_of { nx := fun _ => Q .none, rt := Q } (startD 9 ds)) : FnOk P w K mg base CX0 (k + 1) f fd ["plan", "n"] (spD K F T 2 sp) := by
  refine fn_data (N := N_run_with) (ps := ["plan", "n"]) Fd S_run_with (fun cdv A outer s H E hr => ?_) hsp
  have hu := hr.units
  exact (dss_cons (ds_set S_run_with.nd (i := 2) rfl (by first | exact .inl rfl | exact .inr rfl) (de_tup (da_cons (de_tup da_nil) (da_cons (de_tup da_nil) (da_cons (de_tup da_nil) da_nil)))))
  (dss_cons (ds_for (vs := [3]) PassesOwn.never rfl (di_rng1 rfl b_range (da_cons (de_blt cd_len rfl b_len boot_len (da_cons (de_ix (de_var (pv 0)) de_int) da_nil)) da_nil)) (dg_name S_run_with.nd (i := 3) rfl (by first | exact .inl rfl | exact .inr rfl) (by decide)) (dss_cons (ds_asg (vs := [4, 5]) (de_callG g_next_boat hr rfl (da_cons (de_var (pv 0)) (da_cons (de_var (pv 2)) (da_cons (de_var (pv 1)) da_nil)))) (dg_tup rfl (dgs_cons (dg_name S_run_with.nd (i := 4) rfl (by first | exact .inl rfl | exact .inr rfl) (by decide)) (dgs_cons (dg_name S_run_with.nd (i := 5) rfl (by first | exact .inl rfl | exact .inr rfl) (by decide)) dgs_nil))))
  (dss_cons (ds_asg (vs := [6, 7]) (de_callG g_top_form hr rfl (da_cons (de_callG g_bounds_of hr rfl (da_cons (de_var (pv 0)) (da_cons (de_var (pv 2)) (da_cons (de_var (pv 4)) da_nil)))) (da_cons (de_var (pv 1)) da_nil))) (dg_tup rfl (dgs_cons (dg_name S_run_with.nd (i := 6) rfl (by first | exact .inl rfl | exact .inr rfl) (by decide)) (dgs_cons (dg_name S_run_with.nd (i := 7) rfl (by first | exact .inl rfl | exact .inr rfl) (by decide)) dgs_nil))))
  (dss_cons (ds_set S_run_with.nd (i := 8) rfl (by first | exact .inl rfl | exact .inr rfl) (de_callG g_added hr rfl (da_cons (de_var (pv 6)) (da_cons (de_tup (da_cons (de_callG g_step_of hr rfl (da_cons (de_var (pv 0)) (da_cons (de_ix (de_var (pv 2)) de_int) (da_cons (de_var (pv 4)) da_nil)))) (da_cons de_int da_nil))) da_nil))))
  (dss_one (ds_set S_run_with.nd (i := 2) rfl (by first | exact .inl rfl | exact .inr rfl) (de_tup (da_cons (de_op od_add (de_ix (de_var (pv 2)) de_int) (de_tup (da_cons (de_var (pv 4)) da_nil))) (da_cons (de_op od_add (de_ix (de_var (pv 2)) de_int) (de_tup (da_cons (de_tup (da_cons (de_var (pv 6)) (da_cons (de_var (pv 8)) da_nil))) da_nil))) (da_cons (de_op od_add (de_op od_add (de_ix (de_var (pv 2)) de_int) (de_var (pv 5))) (de_var (pv 7))) da_nil))))))))))
  (dss_one (ds_ret (de_var (pv 2))))))
abbrev s_forms_in : Stmt := top 29
def N_forms_in : List Str := ["run", "boat", "pair"]
theorem S_forms_in : FnScope N_forms_in ["run"] (defScope s_forms_in) := ⟨rfl, rfl, rfl, by decide +kernel, rfl, by decide +kernel, by decide +kernel⟩
theorem d_forms_in {P : Program} {w : World} {K : PySem.W.Frag} {mg : Str → Option Value} {base : Heap} {F : FAT} {T : List (Addr × Str)} {k : Nat} {f : Addr} {fd : FuncData} (Fd : FnP K "forms_in" s_forms_in f fd) (b_sorted : mg "sorted" = none) (b_zip : mg "zip" = none) (b_tuple : mg "tuple" = none) {sp : DSp} (hsp : ∀ (ds : List Dt) (Q : Dt → Prop), ds.length = 1 → sp ds Q → t_forms_in { nx := fun _ => Q .none, rt := Q } (startD 3 ds)) : FnOk P w K mg base CX0 (k + 1) f fd ["run"] (spD K F T 1 sp) := by
  refine fn_data (N := N_forms_in) (ps := ["run"]) Fd S_forms_in (fun cdv A outer s H E hr => ?_) hsp
  have hu := hr.units
  exact (dss_one (ds_ret (de_bty cd_tuple rfl b_tuple boot_tuple (da_cons (de_lc (own := [("boat", 1), ("pair", 2)]) rfl S_forms_in.nd (di_list (de_sortZ rfl hu rfl b_sorted rfl b_zip (da_cons (de_ix (de_var (pv 0)) de_int) (da_cons (de_ix (de_var (pv 0)) de_int) da_nil)))) (blkOk_by (N := N_forms_in) (sc := defScope s_forms_in) (own := [("boat", 1), ("pair", 2)]) (by decide +kernel)) (fun _ _ _ _ _ => (dg_tup rfl (dgs_cons (dg_name S_forms_in.nd (i := 1) rfl (by first | exact .inl rfl | exact .inr rfl) (by decide)) (dgs_cons (dg_name S_forms_in.nd (i := 2) rfl (by first | exact .inl rfl | exact .inr rfl) (by decide)) dgs_nil)))) (fun _ _ _ _ _ => dts_nil) (fun _ _ _ _ _ => (de_var (pv 2)))) da_nil))))
abbrev s_until : Stmt := top 31
def N_until : List Str := ["asked", "n", "ends", "form", "end"]
theorem S_until : FnScope N_until ["asked", "n"] (defScope s_until) := ⟨rfl, rfl, rfl, by decide +kernel, rfl, by decide +kernel, by decide +kernel⟩
theorem d_until {P : Program} {w : World} {K : PySem.W.Frag} {mg : Str → Option Value} {base : Heap} {F : FAT} {T : List (Addr × Str)} {k : Nat} {f : Addr} {fd : FuncData} (Fd : FnP K "until" s_until f fd) {sp_same_to : DSp} (g_same_to : GFn P w K mg base F T k "same_to" 2 sp_same_to) (b_int : mg "int" = none) (b_min : mg "min" = none) {sp : DSp} (hsp : ∀ (ds : List Dt) (Q : Dt → Prop), ds.length = 2 → sp ds Q → t_until sp_same_to { nx := fun _ => Q .none, rt := Q } (startD 5 ds)) : FnOk P w K mg base CX0 (k + 1) f fd ["asked", "n"] (spD K F T 2 sp) := by
  refine fn_data (N := N_until) (ps := ["asked", "n"]) Fd S_until (fun cdv A outer s H E hr => ?_) hsp
  have hu := hr.units
  exact (dss_cons (ds_setLc (own := [("form", 3)]) rfl S_until.nd (i := 2) rfl rfl (sw_true rfl rfl rfl (by decide +kernel)) (di_tup (de_var (pv 0))) (blkOk_by (N := N_until) (sc := defScope s_until) (own := [("form", 3)]) (by decide +kernel)) (fun _ _ _ _ _ => (dg_name S_until.nd (i := 3) rfl (by first | exact .inl rfl | exact .inr rfl) (by decide))) (fun _ _ _ _ _ => dts_nil) (fun _ _ _ _ _ => (de_callG g_same_to hr rfl (da_cons (de_var (pv 3)) (da_cons (de_var (pv 1)) da_nil)))))
  (dss_cons (ds_setLc (own := [("end", 4)]) rfl S_until.nd (i := 2) rfl rfl (sw_true rfl rfl rfl (by decide +kernel)) (di_list (de_var (pv 2))) (blkOk_by (N := N_until) (sc := defScope s_until) (own := [("end", 4)]) (by decide +kernel)) (fun _ _ _ _ _ => (dg_name S_until.nd (i := 4) rfl (by first | exact .inl rfl | exact .inr rfl) (by decide))) (fun _ _ _ _ _ => (dts_one (dt_cmp od_isn (de_var (pv 4)) de_non))) (fun _ _ _ _ _ => (de_bty cd_int rfl b_int boot_int (da_cons (de_var (pv 4)) da_nil))))
  (dss_one (ds_ret (de_if (dt_cmp (od_ne hu) (de_var (pv 2)) (de_lst da_nil)) (de_blt (cd_minI rfl) rfl b_min boot_min (da_cons (de_var (pv 2)) da_nil)) de_non)))))
abbrev s_lesser_end : Stmt := top 32
def N_lesser_end : List Str := ["one", "other"]
theorem S_lesser_end : FnScope N_lesser_end ["one", "other"] (defScope s_lesser_end) := ⟨rfl, rfl, rfl, by decide +kernel, rfl, by decide +kernel, by decide +kernel⟩
theorem d_lesser_end {P : Program} {w : World} {K : PySem.W.Frag} {mg : Str → Option Value} {base : Heap} {F : FAT} {T : List (Addr × Str)} {k : Nat} {f : Addr} {fd : FuncData} (Fd : FnP K "lesser_end" s_lesser_end f fd) {sp : DSp} (hsp : ∀ (ds : List Dt) (Q : Dt → Prop), ds.length = 2 → sp ds Q → t_lesser_end { nx := fun _ => Q .none, rt := Q } (startD 2 ds)) : FnOk P w K mg base CX0 (k + 1) f fd ["one", "other"] (spD K F T 2 sp) := by
  refine fn_data (N := N_lesser_end) (ps := ["one", "other"]) Fd S_lesser_end (fun cdv A outer s H E hr => ?_) hsp
  have hu := hr.units
  exact (dss_cons (ds_if (dt_cmp od_is (de_var (pv 0)) de_non) (dss_one (ds_ret (de_var (pv 1)))) dss_nil)
  (dss_one (ds_ret (de_if (dw_pt (dw_or (dt_cmp od_is (de_var (pv 1)) de_non) (dw_or1 (dt_cmp od_lt (de_var (pv 0)) (de_var (pv 1)))))) (de_var (pv 0)) (de_var (pv 1))))))
abbrev s_joined : Stmt := top 33
def N_joined : List Str := ["rows", "found", "least", "greatest", "told"]
theorem S_joined : FnScope N_joined ["rows"] (defScope s_joined) := ⟨rfl, rfl, rfl, by decide +kernel, rfl, by decide +kernel, by decide +kernel⟩
theorem d_joined {P : Program} {w : World} {K : PySem.W.Frag} {mg : Str → Option Value} {base : Heap} {F : FAT} {T : List (Addr × Str)} {k : Nat} {f : Addr} {fd : FuncData} (Fd : FnP K "joined" s_joined f fd) {sp : DSp} (hsp : ∀ (ds : List Dt) (Q : Dt → Prop), ds.length = 1 → sp ds Q → t_joined { nx := fun _ => Q .none, rt := Q } (startD 5 ds)) : FnOk P w K mg base CX0 (k + 1) f fd ["rows"] (spD K F T 1 sp) := by
  refine fn_data (N := N_joined) (ps := ["rows"]) Fd S_joined (fun cdv A outer s H E hr => ?_) hsp
  have hu := hr.units
  exact (dss_cons (ds_set S_joined.nd (i := 1) rfl (by first | exact .inl rfl | exact .inr rfl) (de_lst da_nil))
  (dss_cons (ds_for (vs := [2, 3, 4]) PassesOwn.never rfl (di_list (de_var (pv 0))) (dg_tup rfl (dgs_cons (dg_name S_joined.nd (i := 2) rfl (by first | exact .inl rfl | exact .inr rfl) (by decide)) (dgs_cons (dg_name S_joined.nd (i := 3) rfl (by first | exact .inl rfl | exact .inr rfl) (by decide)) (dgs_cons (dg_name S_joined.nd (i := 4) rfl (by first | exact .inl rfl | exact .inr rfl) (by decide)) dgs_nil)))) (dss_one (ds_if (dw_pt (dw_and (dt_cmp (od_ne hu) (de_var (pv 1)) (de_lst da_nil)) (dw_and1 (dt_cmp (od_eq hu) (de_ix (de_ix (de_var (pv 1)) (de_un ud_neg de_int)) de_int) (de_var (pv 4)))))) (dss_one (ds_set S_joined.nd (i := 1) rfl (by first | exact .inl rfl | exact .inr rfl) (de_op od_add (de_slice (de_var (pv 1)) do_none (do_some (de_un ud_neg de_int))) (de_lst (da_cons (de_tup (da_cons (de_ix (de_ix (de_var (pv 1)) (de_un ud_neg de_int)) de_int) (da_cons (de_var (pv 3)) (da_cons (de_var (pv 4)) da_nil)))) da_nil))))) (dss_one (ds_set S_joined.nd (i := 1) rfl (by first | exact .inl rfl | exact .inr rfl) (de_op od_add (de_var (pv 1)) (de_lst (da_cons (de_tup (da_cons (de_var (pv 2)) (da_cons (de_var (pv 3)) (da_cons (de_var (pv 4)) da_nil)))) da_nil))))))))
  (dss_one (ds_ret (de_var (pv 1))))))
abbrev s_all_runs : Stmt := top 34
def N_all_runs : List Str := ["plan", "found", "n", "run", "end"]
theorem S_all_runs : FnScope N_all_runs ["plan"] (defScope s_all_runs) := ⟨rfl, rfl, rfl, by decide +kernel, rfl, by decide +kernel, by decide +kernel⟩
theorem d_all_runs {P : Program} {w : World} {K : PySem.W.Frag} {mg : Str → Option Value} {base : Heap} {F : FAT} {T : List (Addr × Str)} {k : Nat} {f : Addr} {fd : FuncData} (Fd : FnP K "all_runs" s_all_runs f fd) {sp_run_with : DSp} {sp_until : DSp} {sp_forms_in : DSp} {sp_joined : DSp} (g_run_with : GFn P w K mg base F T k "run_with" 2 sp_run_with) (g_until : GFn P w K mg base F T k "until" 2 sp_until) (g_forms_in : GFn P w K mg base F T k "forms_in" 1 sp_forms_in) (g_joined : GFn P w K mg base F T k "joined" 1 sp_joined) {q_LEAST : Tok} (c_LEAST : mg "LEAST" = some (.int (2) q_LEAST)) {sp : DSp} (hsp : ∀ (ds : List Dt) (Q : Dt → Prop), ds.length = 1 → sp ds Q → t_all_runs sp_run_with sp_until sp_forms_in sp_joined { nx := fun _ => Q .none, rt := Q } (startD 5 ds)) : FnOk P w K mg base CX0 (k + 1) f fd ["plan"] (spD K F T 1 sp) := by
  refine fn_data (N := N_all_runs) (ps := ["plan"]) Fd S_all_runs (fun cdv A outer s H E hr => ?_) hsp
  have hu := hr.units
  exact (dss_cons (ds_par rfl S_all_runs.nd (i := 1) (j := 2) rfl rfl (by decide) rfl rfl (da_cons (de_lst da_nil) (da_cons (de_gint rfl c_LEAST) da_nil)) rfl)
  (dss_cons (ds_while PassesOwn.never (dt_cmp od_isn (de_var (pv 2)) de_non) (dss_cons (ds_set S_all_runs.nd (i := 3) rfl (by first | exact .inl rfl | exact .inr rfl) (de_callG g_run_with hr rfl (da_cons (de_var (pv 0)) (da_cons (de_var (pv 2)) da_nil))))
  (dss_cons (ds_set S_all_runs.nd (i := 4) rfl (by first | exact .inl rfl | exact .inr rfl) (de_callG g_until hr rfl (da_cons (de_ix (de_var (pv 3)) de_int) (da_cons (de_var (pv 2)) da_nil))))
  (dss_cons (ds_set S_all_runs.nd (i := 1) rfl (by first | exact .inl rfl | exact .inr rfl) (de_op od_add (de_var (pv 1)) (de_lst (da_cons (de_tup (da_cons (de_var (pv 2)) (da_cons (de_var (pv 4)) (da_cons (de_tup (da_cons (de_ix (de_var (pv 3)) de_int) (da_cons (de_callG g_forms_in hr rfl (da_cons (de_var (pv 3)) da_nil)) da_nil))) da_nil)))) da_nil))))
  (dss_one (ds_set S_all_runs.nd (i := 2) rfl (by first | exact .inl rfl | exact .inr rfl) (de_if (dt_cmp od_is (de_var (pv 4)) de_non) de_non (de_op od_add (de_var (pv 4)) de_int))))))))
  (dss_one (ds_ret (de_callG g_joined hr rfl (da_cons (de_var (pv 1)) da_nil))))))
abbrev s_by_runs : Stmt := top 35
def N_by_runs : List Str := ["plan", "told", "least", "greatest", "order", "forms"]
theorem S_by_runs : FnScope N_by_runs ["plan", "told"] (defScope s_by_runs) := ⟨rfl, rfl, rfl, by decide +kernel, rfl, by decide +kernel, by decide +kernel⟩
theorem d_by_runs {P : Program} {w : World} {K : PySem.W.Frag} {mg : Str → Option Value} {base : Heap} {F : FAT} {T : List (Addr × Str)} {k : Nat} {f : Addr} {fd : FuncData} (Fd : FnP K "by_runs" s_by_runs f fd) {sp_joined : DSp} {sp_all_runs : DSp} {sp_told : Int → List Dt → DSp} (g_joined : GFn P w K mg base F T k "joined" 1 sp_joined) (g_all_runs : GFn P w K mg base F T k "all_runs" 1 sp_all_runs) (g_told : ∀ n ds, CallD P w K mg base F T k n ds (sp_told n ds)) {sp : DSp} (hsp : ∀ (ds : List Dt) (Q : Dt → Prop), ds.length = 2 → sp ds Q → t_by_runs sp_joined sp_all_runs sp_told { nx := fun _ => Q .none, rt := Q } (startD 6 ds)) : FnOk P w K mg base CX0 (k + 1) f fd ["plan", "told"] (spD K F T 2 sp) := by
  refine fn_data (N := N_by_runs) (ps := ["plan", "told"]) Fd S_by_runs (fun cdv A outer s H E hr => ?_) hsp
  have hu := hr.units
  exact (dss_one (ds_ret (de_callG g_joined hr rfl (da_cons (de_lc (own := [("least", 2), ("greatest", 3), ("order", 4), ("forms", 5)]) rfl S_by_runs.nd (di_list (de_callG g_all_runs hr rfl (da_cons (de_var (pv 0)) da_nil))) (blkOk_by (N := N_by_runs) (sc := defScope s_by_runs) (own := [("least", 2), ("greatest", 3), ("order", 4), ("forms", 5)]) (by decide +kernel)) (fun _ _ _ _ _ => (dg_tup rfl (dgs_cons (dg_name S_by_runs.nd (i := 2) rfl (by first | exact .inl rfl | exact .inr rfl) (by decide)) (dgs_cons (dg_name S_by_runs.nd (i := 3) rfl (by first | exact .inl rfl | exact .inr rfl) (by decide)) (dgs_cons (dg_tup rfl (dgs_cons (dg_name S_by_runs.nd (i := 4) rfl (by first | exact .inl rfl | exact .inr rfl) (by decide)) (dgs_cons (dg_name S_by_runs.nd (i := 5) rfl (by first | exact .inl rfl | exact .inr rfl) (by decide)) dgs_nil))) dgs_nil))))) (fun _ _ _ _ _ => dts_nil) (fun _ _ _ _ _ => (de_tup (da_cons (de_var (pv 2)) (da_cons (de_var (pv 3)) (da_cons (de_told g_told hr (Nat.le_refl _) (i := 1) rfl (by first | exact .inl rfl | exact .inr (.inl rfl) | exact .inr (.inr rfl)) (da_cons (de_var (pv 4)) (da_cons (de_var (pv 5)) da_nil))) da_nil)))))) da_nil))))
abbrev s_cut : Stmt := top 36
def N_cut : List Str := ["rows", "told", "found", "least", "greatest", "item", "n", "here", "asked", "end"]
theorem S_cut : FnScope N_cut ["rows", "told"] (defScope s_cut) := ⟨rfl, rfl, rfl, by decide +kernel, rfl, by decide +kernel, by decide +kernel⟩
theorem d_cut {P : Program} {w : World} {K : PySem.W.Frag} {mg : Str → Option Value} {base : Heap} {F : FAT} {T : List (Addr × Str)} {k : Nat} {f : Addr} {fd : FuncData} (Fd : FnP K "cut" s_cut f fd) {sp_lesser_end : DSp} {sp_until : DSp} {sp_joined : DSp} {sp_told : Int → List Dt → DSp} (g_lesser_end : GFn P w K mg base F T k "lesser_end" 2 sp_lesser_end) (g_until : GFn P w K mg base F T k "until" 2 sp_until) (g_joined : GFn P w K mg base F T k "joined" 1 sp_joined) (g_told : ∀ n ds, CallD P w K mg base F T k n ds (sp_told n ds)) {sp : DSp} (hsp : ∀ (ds : List Dt) (Q : Dt → Prop), ds.length = 2 → sp ds Q → t_cut sp_lesser_end sp_until sp_joined sp_told { nx := fun _ => Q .none, rt := Q } (startD 10 ds)) : FnOk P w K mg base CX0 (k + 1) f fd ["rows", "told"] (spD K F T 2 sp) := by
  refine fn_data (N := N_cut) (ps := ["rows", "told"]) Fd S_cut (fun cdv A outer s H E hr => ?_) hsp
  have hu := hr.units
  exact (dss_cons (ds_set S_cut.nd (i := 2) rfl (by first | exact .inl rfl | exact .inr rfl) (de_lst da_nil))
  (dss_cons (ds_for (vs := [3, 4, 5]) PassesOwn.never rfl (di_list (de_var (pv 0))) (dg_tup rfl (dgs_cons (dg_name S_cut.nd (i := 3) rfl (by first | exact .inl rfl | exact .inr rfl) (by decide)) (dgs_cons (dg_name S_cut.nd (i := 4) rfl (by first | exact .inl rfl | exact .inr rfl) (by decide)) (dgs_cons (dg_name S_cut.nd (i := 5) rfl (by first | exact .inl rfl | exact .inr rfl) (by decide)) dgs_nil)))) (dss_cons (ds_set S_cut.nd (i := 6) rfl (by first | exact .inl rfl | exact .inr rfl) (de_var (pv 3)))
  (dss_one (ds_while PassesOwn.never (dw_pt (dw_and (dt_cmp od_isn (de_var (pv 6)) de_non) (dw_and1 (dw_pt (dw_or (dt_cmp od_is (de_var (pv 4)) de_non) (dw_or1 (dt_cmp od_le (de_var (pv 6)) (de_var (pv 4))))))))) (dss_cons (ds_asg (vs := [7, 8]) (de_told g_told hr (Nat.le_refl _) (i := 1) rfl (by first | exact .inl rfl | exact .inr (.inl rfl) | exact .inr (.inr rfl)) (da_cons (de_var (pv 5)) (da_cons (de_var (pv 6)) da_nil))) (dg_tup rfl (dgs_cons (dg_name S_cut.nd (i := 7) rfl (by first | exact .inl rfl | exact .inr rfl) (by decide)) (dgs_cons (dg_name S_cut.nd (i := 8) rfl (by first | exact .inl rfl | exact .inr rfl) (by decide)) dgs_nil))))
  (dss_cons (ds_set S_cut.nd (i := 9) rfl (by first | exact .inl rfl | exact .inr rfl) (de_callG g_lesser_end hr rfl (da_cons (de_callG g_until hr rfl (da_cons (de_var (pv 8)) (da_cons (de_var (pv 6)) da_nil))) (da_cons (de_var (pv 4)) da_nil))))
  (dss_cons (ds_set S_cut.nd (i := 2) rfl (by first | exact .inl rfl | exact .inr rfl) (de_op od_add (de_var (pv 2)) (de_lst (da_cons (de_tup (da_cons (de_var (pv 6)) (da_cons (de_var (pv 9)) (da_cons (de_var (pv 7)) da_nil)))) da_nil))))
  (dss_one (ds_set S_cut.nd (i := 6) rfl (by first | exact .inl rfl | exact .inr rfl) (de_if (dt_cmp od_is (de_var (pv 9)) de_non) de_non (de_op od_add (de_var (pv 9)) de_int)))))))))))
  (dss_one (ds_ret (de_callG g_joined hr rfl (da_cons (de_var (pv 2)) da_nil))))))
abbrev s_both : Stmt := top 37
def N_both : List Str := ["one_rows", "other_rows", "found", "least", "greatest", "told", "other_least", "other_greatest", "other_told", "low", "high"]
theorem S_both : FnScope N_both ["one_rows", "other_rows"] (defScope s_both) := ⟨rfl, rfl, rfl, by decide +kernel, rfl, by decide +kernel, by decide +kernel⟩
theorem d_both {P : Program} {w : World} {K : PySem.W.Frag} {mg : Str → Option Value} {base : Heap} {F : FAT} {T : List (Addr × Str)} {k : Nat} {f : Addr} {fd : FuncData} (Fd : FnP K "both" s_both f fd) {sp_lesser_end : DSp} (g_lesser_end : GFn P w K mg base F T k "lesser_end" 2 sp_lesser_end) {sp : DSp} (hsp : ∀ (ds : List Dt) (Q : Dt → Prop), ds.length = 2 → sp ds Q → t_both sp_lesser_end { nx := fun _ => Q .none, rt := Q } (startD 11 ds)) : FnOk P w K mg base CX0 (k + 1) f fd ["one_rows", "other_rows"] (spD K F T 2 sp) := by
  refine fn_data (N := N_both) (ps := ["one_rows", "other_rows"]) Fd S_both (fun cdv A outer s H E hr => ?_) hsp
  have hu := hr.units
  exact (dss_cons (ds_set S_both.nd (i := 2) rfl (by first | exact .inl rfl | exact .inr rfl) (de_lst da_nil))
  (dss_cons (ds_for (vs := [3, 4, 5]) PassesOwn.never rfl (di_list (de_var (pv 0))) (dg_tup rfl (dgs_cons (dg_name S_both.nd (i := 3) rfl (by first | exact .inl rfl | exact .inr rfl) (by decide)) (dgs_cons (dg_name S_both.nd (i := 4) rfl (by first | exact .inl rfl | exact .inr rfl) (by decide)) (dgs_cons (dg_name S_both.nd (i := 5) rfl (by first | exact .inl rfl | exact .inr rfl) (by decide)) dgs_nil)))) (dss_one (ds_for (vs := [6, 7, 8]) PassesOwn.never rfl (di_list (de_var (pv 1))) (dg_tup rfl (dgs_cons (dg_name S_both.nd (i := 6) rfl (by first | exact .inl rfl | exact .inr rfl) (by decide)) (dgs_cons (dg_name S_both.nd (i := 7) rfl (by first | exact .inl rfl | exact .inr rfl) (by decide)) (dgs_cons (dg_name S_both.nd (i := 8) rfl (by first | exact .inl rfl | exact .inr rfl) (by decide)) dgs_nil)))) (dss_cons (ds_set S_both.nd (i := 9) rfl (by first | exact .inl rfl | exact .inr rfl) (de_if (dt_cmp od_gt (de_var (pv 3)) (de_var (pv 6))) (de_var (pv 3)) (de_var (pv 6))))
  (dss_cons (ds_set S_both.nd (i := 10) rfl (by first | exact .inl rfl | exact .inr rfl) (de_callG g_lesser_end hr rfl (da_cons (de_var (pv 4)) (da_cons (de_var (pv 7)) da_nil))))
  (dss_one (ds_if (dw_pt (dw_or (dt_cmp od_is (de_var (pv 10)) de_non) (dw_or1 (dt_cmp od_le (de_var (pv 9)) (de_var (pv 10)))))) (dss_one (ds_set S_both.nd (i := 2) rfl (by first | exact .inl rfl | exact .inr rfl) (de_op od_add (de_var (pv 2)) (de_lst (da_cons (de_tup (da_cons (de_var (pv 9)) (da_cons (de_var (pv 10)) (da_cons (de_tup (da_cons (de_var (pv 5)) (da_cons (de_var (pv 8)) da_nil))) da_nil)))) da_nil))))) dss_nil)))))))
  (dss_one (ds_ret (de_var (pv 2))))))
abbrev s_need_two : Stmt := top 39
def N_need_two : List Str := ["one", "other"]
theorem S_need_two : FnScope N_need_two ["one", "other"] (defScope s_need_two) := ⟨rfl, rfl, rfl, by decide +kernel, rfl, by decide +kernel, by decide +kernel⟩
theorem d_need_two {P : Program} {w : World} {K : PySem.W.Frag} {mg : Str → Option Value} {base : Heap} {F : FAT} {T : List (Addr × Str)} {k : Nat} {f : Addr} {fd : FuncData} (Fd : FnP K "need_two" s_need_two f fd) {sp_need_plan : DSp} (g_need_plan : GFn P w K mg base F T k "need_plan" 1 sp_need_plan) {sp : DSp} (hsp : ∀ (ds : List Dt) (Q : Dt → Prop), ds.length = 2 → sp ds Q → t_need_two sp_need_plan { nx := fun _ => Q .none, rt := Q } (startD 2 ds)) : FnOk P w K mg base CX0 (k + 1) f fd ["one", "other"] (spD K F T 2 sp) := by
  refine fn_data (N := N_need_two) (ps := ["one", "other"]) Fd S_need_two (fun cdv A outer s H E hr => ?_) hsp
  have hu := hr.units
  exact (dss_cons (ds_expr (de_callG g_need_plan hr rfl (da_cons (de_var (pv 0)) da_nil)))
  (dss_one (ds_expr (de_callG g_need_plan hr rfl (da_cons (de_var (pv 1)) da_nil)))))
abbrev s_all_forms : Stmt := top 41
def N_all_forms : List Str := ["plan"]
theorem S_all_forms : FnScope N_all_forms ["plan"] (defScope s_all_forms) := ⟨rfl, rfl, rfl, by decide +kernel, rfl, by decide +kernel, by decide +kernel⟩
def L_all_forms : LamD := ⟨("all_forms.<locals>.<lambda>" : Str), lamArgs (lamE s_all_forms), lamBody (lamE s_all_forms), lamScope (lamE s_all_forms), []⟩
theorem d_all_forms {P : Program} {w : World} {K : PySem.W.Frag} {mg : Str → Option Value} {base : Heap} {Ls : List (Int × LamD)} {gs : List (Int × Addr)} {T : List (Addr × Str)} {k : Nat} {f : Addr} {fd : FuncData} (Fd : FnP K "all_forms" s_all_forms f fd) {sp_by_runs : DSp} (g_by_runs : GFn P w K mg base (lamF K Ls gs) T k "by_runs" 2 sp_by_runs) {cc cP : Addr} (l_lam : Ls.lookup 0 = some L_all_forms) (l_tab : TabB base mg cc cP) (l_code : fd.code = .ref cc) (l_in : (cP, ("all_forms.<locals>.<lambda>" : Str)) ∈ T) (l_un : ∀ p ∈ T, p.1 = cP → p.2 = ("all_forms.<locals>.<lambda>" : Str)) {sp : DSp} (hsp : ∀ (ds : List Dt) (Q : Dt → Prop), ds.length = 1 → sp ds Q → t_all_forms sp_by_runs { nx := fun _ => Q .none, rt := Q } (startD 1 ds)) : FnOk P w K mg base CX0 (k + 1) f fd ["plan"] (spD K (lamF K Ls gs) T 1 sp) := by
  refine fn_dataC (N := N_all_forms) (ps := ["plan"]) Fd S_all_forms (fun cdv A outer s H E hcd hr => ?_) hsp
  have hu := hr.units
  exact (dss_one (ds_ret (de_callG g_by_runs hr rfl (da_cons (de_var (pv 0)) (da_cons (de_lam0 (n := 0) (q := "all_forms.<locals>.<lambda>") l_lam rfl l_tab (hcd.symm.trans l_code) l_in l_un rfl (by decide +kernel)) da_nil)))))
abbrev s_gaps_of : Stmt := top 42
def N_gaps_of : List Str := ["one", "other", "found", "mine", "yours"]
theorem S_gaps_of : FnScope N_gaps_of ["one", "other"] (defScope s_gaps_of) := ⟨rfl, rfl, rfl, by decide +kernel, rfl, by decide +kernel, by decide +kernel⟩
theorem d_gaps_of {P : Program} {w : World} {K : PySem.W.Frag} {mg : Str → Option Value} {base : Heap} {F : FAT} {T : List (Addr × Str)} {k : Nat} {f : Addr} {fd : FuncData} (Fd : FnP K "gaps_of" s_gaps_of f fd) {sp_less : DSp} (g_less : GFn P w K mg base F T k "less" 2 sp_less) (b_zip : mg "zip" = none) {sp : DSp} (hsp : ∀ (ds : List Dt) (Q : Dt → Prop), ds.length = 2 → sp ds Q → t_gaps_of sp_less { nx := fun _ => Q .none, rt := Q } (startD 5 ds)) : FnOk P w K mg base CX0 (k + 1) f fd ["one", "other"] (spD K F T 2 sp) := by
  refine fn_data (N := N_gaps_of) (ps := ["one", "other"]) Fd S_gaps_of (fun cdv A outer s H E hr => ?_) hsp
  have hu := hr.units
  exact (dss_cons (ds_set S_gaps_of.nd (i := 2) rfl (by first | exact .inl rfl | exact .inr rfl) (de_tup da_nil))
  (dss_cons (ds_for (vs := [3, 4]) PassesOwn.never rfl (di_zipT rfl b_zip (da_cons (de_var (pv 0)) (da_cons (de_var (pv 1)) da_nil))) (dg_tup rfl (dgs_cons (dg_name S_gaps_of.nd (i := 3) rfl (by first | exact .inl rfl | exact .inr rfl) (by decide)) (dgs_cons (dg_name S_gaps_of.nd (i := 4) rfl (by first | exact .inl rfl | exact .inr rfl) (by decide)) dgs_nil))) (dss_one (ds_set S_gaps_of.nd (i := 2) rfl (by first | exact .inl rfl | exact .inr rfl) (de_op od_add (de_var (pv 2)) (de_tup (da_cons (de_callG g_less hr rfl (da_cons (de_ix (de_var (pv 3)) de_int) (da_cons (de_ix (de_var (pv 4)) de_int) da_nil))) (da_cons (de_callG g_less hr rfl (da_cons (de_ix (de_var (pv 3)) de_int) (da_cons (de_ix (de_var (pv 4)) de_int) da_nil))) da_nil)))))))
  (dss_one (ds_ret (de_var (pv 2))))))
abbrev s_is_same : Stmt := top 43
def N_is_same : List Str := ["pair", "n", "asked", "form"]
theorem S_is_same : FnScope N_is_same ["pair", "n"] (defScope s_is_same) := ⟨rfl, rfl, rfl, by decide +kernel, rfl, by decide +kernel, by decide +kernel⟩
theorem d_is_same {P : Program} {w : World} {K : PySem.W.Frag} {mg : Str → Option Value} {base : Heap} {F : FAT} {T : List (Addr × Str)} {k : Nat} {f : Addr} {fd : FuncData} (Fd : FnP K "is_same" s_is_same f fd) {sp_gaps_of : DSp} {sp_sign_of : DSp} (g_gaps_of : GFn P w K mg base F T k "gaps_of" 2 sp_gaps_of) (g_sign_of : GFn P w K mg base F T k "sign_of" 2 sp_sign_of) (b_all : mg "all" = none) {sp : DSp} (hsp : ∀ (ds : List Dt) (Q : Dt → Prop), ds.length = 2 → sp ds Q → t_is_same sp_gaps_of sp_sign_of { nx := fun _ => Q .none, rt := Q } (startD 4 ds)) : FnOk P w K mg base CX0 (k + 1) f fd ["pair", "n"] (spD K F T 2 sp) := by
  refine fn_data (N := N_is_same) (ps := ["pair", "n"]) Fd S_is_same (fun cdv A outer s H E hr => ?_) hsp
  have hu := hr.units
  exact (dss_cons (ds_set S_is_same.nd (i := 2) rfl (by first | exact .inl rfl | exact .inr rfl) (de_callG g_gaps_of hr rfl (da_cons (de_ix (de_var (pv 0)) de_int) (da_cons (de_ix (de_var (pv 0)) de_int) da_nil))))
  (dss_one (ds_ret (de_tup (da_cons (de_blt (cd_all rfl) rfl b_all boot_all (da_cons (de_lc (own := [("form", 3)]) rfl S_is_same.nd (di_tup (de_var (pv 2))) (blkOk_by (N := N_is_same) (sc := defScope s_is_same) (own := [("form", 3)]) (by decide +kernel)) (fun _ _ _ _ _ => (dg_name S_is_same.nd (i := 3) rfl (by first | exact .inl rfl | exact .inr rfl) (by decide))) (fun _ _ _ _ _ => dts_nil) (fun _ _ _ _ _ => (de_cmp (od_eq hu) (de_callG g_sign_of hr rfl (da_cons (de_var (pv 3)) (da_cons (de_var (pv 1)) da_nil))) de_int))) da_nil)) (da_cons (de_var (pv 2)) da_nil))))))
abbrev s_first_false : Stmt := top 44
def N_first_false : List Str := ["rows", "found", "least", "greatest", "truth"]
theorem S_first_false : FnScope N_first_false ["rows"] (defScope s_first_false) := ⟨rfl, rfl, rfl, by decide +kernel, rfl, by decide +kernel, by decide +kernel⟩
theorem d_first_false {P : Program} {w : World} {K : PySem.W.Frag} {mg : Str → Option Value} {base : Heap} {F : FAT} {T : List (Addr × Str)} {k : Nat} {f : Addr} {fd : FuncData} (Fd : FnP K "first_false" s_first_false f fd) {sp : DSp} (hsp : ∀ (ds : List Dt) (Q : Dt → Prop), ds.length = 1 → sp ds Q → t_first_false { nx := fun _ => Q .none, rt := Q } (startD 5 ds)) : FnOk P w K mg base CX0 (k + 1) f fd ["rows"] (spD K F T 1 sp) := by
  refine fn_data (N := N_first_false) (ps := ["rows"]) Fd S_first_false (fun cdv A outer s H E hr => ?_) hsp
  have hu := hr.units
  exact (dss_cons (ds_setLc (own := [("least", 2), ("greatest", 3), ("truth", 4)]) rfl S_first_false.nd (i := 1) rfl rfl (sw_true rfl rfl rfl (by decide +kernel)) (di_list (de_var (pv 0))) (blkOk_by (N := N_first_false) (sc := defScope s_first_false) (own := [("least", 2), ("greatest", 3), ("truth", 4)]) (by decide +kernel)) (fun _ _ _ _ _ => (dg_tup rfl (dgs_cons (dg_name S_first_false.nd (i := 2) rfl (by first | exact .inl rfl | exact .inr rfl) (by decide)) (dgs_cons (dg_name S_first_false.nd (i := 3) rfl (by first | exact .inl rfl | exact .inr rfl) (by decide)) (dgs_cons (dg_name S_first_false.nd (i := 4) rfl (by first | exact .inl rfl | exact .inr rfl) (by decide)) dgs_nil))))) (fun _ _ _ _ _ => (dts_one (dt_not (dt_val (de_var (pv 4)))))) (fun _ _ _ _ _ => (de_var (pv 2))))
  (dss_one (ds_ret (de_if (dt_cmp (od_ne hu) (de_var (pv 1)) (de_lst da_nil)) (de_ix (de_var (pv 1)) de_int) de_non))))
abbrev s_parting_number : Stmt := top 45
def N_parting_number : List Str := ["one", "other"]
theorem S_parting_number : FnScope N_parting_number ["one", "other"] (defScope s_parting_number) := ⟨rfl, rfl, rfl, by decide +kernel, rfl, by decide +kernel, by decide +kernel⟩
theorem d_parting_number {P : Program} {w : World} {K : PySem.W.Frag} {mg : Str → Option Value} {base : Heap} {F : FAT} {T : List (Addr × Str)} {k : Nat} {f : Addr} {fd : FuncData} (Fd : FnP K "parting_number" s_parting_number f fd) {sp_first_false : DSp} {sp_cut : DSp} {sp_both : DSp} {sp_all_forms : DSp} (g_first_false : GFn P w K mg base F T k "first_false" 1 sp_first_false) (g_cut : GFn P w K mg base F T k "cut" 2 sp_cut) (g_both : GFn P w K mg base F T k "both" 2 sp_both) (g_all_forms : GFn P w K mg base F T k "all_forms" 1 sp_all_forms) (b_len : mg "len" = none) {q_LEAST : Tok} (c_LEAST : mg "LEAST" = some (.int (2) q_LEAST)) {a_is_same : Addr} (v_is_same : ∀ H, F (100) [] H a_is_same) (m_is_same : mg "is_same" = some (.ref a_is_same)) {sp : DSp} (hsp : ∀ (ds : List Dt) (Q : Dt → Prop), ds.length = 2 → sp ds Q → t_parting_number sp_first_false sp_cut sp_both sp_all_forms { nx := fun _ => Q .none, rt := Q } (startD 2 ds)) : FnOk P w K mg base CX0 (k + 1) f fd ["one", "other"] (spD K F T 2 sp) := by
  refine fn_data (N := N_parting_number) (ps := ["one", "other"]) Fd S_parting_number (fun cdv A outer s H E hr => ?_) hsp
  have hu := hr.units
  exact (dss_cons (ds_if (dt_cmp (od_ne hu) (de_blt cd_len rfl b_len boot_len (da_cons (de_ix (de_var (pv 0)) de_int) da_nil)) (de_blt cd_len rfl b_len boot_len (da_cons (de_ix (de_var (pv 1)) de_int) da_nil))) (dss_one (ds_ret (de_gint rfl c_LEAST))) dss_nil)
  (dss_one (ds_ret (de_callG g_first_false hr rfl (da_cons (de_callG g_cut hr rfl (da_cons (de_callG g_both hr rfl (da_cons (de_callG g_all_forms hr rfl (da_cons (de_var (pv 0)) da_nil)) (da_cons (de_callG g_all_forms hr rfl (da_cons (de_var (pv 1)) da_nil)) da_nil))) (da_cons (de_gfun v_is_same rfl m_is_same) da_nil))) da_nil)))))
abbrev s_alike : Stmt := top 46
def N_alike : List Str := ["one", "other"]
theorem S_alike : FnScope N_alike ["one", "other"] (defScope s_alike) := ⟨rfl, rfl, rfl, by decide +kernel, rfl, by decide +kernel, by decide +kernel⟩
theorem d_alike {P : Program} {w : World} {K : PySem.W.Frag} {mg : Str → Option Value} {base : Heap} {F : FAT} {T : List (Addr × Str)} {k : Nat} {f : Addr} {fd : FuncData} (Fd : FnP K "alike" s_alike f fd) {sp_need_two : DSp} {sp_parting_number : DSp} (g_need_two : GFn P w K mg base F T k "need_two" 2 sp_need_two) (g_parting_number : GFn P w K mg base F T k "parting_number" 2 sp_parting_number) {sp : DSp} (hsp : ∀ (ds : List Dt) (Q : Dt → Prop), ds.length = 2 → sp ds Q → t_alike sp_need_two sp_parting_number { nx := fun _ => Q .none, rt := Q } (startD 2 ds)) : FnOk P w K mg base CX0 (k + 1) f fd ["one", "other"] (spD K F T 2 sp) := by
  refine fn_data (N := N_alike) (ps := ["one", "other"]) Fd S_alike (fun cdv A outer s H E hr => ?_) hsp
  have hu := hr.units
  exact (dss_cons (ds_expr (de_callG g_need_two hr rfl (da_cons (de_var (pv 0)) (da_cons (de_var (pv 1)) da_nil))))
  (dss_one (ds_ret (de_cmp od_is (de_callG g_parting_number hr rfl (da_cons (de_var (pv 0)) (da_cons (de_var (pv 1)) da_nil))) de_non))))
abbrev s_parting : Stmt := top 47
def N_parting : List Str := ["one", "other"]
theorem S_parting : FnScope N_parting ["one", "other"] (defScope s_parting) := ⟨rfl, rfl, rfl, by decide +kernel, rfl, by decide +kernel, by decide +kernel⟩
theorem d_parting {P : Program} {w : World} {K : PySem.W.Frag} {mg : Str → Option Value} {base : Heap} {F : FAT} {T : List (Addr × Str)} {k : Nat} {f : Addr} {fd : FuncData} (Fd : FnP K "parting" s_parting f fd) {sp_need_two : DSp} {sp_parting_number : DSp} (g_need_two : GFn P w K mg base F T k "need_two" 2 sp_need_two) (g_parting_number : GFn P w K mg base F T k "parting_number" 2 sp_parting_number) {sp : DSp} (hsp : ∀ (ds : List Dt) (Q : Dt → Prop), ds.length = 2 → sp ds Q → t_parting sp_need_two sp_parting_number { nx := fun _ => Q .none, rt := Q } (startD 2 ds)) : FnOk P w K mg base CX0 (k + 1) f fd ["one", "other"] (spD K F T 2 sp) := by
  refine fn_data (N := N_parting) (ps := ["one", "other"]) Fd S_parting (fun cdv A outer s H E hr => ?_) hsp
  have hu := hr.units
  exact (dss_cons (ds_expr (de_callG g_need_two hr rfl (da_cons (de_var (pv 0)) (da_cons (de_var (pv 1)) da_nil))))
  (dss_one (ds_ret (de_callG g_parting_number hr rfl (da_cons (de_var (pv 0)) (da_cons (de_var (pv 1)) da_nil))))))
abbrev s__law_draw : Stmt := top 50
def N__law_draw : List Str := ["_law_source_here", "_law_many", "_law_found"]
theorem S__law_draw : FnScope N__law_draw ["_law_source_here", "_law_many"] (defScope s__law_draw) := ⟨rfl, rfl, rfl, by decide +kernel, rfl, by decide +kernel, by decide +kernel⟩
theorem d__law_draw {P : Program} {w : World} {K : PySem.W.Frag} {mg : Str → Option Value} {base : Heap} {F : FAT} {T : List (Addr × Str)} {k : Nat} {f : Addr} {fd : FuncData} (Fd : FnP K "_law_draw" s__law_draw f fd) (b_int : mg "int" = none) {sp : DSp} (hsp : ∀ (ds : List Dt) (Q : Dt → Prop), ds.length = 2 → sp ds Q → t__law_draw { nx := fun _ => Q .none, rt := Q } (startD 3 ds)) : FnOk P w K mg base CX0 (k + 1) f fd ["_law_source_here", "_law_many"] (spD K F T 2 sp) := by
  refine fn_data (N := N__law_draw) (ps := ["_law_source_here", "_law_many"]) Fd S__law_draw (fun cdv A outer s H E hr => ?_) hsp
  have hu := hr.units
  exact (dss_cons (ds_if (dt_cmp od_gt (de_src (de_var (pv 0)) de_int) de_int) (dss_cons (ds_set S__law_draw.nd (i := 2) rfl (by first | exact .inl rfl | exact .inr rfl) (de_op od_mod (de_bty cd_int rfl b_int boot_int (da_cons (de_src (de_var (pv 0)) de_int) da_nil)) (de_var (pv 1))))
  (dss_cons (ds_src (de_var (pv 0)) de_int (de_op od_fdv (de_src (de_var (pv 0)) de_int) (de_var (pv 1))))
  (dss_one (ds_ret (de_var (pv 2)))))) dss_nil)
  (dss_cons (ds_src (de_var (pv 0)) de_int (de_op od_mod (de_bty cd_int rfl b_int boot_int (da_cons (de_op od_mul (de_src (de_var (pv 0)) de_int) de_int) da_nil)) de_int))
  (dss_one (ds_ret (de_op od_mod (de_bty cd_int rfl b_int boot_int (da_cons (de_op od_fdv (de_op od_mod (de_bty cd_int rfl b_int boot_int (da_cons (de_op od_mul (de_src (de_var (pv 0)) de_int) (de_src (de_var (pv 0)) de_int)) da_nil)) de_int) de_int) da_nil)) (de_var (pv 1)))))))
abbrev s__law_of : Stmt := top 51
def N__law_of : List Str := ["_law_source_here", "_law_items"]
theorem S__law_of : FnScope N__law_of ["_law_source_here", "_law_items"] (defScope s__law_of) := ⟨rfl, rfl, rfl, by decide +kernel, rfl, by decide +kernel, by decide +kernel⟩
theorem d__law_of {P : Program} {w : World} {K : PySem.W.Frag} {mg : Str → Option Value} {base : Heap} {F : FAT} {T : List (Addr × Str)} {k : Nat} {f : Addr} {fd : FuncData} (Fd : FnP K "_law_of" s__law_of f fd) {sp__law_draw : DSp} (g__law_draw : GFn P w K mg base F T k "_law_draw" 2 sp__law_draw) (b_len : mg "len" = none) {sp : DSp} (hsp : ∀ (ds : List Dt) (Q : Dt → Prop), ds.length = 2 → sp ds Q → t__law_of sp__law_draw { nx := fun _ => Q .none, rt := Q } (startD 2 ds)) : FnOk P w K mg base CX0 (k + 1) f fd ["_law_source_here", "_law_items"] (spD K F T 2 sp) := by
  refine fn_data (N := N__law_of) (ps := ["_law_source_here", "_law_items"]) Fd S__law_of (fun cdv A outer s H E hr => ?_) hsp
  have hu := hr.units
  exact (dss_one (ds_ret (de_ix (de_var (pv 1)) (de_callG g__law_draw hr rfl (da_cons (de_var (pv 0)) (da_cons (de_blt cd_len rfl b_len boot_len (da_cons (de_var (pv 1)) da_nil)) da_nil))))))
abbrev s__law_rule : Stmt := top 52
def N__law_rule : List Str := ["_law_source_here"]
theorem S__law_rule : FnScope N__law_rule ["_law_source_here"] (defScope s__law_rule) := ⟨rfl, rfl, rfl, by decide +kernel, rfl, by decide +kernel, by decide +kernel⟩
theorem d__law_rule {P : Program} {w : World} {K : PySem.W.Frag} {mg : Str → Option Value} {base : Heap} {F : FAT} {T : List (Addr × Str)} {k : Nat} {f : Addr} {fd : FuncData} (Fd : FnP K "_law_rule" s__law_rule f fd) {sp__law_of : DSp} (g__law_of : GFn P w K mg base F T k "_law_of" 2 sp__law_of) {sp : DSp} (hsp : ∀ (ds : List Dt) (Q : Dt → Prop), ds.length = 1 → sp ds Q → t__law_rule sp__law_of { nx := fun _ => Q .none, rt := Q } (startD 1 ds)) : FnOk P w K mg base CX0 (k + 1) f fd ["_law_source_here"] (spD K F T 1 sp) := by
  refine fn_data (N := N__law_rule) (ps := ["_law_source_here"]) Fd S__law_rule (fun cdv A outer s H E hr => ?_) hsp
  have hu := hr.units
  exact (dss_one (ds_ret (de_callG g__law_of hr rfl (da_cons (de_var (pv 0)) (da_cons (de_lst (da_cons (de_tup (da_cons de_str da_nil)) (da_cons (de_tup (da_cons de_str da_nil)) (da_cons (de_tup (da_cons de_str da_nil)) (da_cons (de_tup (da_cons de_str (da_cons de_int da_nil))) (da_cons (de_tup (da_cons de_str (da_cons de_int da_nil))) (da_cons (de_tup (da_cons de_str (da_cons de_int da_nil))) da_nil))))))) da_nil)))))
abbrev s__law_plan : Stmt := top 53
def N__law_plan : List Str := ["_law_source_here", "_law_most", "_law_boats", "_law_turn", "_law_start", "_law_way"]
theorem S__law_plan : FnScope N__law_plan ["_law_source_here", "_law_most"] (defScope s__law_plan) := ⟨rfl, rfl, rfl, by decide +kernel, rfl, by decide +kernel, by decide +kernel⟩
theorem d__law_plan {P : Program} {w : World} {K : PySem.W.Frag} {mg : Str → Option Value} {base : Heap} {F : FAT} {T : List (Addr × Str)} {k : Nat} {f : Addr} {fd : FuncData} (Fd : FnP K "_law_plan" s__law_plan f fd) {sp__law_draw : DSp} {sp__law_of : DSp} {sp__law_rule : DSp} (g__law_draw : GFn P w K mg base F T k "_law_draw" 2 sp__law_draw) (g__law_of : GFn P w K mg base F T k "_law_of" 2 sp__law_of) (g__law_rule : GFn P w K mg base F T k "_law_rule" 1 sp__law_rule) (b_range : mg "range" = none) {sp : DSp} (hsp : ∀ (ds : List Dt) (Q : Dt → Prop), ds.length = 2 → sp ds Q → t__law_plan sp__law_draw sp__law_of sp__law_rule { nx := fun _ => Q .none, rt := Q } (startD 6 ds)) : FnOk P w K mg base CX0 (k + 1) f fd ["_law_source_here", "_law_most"] (spD K F T 2 sp) := by
  refine fn_data (N := N__law_plan) (ps := ["_law_source_here", "_law_most"]) Fd S__law_plan (fun cdv A outer s H E hr => ?_) hsp
  have hu := hr.units
  exact (dss_cons (ds_set S__law_plan.nd (i := 2) rfl (by first | exact .inl rfl | exact .inr rfl) (de_tup da_nil))
  (dss_cons (ds_for (vs := [3]) PassesOwn.never rfl (di_rng1 rfl b_range (da_cons (de_op od_add de_int (de_callG g__law_draw hr rfl (da_cons (de_var (pv 0)) (da_cons (de_var (pv 1)) da_nil)))) da_nil)) (dg_name S__law_plan.nd (i := 3) rfl (by first | exact .inl rfl | exact .inr rfl) (by decide)) (dss_cons (ds_set S__law_plan.nd (i := 4) rfl (by first | exact .inl rfl | exact .inr rfl) (de_callG g__law_of hr rfl (da_cons (de_var (pv 0)) (da_cons (de_lst (da_cons de_int (da_cons (de_callG g__law_draw hr rfl (da_cons (de_var (pv 0)) (da_cons de_int da_nil))) (da_cons (de_callG g__law_draw hr rfl (da_cons (de_var (pv 0)) (da_cons de_int da_nil))) da_nil)))) da_nil))))
  (dss_cons (ds_set S__law_plan.nd (i := 5) rfl (by first | exact .inl rfl | exact .inr rfl) (de_callG g__law_of hr rfl (da_cons (de_var (pv 0)) (da_cons (de_lst (da_cons de_str (da_cons de_str da_nil))) da_nil))))
  (dss_one (ds_set S__law_plan.nd (i := 2) rfl (by first | exact .inl rfl | exact .inr rfl) (de_op od_add (de_var (pv 2)) (de_tup (da_cons (de_tup (da_cons (de_var (pv 5)) (da_cons (de_var (pv 4)) (da_cons (de_op od_add de_int (de_callG g__law_draw hr rfl (da_cons (de_var (pv 0)) (da_cons de_int da_nil)))) da_nil)))) da_nil))))))))
  (dss_one (ds_ret (de_tup (da_cons (de_callG g__law_draw hr rfl (da_cons (de_var (pv 0)) (da_cons de_int da_nil))) (da_cons (de_callG g__law_rule hr rfl (da_cons (de_var (pv 0)) da_nil)) (da_cons (de_var (pv 2)) da_nil))))))))
abbrev s__law_n : Stmt := top 54
def N__law_n : List Str := ["_law_source_here", "_law_small", "_law_great"]
theorem S__law_n : FnScope N__law_n ["_law_source_here"] (defScope s__law_n) := ⟨rfl, rfl, rfl, by decide +kernel, rfl, by decide +kernel, by decide +kernel⟩
theorem d__law_n {P : Program} {w : World} {K : PySem.W.Frag} {mg : Str → Option Value} {base : Heap} {F : FAT} {T : List (Addr × Str)} {k : Nat} {f : Addr} {fd : FuncData} (Fd : FnP K "_law_n" s__law_n f fd) {sp__law_draw : DSp} {sp__law_of : DSp} (g__law_draw : GFn P w K mg base F T k "_law_draw" 2 sp__law_draw) (g__law_of : GFn P w K mg base F T k "_law_of" 2 sp__law_of) {sp : DSp} (hsp : ∀ (ds : List Dt) (Q : Dt → Prop), ds.length = 1 → sp ds Q → t__law_n sp__law_draw sp__law_of { nx := fun _ => Q .none, rt := Q } (startD 3 ds)) : FnOk P w K mg base CX0 (k + 1) f fd ["_law_source_here"] (spD K F T 1 sp) := by
  refine fn_data (N := N__law_n) (ps := ["_law_source_here"]) Fd S__law_n (fun cdv A outer s H E hr => ?_) hsp
  have hu := hr.units
  exact (dss_cons (ds_par rfl S__law_n.nd (i := 1) (j := 2) rfl rfl (by decide) rfl rfl (da_cons (de_op od_add de_int (de_callG g__law_draw hr rfl (da_cons (de_var (pv 0)) (da_cons de_int da_nil)))) (da_cons (de_op od_add (de_op od_pow de_int de_int) (de_callG g__law_draw hr rfl (da_cons (de_var (pv 0)) (da_cons (de_op od_pow de_int de_int) da_nil)))) da_nil)) rfl)
  (dss_one (ds_ret (de_callG g__law_of hr rfl (da_cons (de_var (pv 0)) (da_cons (de_lst (da_cons de_int (da_cons (de_var (pv 1)) (da_cons (de_op od_add (de_var (pv 1)) (de_callG g__law_draw hr rfl (da_cons (de_var (pv 0)) (da_cons de_int da_nil)))) (da_cons (de_var (pv 2)) (da_cons (de_op od_pow de_int de_int) da_nil)))))) da_nil))))))
abbrev s__law_step : Stmt := top 55
def N__law_step : List Str := ["_law_plan_here", "_law_done_here", "_law_boat", "_law_way", "_law_start", "_law_pace", "_law_wrong"]
theorem S__law_step : FnScope N__law_step ["_law_plan_here", "_law_done_here", "_law_boat"] (defScope s__law_step) := ⟨rfl, rfl, rfl, by decide +kernel, rfl, by decide +kernel, by decide +kernel⟩
theorem d__law_step {P : Program} {w : World} {K : PySem.W.Frag} {mg : Str → Option Value} {base : Heap} {F : FAT} {T : List (Addr × Str)} {k : Nat} {f : Addr} {fd : FuncData} (Fd : FnP K "_law_step" s__law_step f fd) {sp : DSp} (hsp : ∀ (ds : List Dt) (Q : Dt → Prop), ds.length = 3 → sp ds Q → t__law_step { nx := fun _ => Q .none, rt := Q } (startD 7 ds)) : FnOk P w K mg base CX0 (k + 1) f fd ["_law_plan_here", "_law_done_here", "_law_boat"] (spD K F T 3 sp) := by
  refine fn_data (N := N__law_step) (ps := ["_law_plan_here", "_law_done_here", "_law_boat"]) Fd S__law_step (fun cdv A outer s H E hr => ?_) hsp
  have hu := hr.units
  exact (dss_cons (ds_asg (vs := [3, 4, 5]) (de_ix (de_ix (de_var (pv 0)) de_int) (de_var (pv 2))) (dg_tup rfl (dgs_cons (dg_name S__law_step.nd (i := 3) rfl (by first | exact .inl rfl | exact .inr rfl) (by decide)) (dgs_cons (dg_name S__law_step.nd (i := 4) rfl (by first | exact .inl rfl | exact .inr rfl) (by decide)) (dgs_cons (dg_name S__law_step.nd (i := 5) rfl (by first | exact .inl rfl | exact .inr rfl) (by decide)) dgs_nil)))))
  (dss_cons (ds_set S__law_step.nd (i := 6) rfl (by first | exact .inl rfl | exact .inr rfl) (de_cmp (od_eq hu) (de_var (pv 3)) de_str))
  (dss_cons (ds_if (dt_cmp (od_ne hu) (de_var (pv 1)) (de_lst da_nil)) (dss_one (ds_set S__law_step.nd (i := 6) rfl (by first | exact .inl rfl | exact .inr rfl) (de_cmp (od_eq hu) (de_ix (de_ix (de_ix (de_var (pv 0)) de_int) (de_ix (de_ix (de_var (pv 1)) (de_un ud_neg de_int)) de_int)) de_int) (de_var (pv 3))))) dss_nil)
  (dss_one (ds_ret (de_op od_add (de_var (pv 5)) (de_if (dt_val (de_var (pv 6))) (de_ix (de_var (pv 0)) de_int) de_int)))))))
abbrev s__law_limits : Stmt := top 56
def N__law_limits : List Str := ["_law_plan_here", "_law_done_here", "_law_boat", "_law_way", "_law_start", "_law_pace", "_law_found", "_law_last", "_law_into", "_law_out", "_law_step_here"]
theorem S__law_limits : FnScope N__law_limits ["_law_plan_here", "_law_done_here", "_law_boat"] (defScope s__law_limits) := ⟨rfl, rfl, rfl, by decide +kernel, rfl, by decide +kernel, by decide +kernel⟩
theorem d__law_limits {P : Program} {w : World} {K : PySem.W.Frag} {mg : Str → Option Value} {base : Heap} {F : FAT} {T : List (Addr × Str)} {k : Nat} {f : Addr} {fd : FuncData} (Fd : FnP K "_law_limits" s__law_limits f fd) {sp__law_step : DSp} (g__law_step : GFn P w K mg base F T k "_law_step" 3 sp__law_step) {sp : DSp} (hsp : ∀ (ds : List Dt) (Q : Dt → Prop), ds.length = 3 → sp ds Q → t__law_limits sp__law_step { nx := fun _ => Q .none, rt := Q } (startD 11 ds)) : FnOk P w K mg base CX0 (k + 1) f fd ["_law_plan_here", "_law_done_here", "_law_boat"] (spD K F T 3 sp) := by
  refine fn_data (N := N__law_limits) (ps := ["_law_plan_here", "_law_done_here", "_law_boat"]) Fd S__law_limits (fun cdv A outer s H E hr => ?_) hsp
  have hu := hr.units
  exact (dss_cons (ds_asg (vs := [3, 4, 5]) (de_ix (de_ix (de_var (pv 0)) de_int) (de_var (pv 2))) (dg_tup rfl (dgs_cons (dg_name S__law_limits.nd (i := 3) rfl (by first | exact .inl rfl | exact .inr rfl) (by decide)) (dgs_cons (dg_name S__law_limits.nd (i := 4) rfl (by first | exact .inl rfl | exact .inr rfl) (by decide)) (dgs_cons (dg_name S__law_limits.nd (i := 5) rfl (by first | exact .inl rfl | exact .inr rfl) (by decide)) dgs_nil)))))
  (dss_cons (ds_new S__law_limits.nd (i := 6) rfl (by first | exact .inl rfl | exact .inr rfl) (da_cons (de_tup (da_cons de_int (da_cons (de_var (pv 4)) da_nil))) da_nil))
  (dss_cons (ds_if (dt_cmp (od_ne hu) (de_var (pv 1)) (de_lst da_nil)) (dss_cons (ds_asg (vs := [7, 8, 9]) (de_ix (de_var (pv 1)) (de_un ud_neg de_int)) (dg_tup rfl (dgs_cons (dg_name S__law_limits.nd (i := 7) rfl (by first | exact .inl rfl | exact .inr rfl) (by decide)) (dgs_cons (dg_name S__law_limits.nd (i := 8) rfl (by first | exact .inl rfl | exact .inr rfl) (by decide)) (dgs_cons (dg_name S__law_limits.nd (i := 9) rfl (by first | exact .inl rfl | exact .inr rfl) (by decide)) dgs_nil)))))
  (dss_cons (ds_if (dt_cmp (od_ne hu) (de_ix (de_ix (de_ix (de_var (pv 0)) de_int) (de_var (pv 7))) de_int) (de_var (pv 3))) (dss_one (ds_ret (de_op od_add (de_var (pv 6)) (de_lst (da_cons (de_var (pv 9)) da_nil))))) dss_nil)
  (dss_cons (ds_app (i := 6) (pv 6) (de_tup (da_cons (de_ix (de_var (pv 8)) de_int) (da_cons (de_op od_sub (de_op od_add (de_ix (de_var (pv 8)) de_int) (de_ix (de_var (pv 9)) de_int)) (de_ix (de_var (pv 8)) de_int)) da_nil))))
  (dss_cons (ds_set S__law_limits.nd (i := 10) rfl (by first | exact .inl rfl | exact .inr rfl) (de_callG g__law_step hr rfl (da_cons (de_var (pv 0)) (da_cons (de_var (pv 1)) (da_cons (de_var (pv 2)) da_nil)))))
  (dss_one (ds_app (i := 6) (pv 6) (de_tup (da_cons (de_op od_sub (de_ix (de_var (pv 9)) de_int) (de_var (pv 10))) (da_cons (de_op od_add (de_ix (de_var (pv 9)) de_int) (de_var (pv 10))) da_nil))))))))) dss_nil)
  (dss_one (ds_ret (de_var (pv 6)))))))
abbrev s__law_top : Stmt := top 57
def N__law_top : List Str := ["_law_some", "_law_n_here", "_law_worths", "_law_a", "_law_b"]
theorem S__law_top : FnScope N__law_top ["_law_some", "_law_n_here"] (defScope s__law_top) := ⟨rfl, rfl, rfl, by decide +kernel, rfl, by decide +kernel, by decide +kernel⟩
theorem d__law_top {P : Program} {w : World} {K : PySem.W.Frag} {mg : Str → Option Value} {base : Heap} {F : FAT} {T : List (Addr × Str)} {k : Nat} {f : Addr} {fd : FuncData} (Fd : FnP K "_law_top" s__law_top f fd) (b_max : mg "max" = none) {sp : DSp} (hsp : ∀ (ds : List Dt) (Q : Dt → Prop), ds.length = 2 → sp ds Q → t__law_top { nx := fun _ => Q .none, rt := Q } (startD 5 ds)) : FnOk P w K mg base CX0 (k + 1) f fd ["_law_some", "_law_n_here"] (spD K F T 2 sp) := by
  refine fn_data (N := N__law_top) (ps := ["_law_some", "_law_n_here"]) Fd S__law_top (fun cdv A outer s H E hr => ?_) hsp
  have hu := hr.units
  exact (dss_cons (ds_setLc (own := [("_law_a", 3), ("_law_b", 4)]) rfl S__law_top.nd (i := 2) rfl rfl (sw_true rfl rfl rfl (by decide +kernel)) (di_list (de_var (pv 0))) (blkOk_by (N := N__law_top) (sc := defScope s__law_top) (own := [("_law_a", 3), ("_law_b", 4)]) (by decide +kernel)) (fun _ _ _ _ _ => (dg_tup rfl (dgs_cons (dg_name S__law_top.nd (i := 3) rfl (by first | exact .inl rfl | exact .inr rfl) (by decide)) (dgs_cons (dg_name S__law_top.nd (i := 4) rfl (by first | exact .inl rfl | exact .inr rfl) (by decide)) dgs_nil)))) (fun _ _ _ _ _ => dts_nil) (fun _ _ _ _ _ => (de_op od_add (de_op od_mul (de_var (pv 3)) (de_var (pv 1))) (de_var (pv 4)))))
  (dss_one (ds_ret (de_ix (de_var (pv 0)) (de_index (de_var (pv 2)) (de_blt (cd_maxI rfl) rfl b_max boot_max (da_cons (de_var (pv 2)) da_nil)))))))
abbrev s__law_heads : Stmt := top 58
def N__law_heads : List Str := ["_law_plan_here", "_law_done_here", "_law_gone", "_law_found", "_law_way", "_law_some", "_law_at", "_law_boat", "_law_one", "_law_into", "_law_out"]
theorem S__law_heads : FnScope N__law_heads ["_law_plan_here", "_law_done_here"] (defScope s__law_heads) := ⟨rfl, rfl, rfl, by decide +kernel, rfl, by decide +kernel, by decide +kernel⟩
theorem d__law_heads {P : Program} {w : World} {K : PySem.W.Frag} {mg : Str → Option Value} {base : Heap} {F : FAT} {T : List (Addr × Str)} {k : Nat} {f : Addr} {fd : FuncData} (Fd : FnP K "_law_heads" s__law_heads f fd) (b_enumerate : mg "enumerate" = none) (b_min : mg "min" = none) {sp : DSp} (hsp : ∀ (ds : List Dt) (Q : Dt → Prop), ds.length = 2 → sp ds Q → t__law_heads { nx := fun _ => Q .none, rt := Q } (startD 11 ds)) : FnOk P w K mg base CX0 (k + 1) f fd ["_law_plan_here", "_law_done_here"] (spD K F T 2 sp) := by
  refine fn_data (N := N__law_heads) (ps := ["_law_plan_here", "_law_done_here"]) Fd S__law_heads (fun cdv A outer s H E hr => ?_) hsp
  have hu := hr.units
  exact (dss_cons (ds_par rfl S__law_heads.nd (i := 2) (j := 3) rfl rfl (by decide) rfl rfl (da_cons (de_lc (own := [("_law_one", 8), ("_law_into", 9), ("_law_out", 10)]) rfl S__law_heads.nd (di_list (de_var (pv 1))) (blkOk_by (N := N__law_heads) (sc := defScope s__law_heads) (own := [("_law_one", 8), ("_law_into", 9), ("_law_out", 10)]) (by decide +kernel)) (fun _ _ _ _ _ => (dg_tup rfl (dgs_cons (dg_name S__law_heads.nd (i := 8) rfl (by first | exact .inl rfl | exact .inr rfl) (by decide)) (dgs_cons (dg_name S__law_heads.nd (i := 9) rfl (by first | exact .inl rfl | exact .inr rfl) (by decide)) (dgs_cons (dg_name S__law_heads.nd (i := 10) rfl (by first | exact .inl rfl | exact .inr rfl) (by decide)) dgs_nil))))) (fun _ _ _ _ _ => dts_nil) (fun _ _ _ _ _ => (de_var (pv 8)))) (da_cons (de_lst da_nil) da_nil)) rfl)
  (dss_cons (ds_for (vs := [4]) PassesOwn.never rfl (di_list (de_lst (da_cons de_str (da_cons de_str da_nil)))) (dg_name S__law_heads.nd (i := 4) rfl (by first | exact .inl rfl | exact .inr rfl) (by decide)) (dss_cons (ds_new S__law_heads.nd (i := 5) rfl (by first | exact .inl rfl | exact .inr rfl) da_nil)
  (dss_cons (ds_for (vs := [6, 7]) PassesOwn.never rfl (di_enum rfl b_enumerate (da_cons (de_ix (de_var (pv 0)) de_int) da_nil)) (dg_tup rfl (dgs_cons (dg_name S__law_heads.nd (i := 6) rfl (by first | exact .inl rfl | exact .inr rfl) (by decide)) (dgs_cons (dg_name S__law_heads.nd (i := 7) rfl (by first | exact .inl rfl | exact .inr rfl) (by decide)) dgs_nil))) (dss_one (ds_if (dw_pt (dw_and (dt_cmp od_nin (de_var (pv 6)) (de_var (pv 2))) (dw_and1 (dt_cmp (od_eq hu) (de_ix (de_var (pv 7)) de_int) (de_var (pv 4)))))) (dss_one (ds_app (i := 5) (pv 5) (de_tup (da_cons (de_ix (de_var (pv 7)) de_int) (da_cons (de_var (pv 6)) da_nil))))) dss_nil)))
  (dss_one (ds_set S__law_heads.nd (i := 3) rfl (by first | exact .inl rfl | exact .inr rfl) (de_op od_add (de_var (pv 3)) (de_if (dt_frz (dt_cmp (od_ne hu) (de_var (pv 5)) (de_lst da_nil))) (de_lst (da_cons (de_frz (de_ix (de_blt (cd_minD rfl hu) rfl b_min boot_min (da_cons (de_var (pv 5)) da_nil)) de_int)) da_nil)) (de_lst da_nil))))))))
  (dss_one (ds_ret (de_var (pv 3))))))
abbrev s__law_next : Stmt := top 59
def N__law_next : List Str := ["_law_plan_here", "_law_done_here", "_law_n_here", "_law_heads_here", "_law_boats", "_law_early", "_law_last", "_law_rows", "_law_at", "_law_a", "_law_b", "_law_many", "_law_one", "_law_into", "_law_out", "_law_same", "_law_other"]
theorem S__law_next : FnScope N__law_next ["_law_plan_here", "_law_done_here", "_law_n_here"] (defScope s__law_next) := ⟨rfl, rfl, rfl, by decide +kernel, rfl, by decide +kernel, by decide +kernel⟩
theorem d__law_next {P : Program} {w : World} {K : PySem.W.Frag} {mg : Str → Option Value} {base : Heap} {F : FAT} {T : List (Addr × Str)} {k : Nat} {f : Addr} {fd : FuncData} (Fd : FnP K "_law_next" s__law_next f fd) {sp__law_heads : DSp} {sp__law_top : DSp} {sp__law_limits : DSp} (g__law_heads : GFn P w K mg base F T k "_law_heads" 2 sp__law_heads) (g__law_top : GFn P w K mg base F T k "_law_top" 2 sp__law_top) (g__law_limits : GFn P w K mg base F T k "_law_limits" 3 sp__law_limits) (b_len : mg "len" = none) (b_min : mg "min" = none) (b_int : mg "int" = none) {sp : DSp} (hsp : ∀ (ds : List Dt) (Q : Dt → Prop), ds.length = 3 → sp ds Q → t__law_next sp__law_heads sp__law_top sp__law_limits { nx := fun _ => Q .none, rt := Q } (startD 17 ds)) : FnOk P w K mg base CX0 (k + 1) f fd ["_law_plan_here", "_law_done_here", "_law_n_here"] (spD K F T 3 sp) := by
  refine fn_data (N := N__law_next) (ps := ["_law_plan_here", "_law_done_here", "_law_n_here"]) Fd S__law_next (fun cdv A outer s H E hr => ?_) hsp
  have hu := hr.units
  exact (dss_cons (ds_asg (vs := [3, 4]) (de_tup (da_cons (de_callG g__law_heads hr rfl (da_cons (de_var (pv 0)) (da_cons (de_var (pv 1)) da_nil))) (da_cons (de_ix (de_var (pv 0)) de_int) da_nil))) (dg_tup rfl (dgs_cons (dg_name S__law_next.nd (i := 3) rfl (by first | exact .inl rfl | exact .inr rfl) (by decide)) (dgs_cons (dg_name S__law_next.nd (i := 4) rfl (by first | exact .inl rfl | exact .inr rfl) (by decide)) dgs_nil))))
  (dss_cons (ds_if (dt_cmp (od_eq hu) (de_blt cd_len rfl b_len boot_len (da_cons (de_var (pv 3)) da_nil)) de_int) (dss_one (ds_ret (de_ix (de_var (pv 3)) de_int))) dss_nil)
  (dss_cons (ds_set S__law_next.nd (i := 5) rfl (by first | exact .inl rfl | exact .inr rfl) (de_ix (de_blt (cd_minD rfl hu) rfl b_min boot_min (da_cons (de_lc (own := [("_law_at", 8)]) rfl S__law_next.nd (di_list (de_var (pv 3))) (blkOk_by (N := N__law_next) (sc := defScope s__law_next) (own := [("_law_at", 8)]) (by decide +kernel)) (fun _ _ _ _ _ => (dg_name S__law_next.nd (i := 8) rfl (by first | exact .inl rfl | exact .inr rfl) (by decide))) (fun _ _ _ _ _ => dts_nil) (fun _ _ _ _ _ => (de_tup (da_cons (de_ix (de_ix (de_var (pv 4)) (de_var (pv 8))) de_int) (da_cons (de_var (pv 8)) da_nil))))) da_nil)) de_int))
  (dss_cons (ds_if (dt_cmp (od_eq hu) (de_ix (de_var (pv 0)) de_int) (de_tup (da_cons de_str da_nil))) (dss_one (ds_ret (de_var (pv 5)))) dss_nil)
  (dss_cons (ds_set S__law_next.nd (i := 6) rfl (by first | exact .inl rfl | exact .inr rfl) (de_if (dt_cmp (od_ne hu) (de_var (pv 1)) (de_lst da_nil)) (de_ix (de_ix (de_var (pv 4)) (de_ix (de_ix (de_var (pv 1)) (de_un ud_neg de_int)) de_int)) de_int) de_str))
  (dss_cons (ds_if (dt_cmp (od_eq hu) (de_ix (de_var (pv 0)) de_int) (de_tup (da_cons de_str da_nil))) (dss_cons (ds_new S__law_next.nd (i := 7) rfl (by first | exact .inl rfl | exact .inr rfl) da_nil)
  (dss_cons (ds_for (vs := [8]) PassesOwn.never rfl (di_list (de_var (pv 3))) (dg_name S__law_next.nd (i := 8) rfl (by first | exact .inl rfl | exact .inr rfl) (by decide)) (dss_cons (ds_asg (vs := [9, 10]) (de_callG g__law_top hr rfl (da_cons (de_callG g__law_limits hr rfl (da_cons (de_var (pv 0)) (da_cons (de_var (pv 1)) (da_cons (de_var (pv 8)) da_nil)))) (da_cons (de_var (pv 2)) da_nil))) (dg_tup rfl (dgs_cons (dg_name S__law_next.nd (i := 9) rfl (by first | exact .inl rfl | exact .inr rfl) (by decide)) (dgs_cons (dg_name S__law_next.nd (i := 10) rfl (by first | exact .inl rfl | exact .inr rfl) (by decide)) dgs_nil))))
  (dss_one (ds_app (i := 7) (pv 7) (de_tup (da_cons (de_op od_add (de_op od_mul (de_var (pv 9)) (de_var (pv 2))) (de_var (pv 10))) (da_cons (de_bty cd_int rfl b_int boot_int (da_cons (de_cmp (od_ne hu) (de_ix (de_ix (de_var (pv 4)) (de_var (pv 8))) de_int) (de_var (pv 6))) da_nil)) (da_cons (de_var (pv 8)) da_nil))))))))
  (dss_one (ds_ret (de_ix (de_blt (cd_minD rfl hu) rfl b_min boot_min (da_cons (de_var (pv 7)) da_nil)) de_int))))) dss_nil)
  (dss_cons (ds_set S__law_next.nd (i := 11) rfl (by first | exact .inl rfl | exact .inr rfl) de_int)
  (dss_cons (ds_for (vs := [12, 13, 14]) PassesOwn.never rfl (di_list (de_var (pv 1))) (dg_tup rfl (dgs_cons (dg_name S__law_next.nd (i := 12) rfl (by first | exact .inl rfl | exact .inr rfl) (by decide)) (dgs_cons (dg_name S__law_next.nd (i := 13) rfl (by first | exact .inl rfl | exact .inr rfl) (by decide)) (dgs_cons (dg_name S__law_next.nd (i := 14) rfl (by first | exact .inl rfl | exact .inr rfl) (by decide)) dgs_nil)))) (dss_one (ds_set S__law_next.nd (i := 11) rfl (by first | exact .inl rfl | exact .inr rfl) (de_if (dt_cmp (od_eq hu) (de_ix (de_ix (de_var (pv 4)) (de_var (pv 12))) de_int) (de_var (pv 6))) (de_op od_add (de_var (pv 11)) de_int) de_int))))
  (dss_cons (ds_if (dt_cmp (od_eq hu) (de_var (pv 1)) (de_lst da_nil)) (dss_one (ds_ret (de_var (pv 5)))) dss_nil)
  (dss_cons (ds_setLc (own := [("_law_at", 8)]) rfl S__law_next.nd (i := 15) rfl rfl (sw_true rfl rfl rfl (by decide +kernel)) (di_list (de_var (pv 3))) (blkOk_by (N := N__law_next) (sc := defScope s__law_next) (own := [("_law_at", 8)]) (by decide +kernel)) (fun _ _ _ _ _ => (dg_name S__law_next.nd (i := 8) rfl (by first | exact .inl rfl | exact .inr rfl) (by decide))) (fun _ _ _ _ _ => (dts_one (dt_cmp (od_eq hu) (de_ix (de_ix (de_var (pv 4)) (de_var (pv 8))) de_int) (de_var (pv 6))))) (fun _ _ _ _ _ => (de_var (pv 8))))
  (dss_cons (ds_setLc (own := [("_law_at", 8)]) rfl S__law_next.nd (i := 16) rfl rfl (sw_true rfl rfl rfl (by decide +kernel)) (di_list (de_var (pv 3))) (blkOk_by (N := N__law_next) (sc := defScope s__law_next) (own := [("_law_at", 8)]) (by decide +kernel)) (fun _ _ _ _ _ => (dg_name S__law_next.nd (i := 8) rfl (by first | exact .inl rfl | exact .inr rfl) (by decide))) (fun _ _ _ _ _ => (dts_one (dt_cmp (od_ne hu) (de_ix (de_ix (de_var (pv 4)) (de_var (pv 8))) de_int) (de_var (pv 6))))) (fun _ _ _ _ _ => (de_var (pv 8))))
  (dss_one (ds_ret (de_if (dt_cmp od_lt (de_var (pv 11)) (de_ix (de_ix (de_var (pv 0)) de_int) de_int)) (de_ix (de_var (pv 15)) de_int) (de_ix (de_var (pv 16)) de_int)))))))))))))))
abbrev s__law_done : Stmt := top 60
def N__law_done : List Str := ["_law_plan_here", "_law_n_here", "_law_done_here", "_law_turn", "_law_boat", "_law_into", "_law_step_here"]
theorem S__law_done : FnScope N__law_done ["_law_plan_here", "_law_n_here"] (defScope s__law_done) := ⟨rfl, rfl, rfl, by decide +kernel, rfl, by decide +kernel, by decide +kernel⟩
theorem d__law_done {P : Program} {w : World} {K : PySem.W.Frag} {mg : Str → Option Value} {base : Heap} {F : FAT} {T : List (Addr × Str)} {k : Nat} {f : Addr} {fd : FuncData} (Fd : FnP K "_law_done" s__law_done f fd) {sp__law_next : DSp} {sp__law_top : DSp} {sp__law_limits : DSp} {sp__law_step : DSp} (g__law_next : GFn P w K mg base F T k "_law_next" 3 sp__law_next) (g__law_top : GFn P w K mg base F T k "_law_top" 2 sp__law_top) (g__law_limits : GFn P w K mg base F T k "_law_limits" 3 sp__law_limits) (g__law_step : GFn P w K mg base F T k "_law_step" 3 sp__law_step) (b_len : mg "len" = none) (b_range : mg "range" = none) {sp : DSp} (hsp : ∀ (ds : List Dt) (Q : Dt → Prop), ds.length = 2 → sp ds Q → t__law_done sp__law_next sp__law_top sp__law_limits sp__law_step { nx := fun _ => Q .none, rt := Q } (startD 7 ds)) : FnOk P w K mg base CX0 (k + 1) f fd ["_law_plan_here", "_law_n_here"] (spD K F T 2 sp) := by
  refine fn_data (N := N__law_done) (ps := ["_law_plan_here", "_law_n_here"]) Fd S__law_done (fun cdv A outer s H E hr => ?_) hsp
  have hu := hr.units
  exact (dss_cons (ds_new S__law_done.nd (i := 2) rfl (by first | exact .inl rfl | exact .inr rfl) da_nil)
  (dss_cons (ds_for (vs := [3]) PassesOwn.never rfl (di_rng1 rfl b_range (da_cons (de_blt cd_len rfl b_len boot_len (da_cons (de_ix (de_var (pv 0)) de_int) da_nil)) da_nil)) (dg_name S__law_done.nd (i := 3) rfl (by first | exact .inl rfl | exact .inr rfl) (by decide)) (dss_cons (ds_set S__law_done.nd (i := 4) rfl (by first | exact .inl rfl | exact .inr rfl) (de_frz (de_callG g__law_next hr rfl (da_cons (de_var (pv 0)) (da_cons (de_var (pv 2)) (da_cons (de_var (pv 1)) da_nil))))))
  (dss_cons (ds_set S__law_done.nd (i := 5) rfl (by first | exact .inl rfl | exact .inr rfl) (de_frz (de_callG g__law_top hr rfl (da_cons (de_callG g__law_limits hr rfl (da_cons (de_var (pv 0)) (da_cons (de_var (pv 2)) (da_cons (de_var (pv 4)) da_nil)))) (da_cons (de_var (pv 1)) da_nil)))))
  (dss_cons (ds_set S__law_done.nd (i := 6) rfl (by first | exact .inl rfl | exact .inr rfl) (de_frz (de_callG g__law_step hr rfl (da_cons (de_var (pv 0)) (da_cons (de_var (pv 2)) (da_cons (de_var (pv 4)) da_nil))))))
  (dss_one (ds_app (i := 2) (pv 2) (de_tup (da_cons (de_var (pv 4)) (da_cons (de_var (pv 5)) (da_cons (de_tup (da_cons (de_op od_add (de_ix (de_var (pv 5)) de_int) (de_var (pv 6))) (da_cons (de_ix (de_var (pv 5)) de_int) da_nil))) da_nil))))))))))
  (dss_one (ds_ret (de_var (pv 2))))))
abbrev s__law_minutes : Stmt := top 61
def N__law_minutes : List Str := ["_law_plan_here", "_law_n_here", "_law_found", "_law_boat", "_law_into", "_law_out"]
theorem S__law_minutes : FnScope N__law_minutes ["_law_plan_here", "_law_n_here"] (defScope s__law_minutes) := ⟨rfl, rfl, rfl, by decide +kernel, rfl, by decide +kernel, by decide +kernel⟩
theorem d__law_minutes {P : Program} {w : World} {K : PySem.W.Frag} {mg : Str → Option Value} {base : Heap} {F : FAT} {T : List (Addr × Str)} {k : Nat} {f : Addr} {fd : FuncData} (Fd : FnP K "_law_minutes" s__law_minutes f fd) {sp__law_done : DSp} (g__law_done : GFn P w K mg base F T k "_law_done" 2 sp__law_done) (b_len : mg "len" = none) (b_range : mg "range" = none) (b_tuple : mg "tuple" = none) {sp : DSp} (hsp : ∀ (ds : List Dt) (Q : Dt → Prop), ds.length = 2 → sp ds Q → t__law_minutes sp__law_done { nx := fun _ => Q .none, rt := Q } (startD 6 ds)) : FnOk P w K mg base CX0 (k + 1) f fd ["_law_plan_here", "_law_n_here"] (spD K F T 2 sp) := by
  refine fn_data (N := N__law_minutes) (ps := ["_law_plan_here", "_law_n_here"]) Fd S__law_minutes (fun cdv A outer s H E hr => ?_) hsp
  have hu := hr.units
  exact (dss_cons (ds_dnew S__law_minutes.nd (i := 2) rfl (by first | exact .inl rfl | exact .inr rfl))
  (dss_cons (ds_for (vs := [3, 4, 5]) PassesOwn.never rfl (di_list (de_callG g__law_done hr rfl (da_cons (de_var (pv 0)) (da_cons (de_var (pv 1)) da_nil)))) (dg_tup rfl (dgs_cons (dg_name S__law_minutes.nd (i := 3) rfl (by first | exact .inl rfl | exact .inr rfl) (by decide)) (dgs_cons (dg_name S__law_minutes.nd (i := 4) rfl (by first | exact .inl rfl | exact .inr rfl) (by decide)) (dgs_cons (dg_name S__law_minutes.nd (i := 5) rfl (by first | exact .inl rfl | exact .inr rfl) (by decide)) dgs_nil)))) (dss_one (ds_dput (i := 2) hu (pv 2) (de_var (pv 3)) (de_tup (da_cons (de_op od_add (de_op od_mul (de_ix (de_var (pv 4)) de_int) (de_var (pv 1))) (de_ix (de_var (pv 4)) de_int)) (da_cons (de_op od_add (de_op od_mul (de_ix (de_var (pv 5)) de_int) (de_var (pv 1))) (de_ix (de_var (pv 5)) de_int)) da_nil))))))
  (dss_one (ds_ret (de_bty cd_tuple rfl b_tuple boot_tuple (da_cons (de_lc (own := [("_law_boat", 3)]) rfl S__law_minutes.nd (di_rng1 rfl b_range (da_cons (de_blt cd_len rfl b_len boot_len (da_cons (de_ix (de_var (pv 0)) de_int) da_nil)) da_nil)) (blkOk_by (N := N__law_minutes) (sc := defScope s__law_minutes) (own := [("_law_boat", 3)]) (by decide +kernel)) (fun _ _ _ _ _ => (dg_name S__law_minutes.nd (i := 3) rfl (by first | exact .inl rfl | exact .inr rfl) (by decide))) (fun _ _ _ _ _ => dts_nil) (fun _ _ _ _ _ => (de_dget hu (de_var (pv 2)) (de_var (pv 3))))) da_nil))))))
abbrev s__law_near : Stmt := top 62
def N__law_near : List Str := ["_law_source_here", "_law_plan_here", "_law_mode", "_law_boats", "_law_at", "_law_way", "_law_start", "_law_pace", "_law_new"]
theorem S__law_near : FnScope N__law_near ["_law_source_here", "_law_plan_here"] (defScope s__law_near) := ⟨rfl, rfl, rfl, by decide +kernel, rfl, by decide +kernel, by decide +kernel⟩
theorem d__law_near {P : Program} {w : World} {K : PySem.W.Frag} {mg : Str → Option Value} {base : Heap} {F : FAT} {T : List (Addr × Str)} {k : Nat} {f : Addr} {fd : FuncData} (Fd : FnP K "_law_near" s__law_near f fd) {sp__law_draw : DSp} {sp__law_rule : DSp} (g__law_draw : GFn P w K mg base F T k "_law_draw" 2 sp__law_draw) (g__law_rule : GFn P w K mg base F T k "_law_rule" 1 sp__law_rule) (b_len : mg "len" = none) {sp : DSp} (hsp : ∀ (ds : List Dt) (Q : Dt → Prop), ds.length = 2 → sp ds Q → t__law_near sp__law_draw sp__law_rule { nx := fun _ => Q .none, rt := Q } (startD 9 ds)) : FnOk P w K mg base CX0 (k + 1) f fd ["_law_source_here", "_law_plan_here"] (spD K F T 2 sp) := by
  refine fn_data (N := N__law_near) (ps := ["_law_source_here", "_law_plan_here"]) Fd S__law_near (fun cdv A outer s H E hr => ?_) hsp
  have hu := hr.units
  exact (dss_cons (ds_par rfl S__law_near.nd (i := 2) (j := 3) rfl rfl (by decide) rfl rfl (da_cons (de_callG g__law_draw hr rfl (da_cons (de_var (pv 0)) (da_cons de_int da_nil))) (da_cons (de_ix (de_var (pv 1)) de_int) da_nil)) rfl)
  (dss_cons (ds_set S__law_near.nd (i := 4) rfl (by first | exact .inl rfl | exact .inr rfl) (de_callG g__law_draw hr rfl (da_cons (de_var (pv 0)) (da_cons (de_blt cd_len rfl b_len boot_len (da_cons (de_var (pv 3)) da_nil)) da_nil))))
  (dss_cons (ds_asg (vs := [5, 6, 7]) (de_ix (de_var (pv 3)) (de_var (pv 4))) (dg_tup rfl (dgs_cons (dg_name S__law_near.nd (i := 5) rfl (by first | exact .inl rfl | exact .inr rfl) (by decide)) (dgs_cons (dg_name S__law_near.nd (i := 6) rfl (by first | exact .inl rfl | exact .inr rfl) (by decide)) (dgs_cons (dg_name S__law_near.nd (i := 7) rfl (by first | exact .inl rfl | exact .inr rfl) (by decide)) dgs_nil)))))
  (dss_cons (ds_if (dt_cmp (od_eq hu) (de_var (pv 2)) de_int) (dss_one (ds_ret (de_tup (da_cons (de_ix (de_var (pv 1)) de_int) (da_cons (de_callG g__law_rule hr rfl (da_cons (de_var (pv 0)) da_nil)) (da_cons (de_var (pv 3)) da_nil)))))) dss_nil)
  (dss_cons (ds_if (dt_cmp (od_eq hu) (de_var (pv 2)) de_int) (dss_one (ds_ret (de_tup (da_cons (de_callG g__law_draw hr rfl (da_cons (de_var (pv 0)) (da_cons de_int da_nil))) (da_cons (de_ix (de_var (pv 1)) de_int) (da_cons (de_var (pv 3)) da_nil)))))) dss_nil)
  (dss_cons (ds_set S__law_near.nd (i := 8) rfl (by first | exact .inl rfl | exact .inr rfl) (de_tup (da_cons (de_dis2 hu (by decide) (de_var (pv 5))) (da_cons (de_var (pv 6)) (da_cons (de_var (pv 7)) da_nil)))))
  (dss_cons (ds_if (dt_cmp (od_eq hu) (de_var (pv 2)) de_int) (dss_one (ds_set S__law_near.nd (i := 8) rfl (by first | exact .inl rfl | exact .inr rfl) (de_tup (da_cons (de_var (pv 5)) (da_cons (de_callG g__law_draw hr rfl (da_cons (de_var (pv 0)) (da_cons de_int da_nil))) (da_cons (de_var (pv 7)) da_nil)))))) dss_nil)
  (dss_cons (ds_if (dt_cmp (od_eq hu) (de_var (pv 2)) de_int) (dss_one (ds_set S__law_near.nd (i := 8) rfl (by first | exact .inl rfl | exact .inr rfl) (de_tup (da_cons (de_var (pv 5)) (da_cons (de_var (pv 6)) (da_cons (de_op od_add de_int (de_callG g__law_draw hr rfl (da_cons (de_var (pv 0)) (da_cons de_int da_nil)))) da_nil)))))) dss_nil)
  (dss_one (ds_ret (de_op od_add (de_slice (de_var (pv 1)) do_none (do_some de_int)) (de_tup (da_cons (de_op od_add (de_op od_add (de_slice (de_var (pv 3)) do_none (do_some (de_var (pv 4)))) (de_tup (da_cons (de_var (pv 8)) da_nil))) (de_slice (de_var (pv 3)) (do_some (de_op od_add (de_var (pv 4)) de_int)) do_none)) da_nil)))))))))))))
abbrev s__law_right : Stmt := top 63
def N__law_right : List Str := ["_law_source_here", "_law_one", "_law_other", "_law_found", "_law_spots", "_law_n_here"]
theorem S__law_right : FnScope N__law_right ["_law_source_here", "_law_one", "_law_other"] (defScope s__law_right) := ⟨rfl, rfl, rfl, by decide +kernel, rfl, by decide +kernel, by decide +kernel⟩
theorem d__law_right {P : Program} {w : World} {K : PySem.W.Frag} {mg : Str → Option Value} {base : Heap} {F : FAT} {T : List (Addr × Str)} {k : Nat} {f : Addr} {fd : FuncData} (Fd : FnP K "_law_right" s__law_right f fd) {sp_parting : DSp} {sp__law_n : DSp} {sp_alike : DSp} {sp__law_minutes : DSp} (g_parting : GFn P w K mg base F T k "parting" 2 sp_parting) (g__law_n : GFn P w K mg base F T k "_law_n" 1 sp__law_n) (g_alike : GFn P w K mg base F T k "alike" 2 sp_alike) (g__law_minutes : GFn P w K mg base F T k "_law_minutes" 2 sp__law_minutes) (b_list : mg "list" = none) (b_range : mg "range" = none) (b_len : mg "len" = none) {sp : DSp} (hsp : ∀ (ds : List Dt) (Q : Dt → Prop), ds.length = 3 → sp ds Q → t__law_right sp_parting sp__law_n sp_alike sp__law_minutes { nx := fun _ => Q .none, rt := Q } (startD 6 ds)) : FnOk P w K mg base CX0 (k + 1) f fd ["_law_source_here", "_law_one", "_law_other"] (spD K F T 3 sp) := by
  refine fn_data (N := N__law_right) (ps := ["_law_source_here", "_law_one", "_law_other"]) Fd S__law_right (fun cdv A outer s H E hr => ?_) hsp
  have hu := hr.units
  exact (dss_cons (ds_set S__law_right.nd (i := 3) rfl (by first | exact .inl rfl | exact .inr rfl) (de_callG g_parting hr rfl (da_cons (de_var (pv 1)) (da_cons (de_var (pv 2)) da_nil))))
  (dss_cons (ds_set S__law_right.nd (i := 4) rfl (by first | exact .inl rfl | exact .inr rfl) (de_op od_add (de_listRg rfl rfl b_list rfl b_range de_int de_int) (de_lst (da_cons (de_callG g__law_n hr rfl (da_cons (de_var (pv 0)) da_nil)) (da_cons (de_callG g__law_n hr rfl (da_cons (de_var (pv 0)) da_nil)) (da_cons (de_op od_pow de_int de_int) da_nil))))))
  (dss_cons (ds_if (dw_pt (dw_or (dt_cmp (od_ne hu) (de_callG g_alike hr rfl (da_cons (de_var (pv 1)) (da_cons (de_var (pv 2)) da_nil))) (de_cmp od_is (de_var (pv 3)) de_non)) (dw_or1 (dt_cmp (od_ne hu) (de_callG g_parting hr rfl (da_cons (de_var (pv 2)) (da_cons (de_var (pv 1)) da_nil))) (de_var (pv 3)))))) (dss_one (ds_ret de_bl)) dss_nil)
  (dss_cons (ds_if (dt_cmp (od_ne hu) (de_blt cd_len rfl b_len boot_len (da_cons (de_ix (de_var (pv 1)) de_int) da_nil)) (de_blt cd_len rfl b_len boot_len (da_cons (de_ix (de_var (pv 2)) de_int) da_nil))) (dss_one (ds_ret (de_cmp (od_eq hu) (de_var (pv 3)) de_int))) dss_nil)
  (dss_cons (ds_for (vs := [5]) PassesOwn.never rfl (di_list (de_var (pv 4))) (dg_name S__law_right.nd (i := 5) rfl (by first | exact .inl rfl | exact .inr rfl) (by decide)) (dss_one (ds_if (dw_pt (dw_or (dt_cmp od_is (de_var (pv 3)) de_non) (dw_or1 (dt_cmp od_gt (de_var (pv 3)) (de_var (pv 5)))))) (dss_one (ds_if (dt_cmp (od_ne hu) (de_callG g__law_minutes hr rfl (da_cons (de_var (pv 1)) (da_cons (de_var (pv 5)) da_nil))) (de_callG g__law_minutes hr rfl (da_cons (de_var (pv 2)) (da_cons (de_var (pv 5)) da_nil)))) (dss_one (ds_ret de_bl)) dss_nil)) dss_nil)))
  (dss_cons (ds_if (dt_cmp od_is (de_var (pv 3)) de_non) (dss_one (ds_ret de_bl)) dss_nil)
  (dss_cons (ds_if (dt_cmp (od_eq hu) (de_callG g__law_minutes hr rfl (da_cons (de_var (pv 1)) (da_cons (de_var (pv 3)) da_nil))) (de_callG g__law_minutes hr rfl (da_cons (de_var (pv 2)) (da_cons (de_var (pv 3)) da_nil)))) (dss_one (ds_ret de_bl)) dss_nil)
  (dss_one (ds_ret (de_or (de_cmp (od_eq hu) (de_var (pv 3)) de_int) (de_one (de_cmp (od_eq hu) (de_callG g__law_minutes hr rfl (da_cons (de_var (pv 1)) (da_cons (de_op od_sub (de_var (pv 3)) de_int) da_nil))) (de_callG g__law_minutes hr rfl (da_cons (de_var (pv 2)) (da_cons (de_op od_sub (de_var (pv 3)) de_int) da_nil)))))))))))))))
abbrev s_law : Stmt := top 64
def N_law : List Str := ["_law_script", "_law_k", "_law_source_here", "_law_turn", "_law_plan_here", "_law_near_here", "_law_fewer_so", "_law_other", "_law_boats", "_law_soon", "_law_nine", "_law_eight"]
theorem S_law : FnScope N_law ["_law_script"] (defScope s_law) := ⟨rfl, rfl, rfl, by decide +kernel, rfl, by decide +kernel, by decide +kernel⟩
theorem d_law {P : Program} {w : World} {K : PySem.W.Frag} {mg : Str → Option Value} {base : Heap} {F : FAT} {T : List (Addr × Str)} {k : Nat} {f : Addr} {fd : FuncData} (Fd : FnP K "law" s_law f fd) {sp__law_plan : DSp} {sp__law_rule : DSp} {sp__law_near : DSp} {sp__law_right : DSp} {sp_parting : DSp} {sp_alike : DSp} (g__law_plan : GFn P w K mg base F T k "_law_plan" 2 sp__law_plan) (g__law_rule : GFn P w K mg base F T k "_law_rule" 1 sp__law_rule) (g__law_near : GFn P w K mg base F T k "_law_near" 2 sp__law_near) (g__law_right : GFn P w K mg base F T k "_law_right" 3 sp__law_right) (g_parting : GFn P w K mg base F T k "parting" 2 sp_parting) (g_alike : GFn P w K mg base F T k "alike" 2 sp_alike) (g_source : GSrc P w K mg base F T k) (b_len : mg "len" = none) (b_min : mg "min" = none) (b_range : mg "range" = none) {sp : DSp} (hsp : ∀ (ds : List Dt) (Q : Dt → Prop), ds.length = 1 → sp ds Q → t_law sp__law_plan sp__law_rule sp__law_near sp__law_right sp_parting sp_alike { nx := fun _ => Q .none, rt := Q } (startD 12 ds)) : FnOk P w K mg base CX0 (k + 1) f fd ["_law_script"] (spD K F T 1 sp) := by
  refine fn_data (N := N_law) (ps := ["_law_script"]) Fd S_law (fun cdv A outer s H E hr => ?_) hsp
  have hu := hr.units
  exact (dss_cons (ds_for (vs := [1]) PassesOwn.never rfl (di_rng1 rfl b_range (da_cons (de_op od_add de_int (de_blt (cd_min2 rfl) rfl b_min boot_min (da_cons (de_blt cd_len rfl b_len boot_len (da_cons (de_var (pv 0)) da_nil)) (da_cons de_int da_nil)))) da_nil)) (dg_name S_law.nd (i := 1) rfl (by first | exact .inl rfl | exact .inr rfl) (by decide)) (dss_src g_source hr rfl S_law.nd (i := 2) rfl (by first | exact .inl rfl | exact .inr rfl) (pv 0) (pv 1) (by decide)
  (dss_one (ds_for (vs := [3]) PassesOwn.never rfl (di_rng1 rfl b_range (da_cons de_int da_nil)) (dg_name S_law.nd (i := 3) rfl (by first | exact .inl rfl | exact .inr rfl) (by decide)) (dss_cons (ds_set S_law.nd (i := 4) rfl (by first | exact .inl rfl | exact .inr rfl) (de_callG g__law_plan hr rfl (da_cons (de_var (pv 2)) (da_cons de_int da_nil))))
  (dss_cons (ds_set S_law.nd (i := 5) rfl (by first | exact .inl rfl | exact .inr rfl) (de_tup (da_cons (de_ix (de_var (pv 4)) de_int) (da_cons (de_callG g__law_rule hr rfl (da_cons (de_var (pv 2)) da_nil)) (da_cons (de_ix (de_var (pv 4)) de_int) da_nil)))))
  (dss_cons (ds_set S_law.nd (i := 6) rfl (by first | exact .inl rfl | exact .inr rfl) (de_op od_add (de_slice (de_var (pv 4)) do_none (do_some de_int)) (de_tup (da_cons (de_slice (de_ix (de_var (pv 4)) de_int) do_none (do_some de_int)) da_nil))))
  (dss_one (ds_for (vs := [7]) PassesOwn.never rfl (di_list (de_lst (da_cons (de_var (pv 5)) (da_cons (de_callG g__law_near hr rfl (da_cons (de_var (pv 2)) (da_cons (de_var (pv 4)) da_nil))) (da_cons (de_var (pv 4)) (da_cons (de_var (pv 6)) da_nil)))))) (dg_name S_law.nd (i := 7) rfl (by first | exact .inl rfl | exact .inr rfl) (by decide)) (dss_one (ds_if (dt_not (dt_val (de_callG g__law_right hr rfl (da_cons (de_var (pv 2)) (da_cons (de_var (pv 4)) (da_cons (de_var (pv 7)) da_nil)))))) (dss_one (ds_ret de_bl)) dss_nil)))))))))))
  (dss_cons (ds_set S_law.nd (i := 8) rfl (by first | exact .inl rfl | exact .inr rfl) (de_tup (da_cons (de_tup (da_cons de_str (da_cons de_int (da_cons de_int da_nil)))) (da_cons (de_tup (da_cons de_str (da_cons de_int (da_cons de_int da_nil)))) (da_cons (de_tup (da_cons de_str (da_cons de_int (da_cons de_int da_nil)))) da_nil)))))
  (dss_cons (ds_set S_law.nd (i := 4) rfl (by first | exact .inl rfl | exact .inr rfl) (de_tup (da_cons de_int (da_cons (de_tup (da_cons de_str da_nil)) (da_cons (de_var (pv 8)) da_nil)))))
  (dss_cons (ds_if (dw_pt (dw_or (dt_not (dt_val (de_callG g_alike hr rfl (da_cons (de_var (pv 4)) (da_cons (de_tup (da_cons de_int (da_cons (de_tup (da_cons de_str da_nil)) (da_cons (de_var (pv 8)) da_nil)))) da_nil))))) (dw_or1 (dt_cmp (od_ne hu) (de_callG g_parting hr rfl (da_cons (de_var (pv 4)) (da_cons (de_tup (da_cons de_int (da_cons (de_tup (da_cons de_str (da_cons de_int da_nil))) (da_cons (de_var (pv 8)) da_nil)))) da_nil))) de_int)))) (dss_one (ds_ret de_bl)) dss_nil)
  (dss_cons (ds_if (dw_pt (dw_or (dt_cmp (od_ne hu) (de_callG g_parting hr rfl (da_cons (de_var (pv 4)) (da_cons (de_op od_add (de_slice (de_var (pv 4)) do_none (do_some de_int)) (de_tup (da_cons (de_slice (de_var (pv 8)) do_none (do_some de_int)) da_nil))) da_nil))) de_int) (dw_or1 (dt_cmp od_isn (de_callG g_parting hr rfl (da_cons (de_var (pv 4)) (da_cons (de_var (pv 4)) da_nil))) de_non)))) (dss_one (ds_ret de_bl)) dss_nil)
  (dss_cons (ds_set S_law.nd (i := 9) rfl (by first | exact .inl rfl | exact .inr rfl) (de_tup (da_cons de_int (da_cons (de_tup (da_cons de_str da_nil)) (da_cons (de_tup (da_cons (de_tup (da_cons de_str (da_cons de_int (da_cons de_int da_nil)))) (da_cons (de_tup (da_cons de_str (da_cons de_int (da_cons de_int da_nil)))) (da_cons (de_tup (da_cons de_str (da_cons de_int (da_cons de_int da_nil)))) da_nil)))) da_nil)))))
  (dss_cons (ds_if (dt_cmp (od_ne hu) (de_callG g_parting hr rfl (da_cons (de_var (pv 9)) (da_cons (de_tup (da_cons de_int (da_cons (de_tup (da_cons de_str (da_cons de_int da_nil))) (da_cons (de_ix (de_var (pv 9)) de_int) da_nil)))) da_nil))) de_int) (dss_one (ds_ret de_bl)) dss_nil)
  (dss_cons (ds_if (dt_cmp (od_ne hu) (de_callG g_parting hr rfl (da_cons (de_var (pv 9)) (da_cons (de_tup (da_cons de_int (da_cons (de_tup (da_cons de_str (da_cons de_int da_nil))) (da_cons (de_ix (de_var (pv 9)) de_int) da_nil)))) da_nil))) de_int) (dss_one (ds_ret de_bl)) dss_nil)
  (dss_cons (ds_if (dt_cmp (od_ne hu) (de_callG g_parting hr rfl (da_cons (de_tup (da_cons de_int (da_cons (de_tup (da_cons de_str da_nil)) (da_cons (de_tup (da_cons (de_tup (da_cons de_str (da_cons de_int (da_cons de_int da_nil)))) da_nil)) da_nil)))) (da_cons (de_tup (da_cons de_int (da_cons (de_tup (da_cons de_str da_nil)) (da_cons (de_tup (da_cons (de_tup (da_cons de_str (da_cons de_int (da_cons de_int da_nil)))) da_nil)) da_nil)))) da_nil))) de_int) (dss_one (ds_ret de_bl)) dss_nil)
  (dss_cons (ds_asg (vs := [10, 11]) (de_tup (da_cons (de_tup (da_cons (de_tup (da_cons de_str (da_cons de_int (da_cons de_int da_nil)))) (da_cons (de_tup (da_cons de_str (da_cons de_int (da_cons de_int da_nil)))) da_nil))) (da_cons (de_tup (da_cons (de_tup (da_cons de_str (da_cons de_int (da_cons de_int da_nil)))) (da_cons (de_tup (da_cons de_str (da_cons de_int (da_cons de_int da_nil)))) da_nil))) da_nil))) (dg_tup rfl (dgs_cons (dg_name S_law.nd (i := 10) rfl (by first | exact .inl rfl | exact .inr rfl) (by decide)) (dgs_cons (dg_name S_law.nd (i := 11) rfl (by first | exact .inl rfl | exact .inr rfl) (by decide)) dgs_nil))))
  (dss_one (ds_ret (de_cmp (od_eq hu) (de_callG g_parting hr rfl (da_cons (de_tup (da_cons de_int (da_cons (de_tup (da_cons de_str da_nil)) (da_cons (de_var (pv 10)) da_nil)))) (da_cons (de_tup (da_cons de_int (da_cons (de_tup (da_cons de_str da_nil)) (da_cons (de_var (pv 11)) da_nil)))) da_nil))) de_int)))))))))))))
theorem nolst_map {α : Type} {f : α → Dt} (h : ∀ a, nolst (f a) = true) : ∀ l : List α, nolstAll (l.map f) = true
  | [] => rfl
  | a :: l => by
    show (nolst (f a) && nolstAll (l.map f)) = true
    rw [h a, nolst_map h l]; rfl
theorem nolst_item (o : List Nat) (fs : List FF) : nolstAll [.tuple (o.map eN), eFs fs] = true := by
  show (nolstAll (o.map eN) && (nolstAll (fs.map eFF) && true)) = true
  rw [nolst_map (fun a => rfl) o, nolst_map (fun a => rfl) fs]; rfl
theorem cd_all_forms {P : Program} {w : World} {K : PySem.W.Frag} {mg : Str → Option Value} {base : Heap} {T : List (Addr × Str)} {Ls : List (Int × LamD)} {gs : List (Int × Addr)} (h1 : Ls.lookup 0 = some L_all_forms) (h2 : gs.lookup 0 = none) (ds : List Dt) : CallD P w K mg base (lamF K Ls gs) T 1 0 ds (sp_told1 0 ds) := by
  refine calld_lam (N := ["order", "forms"]) (ps := ["order", "forms"]) (te := dVar 1) (sp := sp_told1 0 ds) h1 h2 (NdefX.nscope_by (by decide +kernel)) (fun _ _ _ _ us hl => match us, hl with | [_, _], _ => rfl) (fun cl c' f A outer s H hr => de_var (pv 1)) fun args Q hl h => ?_
  obtain ⟨_, o, fs, rfl, hq⟩ := h
  have e : ds = [] := List.length_eq_zero_iff.mp hl
  subst e
  exact ⟨rfl, nolst_item o fs, rfl, hq⟩
def hLs : List (Int × LamD) := [(0, L_all_forms)]
def hgs (K : PySem.W.Frag) : List (Int × Addr) := [(100, He.ga K "is_same")]
section
variable {P : Program} {w : World} {K : PySem.W.Frag} {mg : Str → Option Value} {base : Heap} {T : List (Addr × Str)} {fd : FuncData}
theorem hgs_ok (Fd : FnP K "is_same" s_is_same (He.ga K "is_same") fd) : GsOk K (hgs K) := by
  intro i f h
  by_cases e : i = 100
  · subst e
    cases (show some (He.ga K "is_same") = some f from h)
    exact gsok_one Fd
  · have e' : (i == 100) = false := by simpa using e
    have : (hgs K).lookup i = none := by simp [hgs, List.lookup, e']
    rw [this] at h; cases h
theorem told1_ok (Fd : FnP K "is_same" s_is_same (He.ga K "is_same") fd) (n : Int) (ds : List Dt) : CallD P w K mg base (lamF K hLs (hgs K)) T 1 n ds (sp_told1 n ds) := by
  by_cases e : n = 0
  · subst e
    exact cd_all_forms rfl rfl ds
  · exact calld_no (hgs_ok Fd) fun args Q h => e h.1
theorem told2_ok {k : Nat} (Fd : FnP K "is_same" s_is_same (He.ga K "is_same") fd) (o : FnOk P w K mg base CX0 k (He.ga K "is_same") fd ["pair", "n"] (spD K (lamF K hLs (hgs K)) T 2 sp_is_same)) (n : Int) (ds : List Dt) : CallD P w K mg base (lamF K hLs (hgs K)) T k n ds (sp_told2 n ds) := by
  by_cases e : n = 100
  · subst e
    refine (calld_def (ps := ["pair", "n"]) (sp := sp_told2 100 ds) Fd rfl rfl ?_ (fun _ _ _ _ _ _ us hl => match us, hl with | [_, _], _ => rfl) fun args Q ⟨_, pr, m, h, _⟩ => by rw [h]; rfl)
    have es : sp_told2 100 ds = sp_is_same := by
      funext args Q
      exact propext ⟨fun h => h.2, fun h => ⟨rfl, h⟩⟩
    rw [es]
    exact o
  · exact calld_no (hgs_ok Fd) fun args Q h => e h.1
end
end DL
namespace DL
open PySem PySem.Spec PyProof.Rows L2 LamX

/-! The head; the end. -/
def dd__law_draw : He.DefD := ⟨("_law_draw", none), "_law_draw", "_law_draw", defArgs s__law_draw, defBody s__law_draw, defScope s__law_draw, [], []⟩
def dd__law_of : He.DefD := ⟨("_law_of", none), "_law_of", "_law_of", defArgs s__law_of, defBody s__law_of, defScope s__law_of, [], []⟩
def dd__law_rule : He.DefD := ⟨("_law_rule", none), "_law_rule", "_law_rule", defArgs s__law_rule, defBody s__law_rule, defScope s__law_rule, [], []⟩
def dd__law_plan : He.DefD := ⟨("_law_plan", none), "_law_plan", "_law_plan", defArgs s__law_plan, defBody s__law_plan, defScope s__law_plan, [], []⟩
def dd__law_near : He.DefD := ⟨("_law_near", none), "_law_near", "_law_near", defArgs s__law_near, defBody s__law_near, defScope s__law_near, [], []⟩
def dd_is_word : He.DefD := ⟨("is_word", none), "is_word", "is_word", defArgs s_is_word, defBody s_is_word, defScope s_is_word, [], []⟩
def dd_is_tuple : He.DefD := ⟨("is_tuple", none), "is_tuple", "is_tuple", defArgs s_is_tuple, defBody s_is_tuple, defScope s_is_tuple, [], []⟩
def dd_is_number : He.DefD := ⟨("is_number", none), "is_number", "is_number", defArgs s_is_number, defBody s_is_number, defScope s_is_number, [], []⟩
def dd_is_good_rule : He.DefD := ⟨("is_good_rule", none), "is_good_rule", "is_good_rule", defArgs s_is_good_rule, defBody s_is_good_rule, defScope s_is_good_rule, [], []⟩
def dd_is_boat : He.DefD := ⟨("is_boat", none), "is_boat", "is_boat", defArgs s_is_boat, defBody s_is_boat, defScope s_is_boat, [], []⟩
def dd_is_good_plan : He.DefD := ⟨("is_good_plan", none), "is_good_plan", "is_good_plan", defArgs s_is_good_plan, defBody s_is_good_plan, defScope s_is_good_plan, [], []⟩
def dd_need_plan : He.DefD := ⟨("need_plan", none), "need_plan", "need_plan", defArgs s_need_plan, defBody s_need_plan, defScope s_need_plan, [], []⟩
def dd_need_two : He.DefD := ⟨("need_two", none), "need_two", "need_two", defArgs s_need_two, defBody s_need_two, defScope s_need_two, [], []⟩
def dd_first_false : He.DefD := ⟨("first_false", none), "first_false", "first_false", defArgs s_first_false, defBody s_first_false, defScope s_first_false, [], []⟩
def dd_lesser_end : He.DefD := ⟨("lesser_end", none), "lesser_end", "lesser_end", defArgs s_lesser_end, defBody s_lesser_end, defScope s_lesser_end, [], []⟩
def dd_worth : He.DefD := ⟨("worth", none), "worth", "worth", defArgs s_worth, defBody s_worth, defScope s_worth, [], []⟩
def dd_sign_of : He.DefD := ⟨("sign_of", none), "sign_of", "sign_of", defArgs s_sign_of, defBody s_sign_of, defScope s_sign_of, [], []⟩
def dd_same_to : He.DefD := ⟨("same_to", none), "same_to", "same_to", defArgs s_same_to, defBody s_same_to, defScope s_same_to, [], []⟩
def dd_until : He.DefD := ⟨("until", none), "until", "until", defArgs s_until, defBody s_until, defScope s_until, [], []⟩
def dd_joined : He.DefD := ⟨("joined", none), "joined", "joined", defArgs s_joined, defBody s_joined, defScope s_joined, [], []⟩
def dd_less : He.DefD := ⟨("less", none), "less", "less", defArgs s_less, defBody s_less, defScope s_less, [], []⟩
def dd_gaps_of : He.DefD := ⟨("gaps_of", none), "gaps_of", "gaps_of", defArgs s_gaps_of, defBody s_gaps_of, defScope s_gaps_of, [], []⟩
def dd_is_same : He.DefD := ⟨("is_same", none), "is_same", "is_same", defArgs s_is_same, defBody s_is_same, defScope s_is_same, [], []⟩
def dd_cut : He.DefD := ⟨("cut", none), "cut", "cut", defArgs s_cut, defBody s_cut, defScope s_cut, [], []⟩
def dd_both : He.DefD := ⟨("both", none), "both", "both", defArgs s_both, defBody s_both, defScope s_both, [], []⟩
def dd_head_of : He.DefD := ⟨("head_of", none), "head_of", "head_of", defArgs s_head_of, defBody s_head_of, defScope s_head_of, [], []⟩
def dd_top_form : He.DefD := ⟨("top_form", none), "top_form", "top_form", defArgs s_top_form, defBody s_top_form, defScope s_top_form, [], []⟩
def dd_is_turned : He.DefD := ⟨("is_turned", none), "is_turned", "is_turned", defArgs s_is_turned, defBody s_is_turned, defScope s_is_turned, [], []⟩
def dd_step_of : He.DefD := ⟨("step_of", none), "step_of", "step_of", defArgs s_step_of, defBody s_step_of, defScope s_step_of, [], []⟩
def dd_added : He.DefD := ⟨("added", none), "added", "added", defArgs s_added, defBody s_added, defScope s_added, [], []⟩
def dd_bounds_of : He.DefD := ⟨("bounds_of", none), "bounds_of", "bounds_of", defArgs s_bounds_of, defBody s_bounds_of, defScope s_bounds_of, [], []⟩
def dd_next_soon : He.DefD := ⟨("next_soon", none), "next_soon", "next_soon", defArgs s_next_soon, defBody s_next_soon, defScope s_next_soon, [], []⟩
def dd_earlier_start : He.DefD := ⟨("earlier_start", none), "earlier_start", "earlier_start", defArgs s_earlier_start, defBody s_earlier_start, defScope s_earlier_start, [], []⟩
def dd_row_behind : He.DefD := ⟨("row_behind", none), "row_behind", "row_behind", defArgs s_row_behind, defBody s_row_behind, defScope s_row_behind, [], []⟩
def dd_next_boat : He.DefD := ⟨("next_boat", none), "next_boat", "next_boat", defArgs s_next_boat, defBody s_next_boat, defScope s_next_boat, [], []⟩
def dd_run_with : He.DefD := ⟨("run_with", none), "run_with", "run_with", defArgs s_run_with, defBody s_run_with, defScope s_run_with, [], []⟩
def dd_forms_in : He.DefD := ⟨("forms_in", none), "forms_in", "forms_in", defArgs s_forms_in, defBody s_forms_in, defScope s_forms_in, [], []⟩
def dd_all_runs : He.DefD := ⟨("all_runs", none), "all_runs", "all_runs", defArgs s_all_runs, defBody s_all_runs, defScope s_all_runs, [], []⟩
def dd_by_runs : He.DefD := ⟨("by_runs", none), "by_runs", "by_runs", defArgs s_by_runs, defBody s_by_runs, defScope s_by_runs, [], []⟩
def dd_all_forms : He.DefD := ⟨("all_forms", none), "all_forms", "all_forms", defArgs s_all_forms, defBody s_all_forms, defScope s_all_forms, [], []⟩
def dd_parting_number : He.DefD := ⟨("parting_number", none), "parting_number", "parting_number", defArgs s_parting_number, defBody s_parting_number, defScope s_parting_number, [], []⟩
def dd_parting : He.DefD := ⟨("parting", none), "parting", "parting", defArgs s_parting, defBody s_parting, defScope s_parting, [], []⟩
def dd__law_n : He.DefD := ⟨("_law_n", none), "_law_n", "_law_n", defArgs s__law_n, defBody s__law_n, defScope s__law_n, [], []⟩
def dd_alike : He.DefD := ⟨("alike", none), "alike", "alike", defArgs s_alike, defBody s_alike, defScope s_alike, [], []⟩
def dd__law_heads : He.DefD := ⟨("_law_heads", none), "_law_heads", "_law_heads", defArgs s__law_heads, defBody s__law_heads, defScope s__law_heads, [], []⟩
def dd__law_top : He.DefD := ⟨("_law_top", none), "_law_top", "_law_top", defArgs s__law_top, defBody s__law_top, defScope s__law_top, [], []⟩
def dd__law_step : He.DefD := ⟨("_law_step", none), "_law_step", "_law_step", defArgs s__law_step, defBody s__law_step, defScope s__law_step, [], []⟩
def dd__law_limits : He.DefD := ⟨("_law_limits", none), "_law_limits", "_law_limits", defArgs s__law_limits, defBody s__law_limits, defScope s__law_limits, [], []⟩
def dd__law_next : He.DefD := ⟨("_law_next", none), "_law_next", "_law_next", defArgs s__law_next, defBody s__law_next, defScope s__law_next, [], []⟩
def dd__law_done : He.DefD := ⟨("_law_done", none), "_law_done", "_law_done", defArgs s__law_done, defBody s__law_done, defScope s__law_done, [], []⟩
def dd__law_minutes : He.DefD := ⟨("_law_minutes", none), "_law_minutes", "_law_minutes", defArgs s__law_minutes, defBody s__law_minutes, defScope s__law_minutes, [], []⟩
def dd__law_right : He.DefD := ⟨("_law_right", none), "_law_right", "_law_right", defArgs s__law_right, defBody s__law_right, defScope s__law_right, [], []⟩
def dd__law_source : He.DefD := ⟨("_law_source", none), "_law_source", "_law_source", defArgs s__law_source, defBody s__law_source, defScope s__law_source, [], []⟩
def dd_law : He.DefD := ⟨("law", none), "law", "law", defArgs s_law, defBody s_law, defScope s_law, [], []⟩
def hfn0 : List He.DefD := [dd__law_draw, dd__law_of, dd__law_rule, dd__law_plan, dd__law_near, dd_is_word, dd_is_tuple, dd_is_number, dd_is_good_rule, dd_is_boat, dd_is_good_plan, dd_need_plan, dd_need_two, dd_first_false, dd_lesser_end, dd_worth, dd_sign_of, dd_same_to, dd_until, dd_joined, dd_less, dd_gaps_of, dd_is_same, dd_cut, dd_both, dd_head_of, dd_top_form, dd_is_turned, dd_step_of, dd_added, dd_bounds_of, dd_next_soon, dd_earlier_start, dd_row_behind, dd_next_boat]
def hfn1 : List He.DefD := [dd_run_with, dd_forms_in, dd_all_runs, dd_by_runs, dd_all_forms, dd_parting_number, dd_parting, dd__law_n, dd_alike, dd__law_heads, dd__law_top, dd__law_step, dd__law_limits, dd__law_next, dd__law_done, dd__law_minutes, dd__law_right, dd__law_source, dd_law]
def hfn : List He.DefD := hfn0 ++ hfn1
def hfa0 : List He.Fa := [.glo "_law_draw", .glo "_law_of", .glo "_law_rule", .glo "_law_plan", .glo "_law_near", .glo "is_word", .glo "is_tuple", .glo "is_number", .glo "is_good_rule", .glo "is_boat", .glo "is_good_plan", .glo "need_plan", .glo "need_two", .glo "first_false", .glo "lesser_end", .glo "worth", .glo "sign_of", .glo "same_to", .glo "until", .glo "joined", .glo "less", .glo "gaps_of", .glo "is_same", .glo "cut", .glo "both", .glo "head_of", .glo "top_form", .glo "is_turned", .glo "step_of", .glo "added", .glo "bounds_of", .glo "next_soon", .glo "earlier_start", .glo "row_behind", .glo "next_boat"]
def hfa1 : List He.Fa := [.glo "run_with", .glo "forms_in", .glo "all_runs", .glo "by_runs", .glo "all_forms", .glo "parting_number", .glo "parting", .glo "_law_n", .glo "alike", .glo "_law_heads", .glo "_law_top", .glo "_law_step", .glo "_law_limits", .glo "_law_next", .glo "_law_done", .glo "_law_minutes", .glo "_law_right", .glo "_law_source", .glo "law", .free "abs", .free "all", .free "bool", .free "enumerate", .free "int", .free "isinstance", .free "len", .free "list", .free "max", .free "min", .free "range", .free "sorted", .free "str", .free "tuple", .free "zip", .int "LEAST" 2]
def hfa2 : List He.Fa := [.glo "WAYS"]
def hfa : List He.Fa := hfa0 ++ hfa1 ++ hfa2
def htf : List He.Defn := [("all_forms", none)]
def hts : List He.Tab := []
def hex (K : PySem.W.Frag) : Bool := He.tupB K "WAYS" [.str "up", .str "down"]
abbrev Rw : PySem.W.OpenRow := PySem.W.OpenLaw.row PySem.Challenge.rw_lockstairs_k08_plans_compared
abbrev hk : PySem.W.Hook := He.hookX 4 hfa hfn hts htf hex
def hob (s : PySem.W.SharedT) : He.AlX := He.obsX 4 hfa hfn hts htf hex (HandSHeadRun.getT s)
theorem hob_eq (s : PySem.W.SharedT) : hob s = hk.obs s.abs := He.obsX_eq (HandSHeadRun.getT_eq s)
def hloose0 : List Str := [("LockError" : Str), ("InvalidPlan" : Str), ("WAYS" : Str), ("LEAST" : Str), ("is_number" : Str), ("is_tuple" : Str), ("is_word" : Str), ("is_good_rule" : Str), ("is_boat" : Str), ("is_good_plan" : Str), ("need_plan" : Str), ("added" : Str), ("less" : Str), ("worth" : Str), ("sign_of" : Str), ("same_to" : Str), ("is_turned" : Str), ("step_of" : Str), ("bounds_of" : Str), ("top_form" : Str), ("head_of" : Str), ("row_behind" : Str), ("earlier_start" : Str), ("next_soon" : Str), ("next_boat" : Str), ("run_with" : Str), ("forms_in" : Str), ("until" : Str), ("lesser_end" : Str), ("joined" : Str), ("all_runs" : Str), ("by_runs" : Str), ("cut" : Str), ("both" : Str), ("need_two" : Str)]
def hloose1 : List Str := [("all_forms" : Str), ("gaps_of" : Str), ("is_same" : Str), ("first_false" : Str), ("parting_number" : Str), ("alike" : Str), ("parting" : Str), ("_law_source" : Str), ("_law_draw" : Str), ("_law_of" : Str), ("_law_rule" : Str), ("_law_plan" : Str), ("_law_n" : Str), ("_law_step" : Str), ("_law_limits" : Str), ("_law_top" : Str), ("_law_heads" : Str), ("_law_next" : Str), ("_law_done" : Str), ("_law_minutes" : Str), ("_law_near" : Str), ("_law_right" : Str)]
def hloose : List Str := hloose0 ++ hloose1
theorem hrun (w : World) : HandSHeadRun.RunEq Rw (PySem.W.view Rw.prog [64]) hk hob 3000 hloose w := by
  intro os
  kernel_rfl
end DL
namespace DL
open PySem PySem.Spec PyProof.Rows L2 LamX

def hT (K : PySem.W.Frag) : List (Addr × Str) := [((He.cT K ("all_forms", none)).2, "all_forms.<locals>.<lambda>")]
theorem ends {P : Program} {w : World} {K : PySem.W.Frag} {h : Heap} {mg : Str → Option Value} {fa : Addr} (X : K.In h) (G : h.Ns mainGlobals mg) (hlaw : mg ("law" : Str) = some (.ref fa)) (c : He.SaysX hfa hfn hts htf hex w h K) :
    ∃ fd : FuncData, (∀ (s : Shared) (v : Value), BindsTo s fd ⟨[v], []⟩ [("_law_script", v)]) ∧ ∀ base : Heap, K.In base → base.Ns mainGlobals mg → (∀ p ∈ htf.map (He.cT K), TabB base mg p.1 p.2) → FnOk P w K mg base CX0 13 fa fd ["_law_script"] (spD K (lamF K hLs (hgs K)) (hT K) 1 sp_law) := by
  have cd := c.t.d
  have wellf := c.more
  obtain ⟨fd__law_draw, F__law_draw⟩ := cd.def_ 0 (d := dd__law_draw) rfl
  obtain ⟨fd__law_of, F__law_of⟩ := cd.def_ 1 (d := dd__law_of) rfl
  obtain ⟨fd__law_rule, F__law_rule⟩ := cd.def_ 2 (d := dd__law_rule) rfl
  obtain ⟨fd__law_plan, F__law_plan⟩ := cd.def_ 3 (d := dd__law_plan) rfl
  obtain ⟨fd__law_near, F__law_near⟩ := cd.def_ 4 (d := dd__law_near) rfl
  obtain ⟨fd_is_word, F_is_word⟩ := cd.def_ 5 (d := dd_is_word) rfl
  obtain ⟨fd_is_tuple, F_is_tuple⟩ := cd.def_ 6 (d := dd_is_tuple) rfl
  obtain ⟨fd_is_number, F_is_number⟩ := cd.def_ 7 (d := dd_is_number) rfl
  obtain ⟨fd_is_good_rule, F_is_good_rule⟩ := cd.def_ 8 (d := dd_is_good_rule) rfl
  obtain ⟨fd_is_boat, F_is_boat⟩ := cd.def_ 9 (d := dd_is_boat) rfl
  obtain ⟨fd_is_good_plan, F_is_good_plan⟩ := cd.def_ 10 (d := dd_is_good_plan) rfl
  obtain ⟨fd_need_plan, F_need_plan⟩ := cd.def_ 11 (d := dd_need_plan) rfl
  obtain ⟨fd_need_two, F_need_two⟩ := cd.def_ 12 (d := dd_need_two) rfl
  obtain ⟨fd_first_false, F_first_false⟩ := cd.def_ 13 (d := dd_first_false) rfl
  obtain ⟨fd_lesser_end, F_lesser_end⟩ := cd.def_ 14 (d := dd_lesser_end) rfl
  obtain ⟨fd_worth, F_worth⟩ := cd.def_ 15 (d := dd_worth) rfl
  obtain ⟨fd_sign_of, F_sign_of⟩ := cd.def_ 16 (d := dd_sign_of) rfl
  obtain ⟨fd_same_to, F_same_to⟩ := cd.def_ 17 (d := dd_same_to) rfl
  obtain ⟨fd_until, F_until⟩ := cd.def_ 18 (d := dd_until) rfl
  obtain ⟨fd_joined, F_joined⟩ := cd.def_ 19 (d := dd_joined) rfl
  obtain ⟨fd_less, F_less⟩ := cd.def_ 20 (d := dd_less) rfl
  obtain ⟨fd_gaps_of, F_gaps_of⟩ := cd.def_ 21 (d := dd_gaps_of) rfl
  obtain ⟨fd_is_same, F_is_same⟩ := cd.def_ 22 (d := dd_is_same) rfl
  obtain ⟨fd_cut, F_cut⟩ := cd.def_ 23 (d := dd_cut) rfl
  obtain ⟨fd_both, F_both⟩ := cd.def_ 24 (d := dd_both) rfl
  obtain ⟨fd_head_of, F_head_of⟩ := cd.def_ 25 (d := dd_head_of) rfl
  obtain ⟨fd_top_form, F_top_form⟩ := cd.def_ 26 (d := dd_top_form) rfl
  obtain ⟨fd_is_turned, F_is_turned⟩ := cd.def_ 27 (d := dd_is_turned) rfl
  obtain ⟨fd_step_of, F_step_of⟩ := cd.def_ 28 (d := dd_step_of) rfl
  obtain ⟨fd_added, F_added⟩ := cd.def_ 29 (d := dd_added) rfl
  obtain ⟨fd_bounds_of, F_bounds_of⟩ := cd.def_ 30 (d := dd_bounds_of) rfl
  obtain ⟨fd_next_soon, F_next_soon⟩ := cd.def_ 31 (d := dd_next_soon) rfl
  obtain ⟨fd_earlier_start, F_earlier_start⟩ := cd.def_ 32 (d := dd_earlier_start) rfl
  obtain ⟨fd_row_behind, F_row_behind⟩ := cd.def_ 33 (d := dd_row_behind) rfl
  obtain ⟨fd_next_boat, F_next_boat⟩ := cd.def_ 34 (d := dd_next_boat) rfl
  obtain ⟨fd_run_with, F_run_with⟩ := cd.def_ 35 (d := dd_run_with) rfl
  obtain ⟨fd_forms_in, F_forms_in⟩ := cd.def_ 36 (d := dd_forms_in) rfl
  obtain ⟨fd_all_runs, F_all_runs⟩ := cd.def_ 37 (d := dd_all_runs) rfl
  obtain ⟨fd_by_runs, F_by_runs⟩ := cd.def_ 38 (d := dd_by_runs) rfl
  obtain ⟨fd_all_forms, F_all_forms⟩ := cd.def_ 39 (d := dd_all_forms) rfl
  obtain ⟨fd_parting_number, F_parting_number⟩ := cd.def_ 40 (d := dd_parting_number) rfl
  obtain ⟨fd_parting, F_parting⟩ := cd.def_ 41 (d := dd_parting) rfl
  obtain ⟨fd__law_n, F__law_n⟩ := cd.def_ 42 (d := dd__law_n) rfl
  obtain ⟨fd_alike, F_alike⟩ := cd.def_ 43 (d := dd_alike) rfl
  obtain ⟨fd__law_heads, F__law_heads⟩ := cd.def_ 44 (d := dd__law_heads) rfl
  obtain ⟨fd__law_top, F__law_top⟩ := cd.def_ 45 (d := dd__law_top) rfl
  obtain ⟨fd__law_step, F__law_step⟩ := cd.def_ 46 (d := dd__law_step) rfl
  obtain ⟨fd__law_limits, F__law_limits⟩ := cd.def_ 47 (d := dd__law_limits) rfl
  obtain ⟨fd__law_next, F__law_next⟩ := cd.def_ 48 (d := dd__law_next) rfl
  obtain ⟨fd__law_done, F__law_done⟩ := cd.def_ 49 (d := dd__law_done) rfl
  obtain ⟨fd__law_minutes, F__law_minutes⟩ := cd.def_ 50 (d := dd__law_minutes) rfl
  obtain ⟨fd__law_right, F__law_right⟩ := cd.def_ 51 (d := dd__law_right) rfl
  obtain ⟨fd__law_source, F__law_source⟩ := cd.def_ 52 (d := dd__law_source) rfl
  obtain ⟨fd_law, F_law⟩ := cd.def_ 53 (d := dd_law) rfl
  have e := hlaw.symm.trans (He.glo_ok X G (cd.fact 53 (f := .glo "law") rfl))
  cases e
  have bl := FunD.bindsA (ps := ["_law_script"]) F_law fun _ _ _ _ _ _ us hl => match us, hl with | [_], _ => rfl
  refine ⟨fd_law, fun s v => bl s [v] rfl, fun base KB GB TB => ?_⟩
  have b_abs : mg "abs" = none := He.free_ok X G (cd.fact 54 (f := .free "abs") rfl)
  have b_all : mg "all" = none := He.free_ok X G (cd.fact 55 (f := .free "all") rfl)
  have b_bool : mg "bool" = none := He.free_ok X G (cd.fact 56 (f := .free "bool") rfl)
  have b_enumerate : mg "enumerate" = none := He.free_ok X G (cd.fact 57 (f := .free "enumerate") rfl)
  have b_int : mg "int" = none := He.free_ok X G (cd.fact 58 (f := .free "int") rfl)
  have b_isinstance : mg "isinstance" = none := He.free_ok X G (cd.fact 59 (f := .free "isinstance") rfl)
  have b_len : mg "len" = none := He.free_ok X G (cd.fact 60 (f := .free "len") rfl)
  have b_list : mg "list" = none := He.free_ok X G (cd.fact 61 (f := .free "list") rfl)
  have b_max : mg "max" = none := He.free_ok X G (cd.fact 62 (f := .free "max") rfl)
  have b_min : mg "min" = none := He.free_ok X G (cd.fact 63 (f := .free "min") rfl)
  have b_range : mg "range" = none := He.free_ok X G (cd.fact 64 (f := .free "range") rfl)
  have b_sorted : mg "sorted" = none := He.free_ok X G (cd.fact 65 (f := .free "sorted") rfl)
  have b_str : mg "str" = none := He.free_ok X G (cd.fact 66 (f := .free "str") rfl)
  have b_tuple : mg "tuple" = none := He.free_ok X G (cd.fact 67 (f := .free "tuple") rfl)
  have b_zip : mg "zip" = none := He.free_ok X G (cd.fact 68 (f := .free "zip") rfl)
  obtain ⟨q_LEAST, c_LEAST⟩ := He.int_ok X G (cd.fact 69 (f := .int "LEAST" 2) rfl)
  have c_WAYS := He.glo_ok X G (cd.fact 70 (f := .glo "WAYS") rfl)
  have code_all_forms := code_of (x := "all_forms") (st := s_all_forms) F_all_forms
  have t_in_all_forms : He.cT K ("all_forms", none) ∈ htf.map (He.cT K) := List.mem_map_of_mem (by simp [htf])
  have t_mem_all_forms : ((He.cT K ("all_forms", none)).2, ("all_forms.<locals>.<lambda>" : Str)) ∈ hT K := by simp [hT]
  have t_un_all_forms : ∀ p ∈ hT K, p.1 = (He.cT K ("all_forms", none)).2 → p.2 = ("all_forms.<locals>.<lambda>" : Str) := by simp [hT]
  have h_WAYS : ∀ W H, Rp K (lamF K hLs (hgs K)) W H (.ref (He.ga K "WAYS")) d_WAYS := fun W H => .tup (He.tupB_ok wellf H) (.cons (.str _) (.cons (.str _) .nil))
  have o__law_draw := d__law_draw (P := P) (w := w) (mg := mg) (base := base) (T := hT K) (F := lamF K hLs (hgs K)) (k := 0) F__law_draw b_int h__law_draw
  have g__law_draw := GFn.of (x := "_law_draw") (st := s__law_draw) F__law_draw (He.glo_ok X G (cd.fact 0 (f := .glo "_law_draw") rfl)) (fun _ _ _ _ _ _ us hl => match us, hl with | [_, _], _ => rfl) o__law_draw
  have o__law_of := d__law_of (P := P) (w := w) (mg := mg) (base := base) (T := hT K) (F := lamF K hLs (hgs K)) (k := 1) F__law_of (g__law_draw.mono (by decide)) b_len h__law_of
  have g__law_of := GFn.of (x := "_law_of") (st := s__law_of) F__law_of (He.glo_ok X G (cd.fact 1 (f := .glo "_law_of") rfl)) (fun _ _ _ _ _ _ us hl => match us, hl with | [_, _], _ => rfl) o__law_of
  have o__law_rule := d__law_rule (P := P) (w := w) (mg := mg) (base := base) (T := hT K) (F := lamF K hLs (hgs K)) (k := 2) F__law_rule (g__law_of.mono (by decide)) h__law_rule
  have g__law_rule := GFn.of (x := "_law_rule") (st := s__law_rule) F__law_rule (He.glo_ok X G (cd.fact 2 (f := .glo "_law_rule") rfl)) (fun _ _ _ _ _ _ us hl => match us, hl with | [_], _ => rfl) o__law_rule
  have o__law_plan := d__law_plan (P := P) (w := w) (mg := mg) (base := base) (T := hT K) (F := lamF K hLs (hgs K)) (k := 3) F__law_plan (g__law_draw.mono (by decide)) (g__law_of.mono (by decide)) (g__law_rule.mono (by decide)) b_range h__law_plan
  have g__law_plan := GFn.of (x := "_law_plan") (st := s__law_plan) F__law_plan (He.glo_ok X G (cd.fact 3 (f := .glo "_law_plan") rfl)) (fun _ _ _ _ _ _ us hl => match us, hl with | [_, _], _ => rfl) o__law_plan
  have o__law_near := d__law_near (P := P) (w := w) (mg := mg) (base := base) (T := hT K) (F := lamF K hLs (hgs K)) (k := 3) F__law_near (g__law_draw.mono (by decide)) (g__law_rule.mono (by decide)) b_len h__law_near
  have g__law_near := GFn.of (x := "_law_near") (st := s__law_near) F__law_near (He.glo_ok X G (cd.fact 4 (f := .glo "_law_near") rfl)) (fun _ _ _ _ _ _ us hl => match us, hl with | [_, _], _ => rfl) o__law_near
  have o_is_word := d_is_word (P := P) (w := w) (mg := mg) (base := base) (T := hT K) (F := lamF K hLs (hgs K)) (k := 0) F_is_word b_isinstance b_str h_is_word
  have g_is_word := GFn.of (x := "is_word") (st := s_is_word) F_is_word (He.glo_ok X G (cd.fact 5 (f := .glo "is_word") rfl)) (fun _ _ _ _ _ _ us hl => match us, hl with | [_, _], _ => rfl) o_is_word
  have o_is_tuple := d_is_tuple (P := P) (w := w) (mg := mg) (base := base) (T := hT K) (F := lamF K hLs (hgs K)) (k := 0) F_is_tuple b_len b_isinstance b_tuple h_is_tuple
  have g_is_tuple := GFn.of (x := "is_tuple") (st := s_is_tuple) F_is_tuple (He.glo_ok X G (cd.fact 6 (f := .glo "is_tuple") rfl)) (fun _ _ _ _ _ _ us hl => match us, hl with | [_, _, _], _ => rfl) o_is_tuple
  have o_is_number := d_is_number (P := P) (w := w) (mg := mg) (base := base) (T := hT K) (F := lamF K hLs (hgs K)) (k := 0) F_is_number b_isinstance b_bool b_int h_is_number
  have g_is_number := GFn.of (x := "is_number") (st := s_is_number) F_is_number (He.glo_ok X G (cd.fact 7 (f := .glo "is_number") rfl)) (fun _ _ _ _ _ _ us hl => match us, hl with | [_, _, _], _ => rfl) o_is_number
  have o_is_good_rule := d_is_good_rule (P := P) (w := w) (mg := mg) (base := base) (T := hT K) (F := lamF K hLs (hgs K)) (k := 1) F_is_good_rule (g_is_word.mono (by decide)) (g_is_tuple.mono (by decide)) (g_is_number.mono (by decide)) b_len h_is_good_rule
  have g_is_good_rule := GFn.of (x := "is_good_rule") (st := s_is_good_rule) F_is_good_rule (He.glo_ok X G (cd.fact 8 (f := .glo "is_good_rule") rfl)) (fun _ _ _ _ _ _ us hl => match us, hl with | [_], _ => rfl) o_is_good_rule
  have o_is_boat := d_is_boat (P := P) (w := w) (mg := mg) (base := base) (T := hT K) (F := lamF K hLs (hgs K)) (k := 1) F_is_boat (g_is_word.mono (by decide)) (g_is_tuple.mono (by decide)) (g_is_number.mono (by decide)) c_WAYS h_WAYS h_is_boat
  have g_is_boat := GFn.of (x := "is_boat") (st := s_is_boat) F_is_boat (He.glo_ok X G (cd.fact 9 (f := .glo "is_boat") rfl)) (fun _ _ _ _ _ _ us hl => match us, hl with | [_], _ => rfl) o_is_boat
  have o_is_good_plan := d_is_good_plan (P := P) (w := w) (mg := mg) (base := base) (T := hT K) (F := lamF K hLs (hgs K)) (k := 2) F_is_good_plan (g_is_good_rule.mono (by decide)) (g_is_number.mono (by decide)) (g_is_tuple.mono (by decide)) (g_is_boat.mono (by decide)) b_all h_is_good_plan
  have g_is_good_plan := GFn.of (x := "is_good_plan") (st := s_is_good_plan) F_is_good_plan (He.glo_ok X G (cd.fact 10 (f := .glo "is_good_plan") rfl)) (fun _ _ _ _ _ _ us hl => match us, hl with | [_], _ => rfl) o_is_good_plan
  have o_need_plan := d_need_plan (P := P) (w := w) (mg := mg) (base := base) (T := hT K) (F := lamF K hLs (hgs K)) (k := 3) F_need_plan (g_is_good_plan.mono (by decide)) h_need_plan
  have g_need_plan := GFn.of (x := "need_plan") (st := s_need_plan) F_need_plan (He.glo_ok X G (cd.fact 11 (f := .glo "need_plan") rfl)) (fun _ _ _ _ _ _ us hl => match us, hl with | [_], _ => rfl) o_need_plan
  have o_need_two := d_need_two (P := P) (w := w) (mg := mg) (base := base) (T := hT K) (F := lamF K hLs (hgs K)) (k := 4) F_need_two (g_need_plan.mono (by decide)) h_need_two
  have g_need_two := GFn.of (x := "need_two") (st := s_need_two) F_need_two (He.glo_ok X G (cd.fact 12 (f := .glo "need_two") rfl)) (fun _ _ _ _ _ _ us hl => match us, hl with | [_, _], _ => rfl) o_need_two
  have o_first_false := d_first_false (P := P) (w := w) (mg := mg) (base := base) (T := hT K) (F := lamF K hLs (hgs K)) (k := 0) F_first_false  h_first_false
  have g_first_false := GFn.of (x := "first_false") (st := s_first_false) F_first_false (He.glo_ok X G (cd.fact 13 (f := .glo "first_false") rfl)) (fun _ _ _ _ _ _ us hl => match us, hl with | [_], _ => rfl) o_first_false
  have o_lesser_end := d_lesser_end (P := P) (w := w) (mg := mg) (base := base) (T := hT K) (F := lamF K hLs (hgs K)) (k := 0) F_lesser_end  h_lesser_end
  have g_lesser_end := GFn.of (x := "lesser_end") (st := s_lesser_end) F_lesser_end (He.glo_ok X G (cd.fact 14 (f := .glo "lesser_end") rfl)) (fun _ _ _ _ _ _ us hl => match us, hl with | [_, _], _ => rfl) o_lesser_end
  have o_worth := d_worth (P := P) (w := w) (mg := mg) (base := base) (T := hT K) (F := lamF K hLs (hgs K)) (k := 0) F_worth  h_worth
  have g_worth := GFn.of (x := "worth") (st := s_worth) F_worth (He.glo_ok X G (cd.fact 15 (f := .glo "worth") rfl)) (fun _ _ _ _ _ _ us hl => match us, hl with | [_, _], _ => rfl) o_worth
  have o_sign_of := d_sign_of (P := P) (w := w) (mg := mg) (base := base) (T := hT K) (F := lamF K hLs (hgs K)) (k := 1) F_sign_of (g_worth.mono (by decide)) h_sign_of
  have g_sign_of := GFn.of (x := "sign_of") (st := s_sign_of) F_sign_of (He.glo_ok X G (cd.fact 16 (f := .glo "sign_of") rfl)) (fun _ _ _ _ _ _ us hl => match us, hl with | [_, _], _ => rfl) o_sign_of
  have o_same_to := d_same_to (P := P) (w := w) (mg := mg) (base := base) (T := hT K) (F := lamF K hLs (hgs K)) (k := 2) F_same_to (g_sign_of.mono (by decide)) b_abs h_same_to
  have g_same_to := GFn.of (x := "same_to") (st := s_same_to) F_same_to (He.glo_ok X G (cd.fact 17 (f := .glo "same_to") rfl)) (fun _ _ _ _ _ _ us hl => match us, hl with | [_, _], _ => rfl) o_same_to
  have o_until := d_until (P := P) (w := w) (mg := mg) (base := base) (T := hT K) (F := lamF K hLs (hgs K)) (k := 3) F_until (g_same_to.mono (by decide)) b_int b_min h_until
  have g_until := GFn.of (x := "until") (st := s_until) F_until (He.glo_ok X G (cd.fact 18 (f := .glo "until") rfl)) (fun _ _ _ _ _ _ us hl => match us, hl with | [_, _], _ => rfl) o_until
  have o_joined := d_joined (P := P) (w := w) (mg := mg) (base := base) (T := hT K) (F := lamF K hLs (hgs K)) (k := 0) F_joined  h_joined
  have g_joined := GFn.of (x := "joined") (st := s_joined) F_joined (He.glo_ok X G (cd.fact 19 (f := .glo "joined") rfl)) (fun _ _ _ _ _ _ us hl => match us, hl with | [_], _ => rfl) o_joined
  have o_less := d_less (P := P) (w := w) (mg := mg) (base := base) (T := hT K) (F := lamF K hLs (hgs K)) (k := 0) F_less  h_less
  have g_less := GFn.of (x := "less") (st := s_less) F_less (He.glo_ok X G (cd.fact 20 (f := .glo "less") rfl)) (fun _ _ _ _ _ _ us hl => match us, hl with | [_, _], _ => rfl) o_less
  have o_gaps_of := d_gaps_of (P := P) (w := w) (mg := mg) (base := base) (T := hT K) (F := lamF K hLs (hgs K)) (k := 1) F_gaps_of (g_less.mono (by decide)) b_zip h_gaps_of
  have g_gaps_of := GFn.of (x := "gaps_of") (st := s_gaps_of) F_gaps_of (He.glo_ok X G (cd.fact 21 (f := .glo "gaps_of") rfl)) (fun _ _ _ _ _ _ us hl => match us, hl with | [_, _], _ => rfl) o_gaps_of
  have o_is_same := d_is_same (P := P) (w := w) (mg := mg) (base := base) (T := hT K) (F := lamF K hLs (hgs K)) (k := 2) F_is_same (g_gaps_of.mono (by decide)) (g_sign_of.mono (by decide)) b_all h_is_same
  have g_is_same := GFn.of (x := "is_same") (st := s_is_same) F_is_same (He.glo_ok X G (cd.fact 22 (f := .glo "is_same") rfl)) (fun _ _ _ _ _ _ us hl => match us, hl with | [_, _], _ => rfl) o_is_same
  have told_cut : ∀ n ds, CallD P w K mg base (lamF K hLs (hgs K)) (hT K) 3 n ds (sp_told2 n ds) := fun n ds => told2_ok F_is_same o_is_same n ds
  have o_cut := d_cut (P := P) (w := w) (mg := mg) (base := base) (T := hT K) (F := lamF K hLs (hgs K)) (k := 4) F_cut (g_lesser_end.mono (by decide)) (g_until.mono (by decide)) (g_joined.mono (by decide)) (fun n ds => (told_cut n ds).mono (by decide)) (h_cut (sp_told := sp_told2))
  have g_cut := GFn.of (x := "cut") (st := s_cut) F_cut (He.glo_ok X G (cd.fact 23 (f := .glo "cut") rfl)) (fun _ _ _ _ _ _ us hl => match us, hl with | [_, _], _ => rfl) o_cut
  have o_both := d_both (P := P) (w := w) (mg := mg) (base := base) (T := hT K) (F := lamF K hLs (hgs K)) (k := 1) F_both (g_lesser_end.mono (by decide)) h_both
  have g_both := GFn.of (x := "both") (st := s_both) F_both (He.glo_ok X G (cd.fact 24 (f := .glo "both") rfl)) (fun _ _ _ _ _ _ us hl => match us, hl with | [_, _], _ => rfl) o_both
  have o_head_of := d_head_of (P := P) (w := w) (mg := mg) (base := base) (T := hT K) (F := lamF K hLs (hgs K)) (k := 0) F_head_of b_int b_sorted h_head_of
  have g_head_of := GFn.of (x := "head_of") (st := s_head_of) F_head_of (He.glo_ok X G (cd.fact 25 (f := .glo "head_of") rfl)) (fun _ _ _ _ _ _ us hl => match us, hl with | [_, _, _], _ => rfl) o_head_of
  have o_top_form := d_top_form (P := P) (w := w) (mg := mg) (base := base) (T := hT K) (F := lamF K hLs (hgs K)) (k := 2) F_top_form (g_less.mono (by decide)) (g_sign_of.mono (by decide)) h_top_form
  have g_top_form := GFn.of (x := "top_form") (st := s_top_form) F_top_form (He.glo_ok X G (cd.fact 26 (f := .glo "top_form") rfl)) (fun _ _ _ _ _ _ us hl => match us, hl with | [_, _], _ => rfl) o_top_form
  have o_is_turned := d_is_turned (P := P) (w := w) (mg := mg) (base := base) (T := hT K) (F := lamF K hLs (hgs K)) (k := 0) F_is_turned  h_is_turned
  have g_is_turned := GFn.of (x := "is_turned") (st := s_is_turned) F_is_turned (He.glo_ok X G (cd.fact 27 (f := .glo "is_turned") rfl)) (fun _ _ _ _ _ _ us hl => match us, hl with | [_, _, _], _ => rfl) o_is_turned
  have o_step_of := d_step_of (P := P) (w := w) (mg := mg) (base := base) (T := hT K) (F := lamF K hLs (hgs K)) (k := 1) F_step_of (g_is_turned.mono (by decide)) h_step_of
  have g_step_of := GFn.of (x := "step_of") (st := s_step_of) F_step_of (He.glo_ok X G (cd.fact 28 (f := .glo "step_of") rfl)) (fun _ _ _ _ _ _ us hl => match us, hl with | [_, _, _], _ => rfl) o_step_of
  have o_added := d_added (P := P) (w := w) (mg := mg) (base := base) (T := hT K) (F := lamF K hLs (hgs K)) (k := 0) F_added  h_added
  have g_added := GFn.of (x := "added") (st := s_added) F_added (He.glo_ok X G (cd.fact 29 (f := .glo "added") rfl)) (fun _ _ _ _ _ _ us hl => match us, hl with | [_, _], _ => rfl) o_added
  have o_bounds_of := d_bounds_of (P := P) (w := w) (mg := mg) (base := base) (T := hT K) (F := lamF K hLs (hgs K)) (k := 2) F_bounds_of (g_less.mono (by decide)) (g_step_of.mono (by decide)) (g_added.mono (by decide)) h_bounds_of
  have g_bounds_of := GFn.of (x := "bounds_of") (st := s_bounds_of) F_bounds_of (He.glo_ok X G (cd.fact 30 (f := .glo "bounds_of") rfl)) (fun _ _ _ _ _ _ us hl => match us, hl with | [_, _, _], _ => rfl) o_bounds_of
  have o_next_soon := d_next_soon (P := P) (w := w) (mg := mg) (base := base) (T := hT K) (F := lamF K hLs (hgs K)) (k := 3) F_next_soon (g_top_form.mono (by decide)) (g_bounds_of.mono (by decide)) (g_less.mono (by decide)) (g_sign_of.mono (by decide)) b_int b_min h_next_soon
  have g_next_soon := GFn.of (x := "next_soon") (st := s_next_soon) F_next_soon (He.glo_ok X G (cd.fact 31 (f := .glo "next_soon") rfl)) (fun _ _ _ _ _ _ us hl => match us, hl with | [_, _, _, _], _ => rfl) o_next_soon
  have o_earlier_start := d_earlier_start (P := P) (w := w) (mg := mg) (base := base) (T := hT K) (F := lamF K hLs (hgs K)) (k := 0) F_earlier_start b_int b_sorted h_earlier_start
  have g_earlier_start := GFn.of (x := "earlier_start") (st := s_earlier_start) F_earlier_start (He.glo_ok X G (cd.fact 32 (f := .glo "earlier_start") rfl)) (fun _ _ _ _ _ _ us hl => match us, hl with | [_, _], _ => rfl) o_earlier_start
  have o_row_behind := d_row_behind (P := P) (w := w) (mg := mg) (base := base) (T := hT K) (F := lamF K hLs (hgs K)) (k := 0) F_row_behind  h_row_behind
  have g_row_behind := GFn.of (x := "row_behind") (st := s_row_behind) F_row_behind (He.glo_ok X G (cd.fact 33 (f := .glo "row_behind") rfl)) (fun _ _ _ _ _ _ us hl => match us, hl with | [_, _], _ => rfl) o_row_behind
  have o_next_boat := d_next_boat (P := P) (w := w) (mg := mg) (base := base) (T := hT K) (F := lamF K hLs (hgs K)) (k := 4) F_next_boat (g_head_of.mono (by decide)) (g_next_soon.mono (by decide)) (g_earlier_start.mono (by decide)) (g_row_behind.mono (by decide)) b_len b_range h_next_boat
  have g_next_boat := GFn.of (x := "next_boat") (st := s_next_boat) F_next_boat (He.glo_ok X G (cd.fact 34 (f := .glo "next_boat") rfl)) (fun _ _ _ _ _ _ us hl => match us, hl with | [_, _, _], _ => rfl) o_next_boat
  have o_run_with := d_run_with (P := P) (w := w) (mg := mg) (base := base) (T := hT K) (F := lamF K hLs (hgs K)) (k := 5) F_run_with (g_next_boat.mono (by decide)) (g_top_form.mono (by decide)) (g_bounds_of.mono (by decide)) (g_added.mono (by decide)) (g_step_of.mono (by decide)) b_len b_range h_run_with
  have g_run_with := GFn.of (x := "run_with") (st := s_run_with) F_run_with (He.glo_ok X G (cd.fact 35 (f := .glo "run_with") rfl)) (fun _ _ _ _ _ _ us hl => match us, hl with | [_, _], _ => rfl) o_run_with
  have o_forms_in := d_forms_in (P := P) (w := w) (mg := mg) (base := base) (T := hT K) (F := lamF K hLs (hgs K)) (k := 0) F_forms_in b_sorted b_zip b_tuple h_forms_in
  have g_forms_in := GFn.of (x := "forms_in") (st := s_forms_in) F_forms_in (He.glo_ok X G (cd.fact 36 (f := .glo "forms_in") rfl)) (fun _ _ _ _ _ _ us hl => match us, hl with | [_], _ => rfl) o_forms_in
  have o_all_runs := d_all_runs (P := P) (w := w) (mg := mg) (base := base) (T := hT K) (F := lamF K hLs (hgs K)) (k := 6) F_all_runs (g_run_with.mono (by decide)) (g_until.mono (by decide)) (g_forms_in.mono (by decide)) (g_joined.mono (by decide)) c_LEAST h_all_runs
  have g_all_runs := GFn.of (x := "all_runs") (st := s_all_runs) F_all_runs (He.glo_ok X G (cd.fact 37 (f := .glo "all_runs") rfl)) (fun _ _ _ _ _ _ us hl => match us, hl with | [_], _ => rfl) o_all_runs
  have told_by_runs : ∀ n ds, CallD P w K mg base (lamF K hLs (hgs K)) (hT K) 1 n ds (sp_told1 n ds) := fun n ds => told1_ok F_is_same n ds
  have o_by_runs := d_by_runs (P := P) (w := w) (mg := mg) (base := base) (T := hT K) (F := lamF K hLs (hgs K)) (k := 7) F_by_runs (g_joined.mono (by decide)) (g_all_runs.mono (by decide)) (fun n ds => (told_by_runs n ds).mono (by decide)) (h_by_runs (sp_told := sp_told1))
  have g_by_runs := GFn.of (x := "by_runs") (st := s_by_runs) F_by_runs (He.glo_ok X G (cd.fact 38 (f := .glo "by_runs") rfl)) (fun _ _ _ _ _ _ us hl => match us, hl with | [_, _], _ => rfl) o_by_runs
  have o_all_forms := d_all_forms (P := P) (w := w) (mg := mg) (base := base) (T := hT K) (Ls := hLs) (gs := hgs K) (k := 8) F_all_forms (g_by_runs.mono (by decide)) rfl (TB _ t_in_all_forms) code_all_forms t_mem_all_forms t_un_all_forms h_all_forms
  have g_all_forms := GFn.of (x := "all_forms") (st := s_all_forms) F_all_forms (He.glo_ok X G (cd.fact 39 (f := .glo "all_forms") rfl)) (fun _ _ _ _ _ _ us hl => match us, hl with | [_], _ => rfl) o_all_forms
  have o_parting_number := d_parting_number (P := P) (w := w) (mg := mg) (base := base) (T := hT K) (F := lamF K hLs (hgs K)) (k := 9) F_parting_number (g_first_false.mono (by decide)) (g_cut.mono (by decide)) (g_both.mono (by decide)) (g_all_forms.mono (by decide)) b_len c_LEAST (fun H => Or.inr ⟨rfl, rfl⟩) (He.glo_ok X G (cd.fact 22 (f := .glo "is_same") rfl)) h_parting_number
  have g_parting_number := GFn.of (x := "parting_number") (st := s_parting_number) F_parting_number (He.glo_ok X G (cd.fact 40 (f := .glo "parting_number") rfl)) (fun _ _ _ _ _ _ us hl => match us, hl with | [_, _], _ => rfl) o_parting_number
  have o_parting := d_parting (P := P) (w := w) (mg := mg) (base := base) (T := hT K) (F := lamF K hLs (hgs K)) (k := 10) F_parting (g_need_two.mono (by decide)) (g_parting_number.mono (by decide)) h_parting
  have g_parting := GFn.of (x := "parting") (st := s_parting) F_parting (He.glo_ok X G (cd.fact 41 (f := .glo "parting") rfl)) (fun _ _ _ _ _ _ us hl => match us, hl with | [_, _], _ => rfl) o_parting
  have o__law_n := d__law_n (P := P) (w := w) (mg := mg) (base := base) (T := hT K) (F := lamF K hLs (hgs K)) (k := 2) F__law_n (g__law_draw.mono (by decide)) (g__law_of.mono (by decide)) h__law_n
  have g__law_n := GFn.of (x := "_law_n") (st := s__law_n) F__law_n (He.glo_ok X G (cd.fact 42 (f := .glo "_law_n") rfl)) (fun _ _ _ _ _ _ us hl => match us, hl with | [_], _ => rfl) o__law_n
  have o_alike := d_alike (P := P) (w := w) (mg := mg) (base := base) (T := hT K) (F := lamF K hLs (hgs K)) (k := 10) F_alike (g_need_two.mono (by decide)) (g_parting_number.mono (by decide)) h_alike
  have g_alike := GFn.of (x := "alike") (st := s_alike) F_alike (He.glo_ok X G (cd.fact 43 (f := .glo "alike") rfl)) (fun _ _ _ _ _ _ us hl => match us, hl with | [_, _], _ => rfl) o_alike
  have o__law_heads := d__law_heads (P := P) (w := w) (mg := mg) (base := base) (T := hT K) (F := lamF K hLs (hgs K)) (k := 0) F__law_heads b_enumerate b_min h__law_heads
  have g__law_heads := GFn.of (x := "_law_heads") (st := s__law_heads) F__law_heads (He.glo_ok X G (cd.fact 44 (f := .glo "_law_heads") rfl)) (fun _ _ _ _ _ _ us hl => match us, hl with | [_, _], _ => rfl) o__law_heads
  have o__law_top := d__law_top (P := P) (w := w) (mg := mg) (base := base) (T := hT K) (F := lamF K hLs (hgs K)) (k := 0) F__law_top b_max h__law_top
  have g__law_top := GFn.of (x := "_law_top") (st := s__law_top) F__law_top (He.glo_ok X G (cd.fact 45 (f := .glo "_law_top") rfl)) (fun _ _ _ _ _ _ us hl => match us, hl with | [_, _], _ => rfl) o__law_top
  have o__law_step := d__law_step (P := P) (w := w) (mg := mg) (base := base) (T := hT K) (F := lamF K hLs (hgs K)) (k := 0) F__law_step  h__law_step
  have g__law_step := GFn.of (x := "_law_step") (st := s__law_step) F__law_step (He.glo_ok X G (cd.fact 46 (f := .glo "_law_step") rfl)) (fun _ _ _ _ _ _ us hl => match us, hl with | [_, _, _], _ => rfl) o__law_step
  have o__law_limits := d__law_limits (P := P) (w := w) (mg := mg) (base := base) (T := hT K) (F := lamF K hLs (hgs K)) (k := 1) F__law_limits (g__law_step.mono (by decide)) h__law_limits
  have g__law_limits := GFn.of (x := "_law_limits") (st := s__law_limits) F__law_limits (He.glo_ok X G (cd.fact 47 (f := .glo "_law_limits") rfl)) (fun _ _ _ _ _ _ us hl => match us, hl with | [_, _, _], _ => rfl) o__law_limits
  have o__law_next := d__law_next (P := P) (w := w) (mg := mg) (base := base) (T := hT K) (F := lamF K hLs (hgs K)) (k := 2) F__law_next (g__law_heads.mono (by decide)) (g__law_top.mono (by decide)) (g__law_limits.mono (by decide)) b_len b_min b_int h__law_next
  have g__law_next := GFn.of (x := "_law_next") (st := s__law_next) F__law_next (He.glo_ok X G (cd.fact 48 (f := .glo "_law_next") rfl)) (fun _ _ _ _ _ _ us hl => match us, hl with | [_, _, _], _ => rfl) o__law_next
  have o__law_done := d__law_done (P := P) (w := w) (mg := mg) (base := base) (T := hT K) (F := lamF K hLs (hgs K)) (k := 3) F__law_done (g__law_next.mono (by decide)) (g__law_top.mono (by decide)) (g__law_limits.mono (by decide)) (g__law_step.mono (by decide)) b_len b_range h__law_done
  have g__law_done := GFn.of (x := "_law_done") (st := s__law_done) F__law_done (He.glo_ok X G (cd.fact 49 (f := .glo "_law_done") rfl)) (fun _ _ _ _ _ _ us hl => match us, hl with | [_, _], _ => rfl) o__law_done
  have o__law_minutes := d__law_minutes (P := P) (w := w) (mg := mg) (base := base) (T := hT K) (F := lamF K hLs (hgs K)) (k := 4) F__law_minutes (g__law_done.mono (by decide)) b_len b_range b_tuple h__law_minutes
  have g__law_minutes := GFn.of (x := "_law_minutes") (st := s__law_minutes) F__law_minutes (He.glo_ok X G (cd.fact 50 (f := .glo "_law_minutes") rfl)) (fun _ _ _ _ _ _ us hl => match us, hl with | [_, _], _ => rfl) o__law_minutes
  have o__law_right := d__law_right (P := P) (w := w) (mg := mg) (base := base) (T := hT K) (F := lamF K hLs (hgs K)) (k := 11) F__law_right (g_parting.mono (by decide)) (g__law_n.mono (by decide)) (g_alike.mono (by decide)) (g__law_minutes.mono (by decide)) b_list b_range b_len h__law_right
  have g__law_right := GFn.of (x := "_law_right") (st := s__law_right) F__law_right (He.glo_ok X G (cd.fact 51 (f := .glo "_law_right") rfl)) (fun _ _ _ _ _ _ us hl => match us, hl with | [_, _, _], _ => rfl) o__law_right
  have g_source : GSrc P w K mg base (lamF K hLs (hgs K)) (hT K) 1 := GSrc.of (st := s__law_source) F__law_source (He.glo_ok X G (cd.fact 52 (f := .glo "_law_source") rfl)) (fun _ _ _ _ _ _ us hl => match us, hl with | [_, _], _ => rfl) (d__law_source (k := 0) F__law_source b_len b_int b_abs)
  have o_law := d_law (P := P) (w := w) (mg := mg) (base := base) (T := hT K) (F := lamF K hLs (hgs K)) (k := 12) F_law (g__law_plan.mono (by decide)) (g__law_rule.mono (by decide)) (g__law_near.mono (by decide)) (g__law_right.mono (by decide)) (g_parting.mono (by decide)) (g_alike.mono (by decide)) (g_source.mono (by decide)) b_len b_min b_range h_law
  exact o_law
theorem hT_ok (K : PySem.W.Frag) : ∀ p ∈ hT K, ∃ p' ∈ htf, p.1 = (He.cT K p').2 := by simp [hT, htf]
end DL
open PySem PySem.W PySem.Calls PyProof.Rows
set_option maxHeartbeats 0 in
theorem PySem.Challenge.cw_lockstairs_k08_plans_compared_holds : PySem.Challenge.rw_lockstairs_k08_plans_compared.Holds := by
  w_on; o_law
  refine HandSHeadRun.head_any (r := DL.Rw) (q := view DL.Rw.prog [64]) (H := DL.hk) (ob := DL.hob) (M := 3000) (loose := DL.hloose) (d := HandSHeadRun.topDef DL.Rw.prog 64) (kwd := []) DL.hob_eq
    (by kernel_rfl) (fun s => by kernel_rfl) DL.hrun (by kernel_rfl) (by kernel_rfl) (by kernel_rfl) (by rfl) (by first | assumption | decide +kernel) (by decide +kernel) ⟨rfl, rfl, rfl, rfl, rfl, by decide +kernel⟩ ?hw ?hc
  case hw => w_witness2
  case hc => exact DL.law_end (l := PySem.Challenge.rw_lockstairs_k08_plans_compared) (n := 63) (k := 13) (x := "_law_script") (Ls := DL.hLs) (gs := DL.hgs) (Tt := DL.hT) (sp := DL.sp_law) DL.hT_ok rfl (by decide) (by kernel_rfl) ⟨rfl, by decide, by decide⟩ (by kernel_rfl) (fun {w K h mg f} X G hfa c => DL.ends X G hfa c) (fun ns hl P hP => ⟨ns, rfl, hl, hP⟩)
