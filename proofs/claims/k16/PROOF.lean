import PyProof.Rows.All
import Wide.All
import OpenK.AllK
import Wide.FinOn
import HandS.ForMost
import HandS.Exc
import HandS.ExcOwn
import HandS.TryOnly
import HandS.WordsExc
import HandS.IsInst
import HandS.TupAny
import HandS.TupMul
import HandS.Wide
import HandS.Conv
import HandS.Rev
import HandS.RevRange
import HandS.Zip
import HandS.Deep
import KE.DataEq
import HandS.ExcCtx
import HandS.ReCall
import HandS.SortRule
import HandS.SortInts
import KE.GoesZip
import KE.GoesMore
import KE.KTurns
import HandS.RevTup
import HandS.Remove
import PyProof.ListNew
import HandS.Dict
import KE.KIndexOf
import HandS.Hot
import HandS.HotCalls
import HandS.ExcIs
import HandS.Comp
import HandS.Text
import PyProof.ListStr
import HandS.ReplaceLit
import HandS.TupLen
import HandS.Iter
import PyProof.Rows.TupDisplay
import PySem.Challenge.RW_ringbar_k16_chests_refused
set_option Elab.async false
set_option linter.all false
set_option maxRecDepth 100000
set_option maxHeartbeats 4000000
/-! The data layer: values as data (PyData), what a heap says of them, readings by functions of data. -/
namespace DL
open PySem PySem.Spec PyProof.Rows L2
variable {K : PySem.W.Frag}

abbrev D := PyData
/-- the script: a list that is read alone -/
abbrev scr (ns : List Int) : D := .dict [(.none, .list (ns.map .int))]
/-- fx: tuples that tuple(list) makes are kept with the object itself, which tells that they have no dict -/
def fxOn : Bool := false
def noDict (o : Obj) : Prop := o.dict = none
def TupAt (G : Hp) (a : Addr) (xs : List V) : Prop := G a = some (.tup xs) ∨ (fxOn = true ∧ ∃ o, noDict o ∧ G a = some (.frz o (.tup xs)))
theorem TupAt.mono {G G' : Hp} (h : Same G G') {a : Addr} {xs : List V} (t : TupAt G a xs) : TupAt G' a xs := by
  rcases t with t | ⟨f, o, n, t⟩
  · exact .inl (h _ _ t)
  · exact .inr ⟨f, o, n, h _ _ t⟩
theorem TupAt.sq {G : Hp} {a : Addr} {xs : List V} (t : TupAt G a xs) : SqT K G a xs := by
  rcases t with t | ⟨_, o, _, t⟩
  · exact .inl (.inl t)
  · exact .inl (.inr ⟨o, t⟩)
/-- a tuple that is known to have no dict -/
abbrev fx (ds : List D) : D := .dict [(.bool true, .tuple ds)]
/-- the values of a dict with tuples of numbers as keys: numbers, truths -/
inductive Sc where
  | i (n : Int) | b (x : Bool)
def Sc.d : Sc → D
  | .i n => .int n
  | .b x => .bool x
def Sc.v : Sc → V
  | .i n => .int n
  | .b x => .bl x
abbrev Dm := List (List Int × Sc)
def Dm.w (m : Dm) : List (List L2.Key × V) := m.map fun p => (p.1.map Sum.inl, p.2.v)
/-- such a dict as a thing: its pairs -/
def encD (m : Dm) : List (D × D) := m.map fun p => (.tuple (p.1.map .int), p.2.d)
/-- what the class Rack is, at C -/
structure RkC (K : PySem.W.Frag) (C : Addr) : Prop where
  nm : PySem.W.nsIn K mainGlobals "Rack" = some (some (.ref C))
  cl : Cls K C
  ha : PySem.W.findIn K (.ref C) "__class__" = some (some (.builtin "object.__class__"))
  hn : PySem.W.specialIn K (.builtin "object.__class__") "__get__" = some (some (.builtin "getset_descriptor.__get__"))
  htk : PySem.W.takesIn K (.builtin "object.__class__") = some true
  hm : PySem.W.mroIn K C (.type "object") = some true
  sub : ∀ T : String, (T = "int" ∨ T = "bool" ∨ T = "str" ∨ T = "tuple" ∨ T = "list") → PySem.W.subIn K (.ref C) (.type T) = some false
  at1 : NoAttr K C "chests"
  at2 : NoAttr K C "stands"
  at3 : NoAttr K C "done_so_far"
def LsAt (G : Hp) (css : List (List Int)) (xs : List V) : Prop := Paired (fun (c : List Int) (x : V) => ∃ p, x = V.ref p ∧ G p = some (.lst (c.map V.int))) css xs
def TsAt (G : Hp) (rss : List (List Int)) (xs : List V) : Prop := Paired (fun (r : List Int) (x : V) => ∃ p, x = V.ref p ∧ TupAt G p (r.map V.int)) rss xs
/-- a rack at a: the counts of its chests, its rows, its deeds -/
def RkAt (K : PySem.W.Frag) (G : Hp) (css rss dss : List (List Int)) (a : Addr) : Prop := ∃ (C dx p1 p2 p3 : Addr) (xs1 xs2 xs3 : List V), RkC K C ∧ G a = some (.ins C dx [("chests", .ref p1), ("stands", .ref p2), ("done_so_far", .ref p3)]) ∧
  G p1 = some (.lst xs1) ∧ G p2 = some (.lst xs2) ∧ G p3 = some (.lst xs3) ∧ LsAt G css xs1 ∧ TsAt G rss xs2 ∧ TsAt G dss xs3
theorem paired_mono {α β : Type} {R S : α → β → Prop} (h : ∀ a b, R a b → S a b) : ∀ {l : List α} {m : List β}, Paired R l m → Paired S l m
  | _, _, .nil => .nil
  | _, _, .cons x t => .cons (h _ _ x) (paired_mono h t)
theorem RkAt.mono {G G' : Hp} (h : Same G G') {css rss dss : List (List Int)} {a : Addr} (r : RkAt K G css rss dss a) : RkAt K G' css rss dss a := by
  obtain ⟨C, dx, p1, p2, p3, xs1, xs2, xs3, c, e, e1, e2, e3, l1, l2, l3⟩ := r
  exact ⟨C, dx, p1, p2, p3, xs1, xs2, xs3, c, h _ _ e, h _ _ e1, h _ _ e2, h _ _ e3, paired_mono (fun _ _ ⟨p, x, q⟩ => ⟨p, x, h _ _ q⟩) l1, paired_mono (fun _ _ ⟨p, x, q⟩ => ⟨p, x, q.mono h⟩) l2, paired_mono (fun _ _ ⟨p, x, q⟩ => ⟨p, x, q.mono h⟩) l3⟩
def lsD (css : List (List Int)) : D := .list (css.map fun c => .list (c.map .int))
def tsD (rss : List (List Int)) : D := .list (rss.map fun r => .tuple (r.map .int))
/-- a rack as a thing -/
def encK (css rss dss : List (List Int)) : List (D × D) := [(.bool false, lsD css), (.bool false, tsD rss), (.bool false, tsD dss)]
mutual
def Rep (K : PySem.W.Frag) (G : Hp) : D → V → Prop
  | .none, v => v = .non
  | .bool b, v => v = .bl b
  | .int i, v => v = .int i
  | .str x, v => v = .str x
  | .list ds, v => ∃ a xs, v = .ref a ∧ G a = some (.lst xs) ∧ RepL K G ds xs
  | .tuple ds, v => ∃ a xs, v = .ref a ∧ TupAt G a xs ∧ RepL K G ds xs
  | .dict kvs, v => (kvs = [] ∧ ∃ a, v = .ref a ∧ G a = some (.dK [])) ∨ (∃ (ns : List Int) (a : Addr), kvs = [(PyData.none, PyData.list (ns.map PyData.int))] ∧ v = .ref a ∧ SqL K G a (ns.map V.int)) ∨ (fxOn = true ∧ ∃ (ns : List Int) (a : Addr) (o : Obj), kvs = [(PyData.bool true, PyData.tuple (ns.map PyData.int))] ∧ v = .ref a ∧ noDict o ∧ G a = some (.frz o (.tup (ns.map V.int)))) ∨ (∃ (m : Dm) (a : Addr) (o : Obj), m ≠ [] ∧ kvs = encD m ∧ v = .ref a ∧ G a = some (.frz o (.dT m.w))) ∨ (∃ (css rss dss : List (List Int)) (a : Addr), kvs = encK css rss dss ∧ v = .ref a ∧ RkAt K G css rss dss a)
def RepL (K : PySem.W.Frag) (G : Hp) : List D → List V → Prop
  | [], xs => xs = []
  | d :: ds, xs => ∃ x r, xs = x :: r ∧ Rep K G d x ∧ RepL K G ds r
end
mutual
theorem Rep.mono {G G' : Hp} (h : Same G G') : ∀ (d : D) (v : V), Rep K G d v → Rep K G' d v
  | .none, _, r => r
  | .bool _, _, r => r
  | .int _, _, r => r
  | .str _, _, r => r
  | .list ds, _, r => by
    obtain ⟨a, xs, e, r1, r2⟩ := r
    exact ⟨a, xs, e, h _ _ r1, RepL.mono h ds xs r2⟩
  | .tuple ds, _, r => by
    obtain ⟨a, xs, e, r1, r2⟩ := r
    exact ⟨a, xs, e, TupAt.mono h r1, RepL.mono h ds xs r2⟩
  | .dict _, _, r => by
    rcases r with ⟨e, a, e1, r1⟩ | ⟨ns, a, e, e1, r1⟩ | ⟨f, ns, a, o, e, e1, n, r1⟩ | ⟨m, a, o, m0, e, e1, r1⟩ | ⟨css, rss, dss, a, e, e1, r1⟩
    · exact .inl ⟨e, a, e1, h _ _ r1⟩
    · exact .inr (.inl ⟨ns, a, e, e1, Same.seq h r1⟩)
    · exact .inr (.inr (.inl ⟨f, ns, a, o, e, e1, n, h _ _ r1⟩))
    · exact .inr (.inr (.inr (.inl ⟨m, a, o, m0, e, e1, h _ _ r1⟩)))
    · exact .inr (.inr (.inr (.inr ⟨css, rss, dss, a, e, e1, r1.mono h⟩)))
theorem RepL.mono {G G' : Hp} (h : Same G G') : ∀ (ds : List D) (xs : List V), RepL K G ds xs → RepL K G' ds xs
  | [], _, r => r
  | d :: ds, _, r => by
    obtain ⟨x, t, e, r1, r2⟩ := r
    exact ⟨x, t, e, Rep.mono h d x r1, RepL.mono h ds t r2⟩
end
mutual
def flat : D → Bool
  | .list _ => false
  | .dict _ => false
  | .tuple ds => flatL ds
  | .none => true
  | .bool _ => true
  | .int _ => true
  | .str _ => true
def flatL : List D → Bool
  | [] => true
  | d :: ds => flat d && flatL ds
end
mutual
theorem Rep.flatTo {G G' : Hp} (h : ∀ a xs, TupAt G a xs → TupAt G' a xs) : ∀ (d : D) (v : V), flat d = true → Rep K G d v → Rep K G' d v
  | .none, _, _, r => r
  | .bool _, _, _, r => r
  | .int _, _, _, r => r
  | .str _, _, _, r => r
  | .list _, _, f, _ => by rw [flat] at f; cases f
  | .tuple ds, _, f, r => by
    obtain ⟨a, xs, e, r1, r2⟩ := r
    rw [flat] at f
    exact ⟨a, xs, e, h _ _ r1, RepL.flatTo h ds xs f r2⟩
  | .dict _, _, f, _ => by rw [flat] at f; cases f
theorem RepL.flatTo {G G' : Hp} (h : ∀ a xs, TupAt G a xs → TupAt G' a xs) : ∀ (ds : List D) (xs : List V), flatL ds = true → RepL K G ds xs → RepL K G' ds xs
  | [], _, _, r => r
  | d :: ds, _, f, r => by
    obtain ⟨x, t, e, r1, r2⟩ := r
    rw [flatL, Bool.and_eq_true] at f
    exact ⟨x, t, e, Rep.flatTo h d x f.1 r1, RepL.flatTo h ds t f.2 r2⟩
end
mutual
theorem Rep.dp {K : PySem.W.Frag} {G : Hp} : ∀ (d : D) (v : V), PyData.plain d = true → Rep K G d v → Dp K G v d
  | .none, _, _, r => by cases r; exact .non
  | .bool b, _, _, r => by cases r; exact .bl b
  | .int i, _, _, r => by cases r; exact .int i
  | .str x, _, _, r => by cases r; exact .str x
  | .list ds, _, f, r => by
    obtain ⟨a, xs, e, r1, r2⟩ := r
    subst e
    rw [PyData.plain] at f
    exact .lst (.inl (.inl r1)) (RepL.dp ds xs f r2)
  | .tuple ds, _, f, r => by
    obtain ⟨a, xs, e, r1, r2⟩ := r
    subst e
    rw [PyData.plain] at f
    exact .tup (TupAt.sq r1) (RepL.dp ds xs f r2)
  | .dict _, _, f, _ => by rw [PyData.plain] at f; cases f
theorem RepL.dp {K : PySem.W.Frag} {G : Hp} : ∀ (ds : List D) (xs : List V), PyData.plainAll ds = true → RepL K G ds xs → DpAll K G xs ds
  | [], _, _, r => by cases r; exact .nil
  | d :: ds, _, f, r => by
    obtain ⟨x, t, e, r1, r2⟩ := r
    subst e
    rw [PyData.plainAll, Bool.and_eq_true] at f
    exact .cons (Rep.dp d x f.1 r1) (RepL.dp ds t f.2 r2)
end
theorem RepL.length {G : Hp} : ∀ {ds : List D} {xs : List V}, RepL K G ds xs → xs.length = ds.length
  | [], _, r => by cases r; rfl
  | d :: ds, _, r => by
    obtain ⟨x, t, e, r1, r2⟩ := r
    subst e
    rw [List.length_cons, List.length_cons, RepL.length r2]
theorem RepL.get {G : Hp} : ∀ {ds : List D} {xs : List V} {i : Nat} {d : D}, RepL K G ds xs → ds[i]? = some d → ∃ x, xs[i]? = some x ∧ Rep K G d x
  | [], _, _, _, _, e => by simp at e
  | d :: ds, _, 0, _, r, e => by
    obtain ⟨x, t, e1, r1, r2⟩ := r
    subst e1
    cases e
    exact ⟨x, rfl, r1⟩
  | d :: ds, _, i + 1, _, r, e => by
    obtain ⟨x, t, e1, r1, r2⟩ := r
    subst e1
    exact RepL.get (i := i) r2 (by simpa using e)
theorem RepL.getV {G : Hp} : ∀ {ds : List D} {xs : List V} {i : Nat} {x : V}, RepL K G ds xs → xs[i]? = some x → ∃ d, ds[i]? = some d ∧ Rep K G d x
  | [], _, _, _, r, e => by cases r; simp at e
  | d :: ds, _, 0, _, r, e => by
    obtain ⟨x, t, e1, r1, r2⟩ := r
    subst e1
    cases e
    exact ⟨d, rfl, r1⟩
  | d :: ds, _, i + 1, _, r, e => by
    obtain ⟨x, t, e1, r1, r2⟩ := r
    subst e1
    exact RepL.getV (i := i) r2 (by simpa using e)
theorem RepL.append {G : Hp} : ∀ {ds es : List D} {xs ys : List V}, RepL K G ds xs → RepL K G es ys → RepL K G (ds ++ es) (xs ++ ys)
  | [], _, _, _, r, q => by cases r; exact q
  | d :: ds, _, _, _, r, q => by
    obtain ⟨x, t, e1, r1, r2⟩ := r
    subst e1
    exact ⟨x, _, rfl, r1, RepL.append r2 q⟩
theorem RepL.one {G : Hp} {d : D} {x : V} (r : Rep K G d x) : RepL K G [d] [x] := ⟨x, [], rfl, r, rfl⟩
theorem RepL.take {G : Hp} : ∀ (n : Nat) {ds : List D} {xs : List V}, RepL K G ds xs → RepL K G (ds.take n) (xs.take n)
  | 0, _, _, _ => rfl
  | _ + 1, [], _, r => by cases r; rfl
  | n + 1, d :: ds, _, r => by
    obtain ⟨x, t, e1, r1, r2⟩ := r
    subst e1
    exact ⟨x, _, rfl, r1, RepL.take n r2⟩
theorem RepL.drop {G : Hp} : ∀ (n : Nat) {ds : List D} {xs : List V}, RepL K G ds xs → RepL K G (ds.drop n) (xs.drop n)
  | 0, _, _, r => r
  | _ + 1, [], _, r => by cases r; rfl
  | n + 1, d :: ds, _, r => by
    obtain ⟨x, t, e1, r1, r2⟩ := r
    subst e1
    exact RepL.drop n r2
theorem RepL.set {G : Hp} {d' : D} {x' : V} (h : Rep K G d' x') : ∀ (n : Nat) {ds : List D} {xs : List V}, RepL K G ds xs → RepL K G (ds.set n d') (xs.set n x')
  | _, [], _, r => by cases r; rfl
  | 0, d :: ds, _, r => by
    obtain ⟨x, t, e1, r1, r2⟩ := r
    subst e1
    exact ⟨x', t, rfl, h, r2⟩
  | n + 1, d :: ds, _, r => by
    obtain ⟨x, t, e1, r1, r2⟩ := r
    subst e1
    exact ⟨x, _, rfl, r1, RepL.set h n r2⟩
theorem RepL.reverse {G : Hp} : ∀ {ds : List D} {xs : List V}, RepL K G ds xs → RepL K G ds.reverse xs.reverse
  | [], _, r => by cases r; rfl
  | d :: ds, _, r => by
    obtain ⟨x, t, e1, r1, r2⟩ := r
    subst e1
    rw [List.reverse_cons, List.reverse_cons]
    exact RepL.append (RepL.reverse r2) (.one r1)
theorem RepL.rep {G : Hp} {ds : List D} {xs : List V} (r : RepL K G ds xs) : ∀ k : Nat, RepL K G (List.replicate k ds).flatten (List.replicate k xs).flatten
  | 0 => rfl
  | k + 1 => by
    rw [List.replicate_succ, List.flatten_cons, List.replicate_succ, List.flatten_cons]
    exact RepL.append r (RepL.rep r k)
theorem RepL.eraseLast {G : Hp} {ds : List D} {xs : List V} (r : RepL K G ds xs) : RepL K G ds.dropLast xs.dropLast := by
  rw [List.dropLast_eq_take, List.dropLast_eq_take, r.length]
  exact RepL.take _ r
theorem RepL.ints {G : Hp} : ∀ {ns : List Int} {xs : List V}, RepL K G (ns.map PyData.int) xs → xs = ns.map V.int
  | [], _, r => r
  | n :: ns, _, r => by
    obtain ⟨x, t, e1, r1, r2⟩ := r
    subst e1
    rw [show x = V.int n from r1, RepL.ints r2]
    rfl
theorem RepL.of_ints {G : Hp} : ∀ (ns : List Int), RepL K G (ns.map PyData.int) (ns.map V.int)
  | [] => rfl
  | n :: ns => ⟨V.int n, _, rfl, rfl, RepL.of_ints ns⟩

/-! ### how a pair (what may be told of, the heap) goes on -/
structure Ext (G H G' H' : Hp) : Prop where
  g : Same G G'
  h : Same H H'
  s : Same G' H'
  n : ∀ a, G a = none → L2.Mut (H a) → G' a = none
theorem Ext.refl {G H : Hp} (h : Same G H) : Ext G H G H := ⟨Same.refl _, Same.refl _, h, fun _ e _ => e⟩
theorem mut_at {H H' : Hp} {a : Addr} (h : Same H H') (m : L2.Mut (H a)) : H' a = H a := by
  cases e : H a with
  | none => rw [e] at m; exact m.elim
  | some o => exact h a o e
theorem Ext.trans {G H G1 H1 G2 H2 : Hp} (a : Ext G H G1 H1) (b : Ext G1 H1 G2 H2) : Ext G H G2 H2 :=
  ⟨a.g.trans b.g, a.h.trans b.h, b.s, fun c e m => b.n c (a.n c e m) (by rw [mut_at a.h m]; exact m)⟩
theorem same_new {H : Hp} {p : Addr} {o : HO} (h : H p = none) : Same H (upd H p o) := fun b x e => by
  rw [upd_ne (ne_of_none e h)]
  exact e
theorem same_upd2 {G H : Hp} {p : Addr} {o : HO} (h : Same G H) : Same (upd G p o) (upd H p o) := fun b x e => by
  by_cases hb : b = p
  · subst hb; rw [upd_same] at e ⊢; exact e
  · rw [upd_ne hb] at e ⊢; exact h b x e
/-- a new object, told of -/
theorem Ext.laid {G H : Hp} {p : Addr} {o : HO} (s : Same G H) (h : H p = none) : Ext G H (upd G p o) (upd H p o) :=
  ⟨same_new (Same.free s h), same_new h, same_upd2 s, fun a e m => by
    by_cases ha : a = p
    · subst ha; rw [h] at m; exact m.elim
    · rw [upd_ne ha]; exact e⟩
/-- a new object, not told of -/
theorem Ext.own {G H : Hp} {p : Addr} {o : HO} (s : Same G H) (h : H p = none) : Ext G H G (upd H p o) :=
  ⟨Same.refl _, same_new h, s.trans (same_new h), fun _ e _ => e⟩

/-! ### answers -/
inductive R where
  | ok (d : D) | new (ds : List D) | exc (c : Str) | bad
def R.bind : R → (D → R) → R
  | .ok d, k => k d
  | .new ds, k => k (.list ds)
  | .exc c, _ => .exc c
  | .bad, _ => .bad
section
variable (K : PySem.W.Frag) (mg : Str → Option Value)
def RQ (E : XK) (G H : Hp) (Q : VK) : R → Prop
  | .ok d => ∀ v G' H', Ext G H G' H' → Rep K G' d v → Q v H'
  | .new ds => ∀ p xs G' H', Ext G H G' H' → H p = none → G' p = none → H' p = some (.lst xs) → RepL K G' ds xs → Q (.ref p) H'
  | .exc c => ∀ G' H' C, Ext G H G' H' → mg c = some (.ref C) → E (.ref C) none H'
  | .bad => False
end
variable {mg : Str → Option Value} {E : XK} {G H : Hp} {Q Q1 : VK}
theorem RQ.trans {r : R} {G1 H1 : Hp} (q : RQ K mg E G H Q r) (e : Ext G H G1 H1) : RQ K mg E G1 H1 Q r := by
  cases r with
  | ok d => exact fun v G' H' e' r => q v G' H' (e.trans e') r
  | new ds => exact fun p xs G' H' e' h1 h2 h3 h4 => q p xs G' H' (e.trans e') (Same.free e.h h1) h2 h3 h4
  | exc c => exact fun G' H' C e' h => q G' H' C (e.trans e') h
  | bad => exact q
/-- a list that is new is told of -/
theorem rep_new {G H : Hp} {p : Addr} {xs : List V} {ds : List D} (s : Same G H) (h2 : G p = none) (h3 : H p = some (.lst xs)) (h4 : RepL K G ds xs) :
    Same G (upd G p (.lst xs)) ∧ Same (upd G p (.lst xs)) H ∧ Rep K (upd G p (.lst xs)) (.list ds) (.ref p) := by
  have a := same_new (o := .lst xs) h2
  refine ⟨a, fun b o e => ?_, p, xs, rfl, upd_same, RepL.mono a _ _ h4⟩
  by_cases hb : b = p
  · subst hb; rw [upd_same] at e; cases e; exact h3
  · rw [upd_ne hb] at e; exact s b o e
theorem Ext.freeze {G H G' H' : Hp} {p : Addr} {o : HO} (e : Ext G H G' H') (h1 : H p = none) (h2 : G' p = none) (h3 : H' p = some o) : Ext G H (upd G' p o) H' :=
  ⟨e.g.trans (same_new h2), e.h, fun b u q => by
    by_cases hb : b = p
    · subst hb; rw [upd_same] at q; cases q; exact h3
    · rw [upd_ne hb] at q; exact e.s b u q, fun a q m => by
    by_cases ha : a = p
    · subst ha; rw [h1] at m; exact m.elim
    · rw [upd_ne ha]; exact e.n a q m⟩
theorem RQ.freeze {ds : List D} (q : RQ K mg E G H Q (.ok (.list ds))) : RQ K mg E G H Q (.new ds) := fun p xs G' H' e h1 h2 h3 h4 =>
  q _ _ _ (e.freeze h1 h2 h3) (rep_new e.s h2 h3 h4).2.2
/-- what goes on behind an answer -/
theorem RQ.bind {r : R} {k : D → R} (q : RQ K mg E G H Q (r.bind k)) (hk : ∀ d v G1 H1, Ext G H G1 H1 → Rep K G1 d v → RQ K mg E G1 H1 Q (k d) → Q1 v H1) : RQ K mg E G H Q1 r := by
  cases r with
  | ok d => exact fun v G' H' e rv => hk d v G' H' e rv (q.trans e)
  | new ds => exact RQ.freeze fun v G' H' e rv => hk _ v G' H' e rv (q.trans e)
  | exc c => exact q
  | bad => exact q
theorem RQ.here {d : D} {v : V} (s : Same G H) (q : RQ K mg E G H Q (.ok d)) (r : Rep K G d v) : Q v H := q v G H (Ext.refl s) r

/-! ### slots -/
/-- dct: a dict of one's own; rd: one that is read; ob: an object by its address, nothing more is told of it; br: a list of one's own that is walked: it stays -/
inductive Sl where
  | un | v (d : D) | own (ds : List D) | dct (m : Dm) | rd (m : Dm) | ob (a : Addr) | br (p : Addr) (ds : List D)
def RepS (K : PySem.W.Frag) (H0 G H : Hp) : Sl → Option V → Prop
  | .un, _ => True
  | .v d, o => ∃ x, o = some x ∧ Rep K G d x
  | .own ds, o => ∃ p xs, o = some (.ref p) ∧ H0 p = none ∧ G p = none ∧ H p = some (.lst xs) ∧ RepL K G ds xs
  | .dct m, o => ∃ p, o = some (.ref p) ∧ H0 p = none ∧ G p = none ∧ H p = some (.dT m.w)
  | .rd m, o => ∃ p, o = some (.ref p) ∧ H p = some (.dT m.w)
  | .ob a, o => o = some (.ref a)
  | .br p ds, o => o = some (.ref p) ∧ G p = none ∧ ∃ xs, H0 p = some (.lst xs) ∧ RepL K G ds xs
structure St (K : PySem.W.Frag) (H0 G H : Hp) (σ : L2.St) (δ : List Sl) : Prop where
  s : Same G H
  b : Same H0 H
  l : σ.length = δ.length
  r : ∀ (i : Nat) (s : Sl) (o : Option V), δ[i]? = some s → σ[i]? = some o → RepS K H0 G H s o
  ap : ∀ (i j : Nat) (ds es : List D) (p : Addr), i ≠ j → δ[i]? = some (.own ds) → δ[j]? = some (.own es) → σ[i]? = some (some (.ref p)) → σ[j]? ≠ some (some (.ref p))
theorem mut_lst {H : Hp} {p : Addr} {xs : List V} (h : H p = some (.lst xs)) : L2.Mut (H p) := by rw [h]; trivial
theorem mut_dT {H : Hp} {p : Addr} {xs : List (List L2.Key × V)} (h : H p = some (.dT xs)) : L2.Mut (H p) := by rw [h]; trivial
theorem St.go {H0 G H G' H' : Hp} {σ : L2.St} {δ : List Sl} (S : St K H0 G H σ δ) (e : Ext G H G' H') : St K H0 G' H' σ δ :=
  ⟨e.s, S.b.trans e.h, S.l, fun i s o h1 h2 => by
    have q := S.r i s o h1 h2
    cases s with
    | un => trivial
    | v d =>
      obtain ⟨x, e1, r⟩ := q
      exact ⟨x, e1, Rep.mono e.g _ _ r⟩
    | own ds =>
      obtain ⟨p, xs, e1, e2, e3, e4, r⟩ := q
      exact ⟨p, xs, e1, e2, e.n p e3 (mut_lst e4), e.h _ _ e4, RepL.mono e.g _ _ r⟩
    | dct m =>
      obtain ⟨p, e1, e2, e3, e4⟩ := q
      exact ⟨p, e1, e2, e.n p e3 (mut_dT e4), e.h _ _ e4⟩
    | rd m =>
      obtain ⟨p, e1, e4⟩ := q
      exact ⟨p, e1, e.h _ _ e4⟩
    | ob a => exact q
    | br p ds =>
      obtain ⟨e1, e2, xs, e3, r⟩ := q
      exact ⟨e1, e.n p e2 (mut_lst (S.b _ _ e3)), xs, e3, RepL.mono e.g _ _ r⟩, S.ap⟩
/-- every list of one's own may be read -/
def thaw1 : Sl → Sl
  | .own ds => .v (.list ds)
  | .dct m => .rd m
  | .br _ ds => .v (.list ds)
  | s => s
def thaw (δ : List Sl) : List Sl := δ.map thaw1
theorem thaw_not_own {δ : List Sl} {i : Nat} {ds : List D} : (thaw δ)[i]? ≠ some (.own ds) := by
  unfold thaw
  rw [List.getElem?_map]
  cases δ[i]? with
  | none => simp
  | some s => cases s <;> simp [thaw1]
theorem St.thaw {H0 G H : Hp} {σ : L2.St} {δ : List Sl} (S : St K H0 G H σ δ) : St K H0 H H σ (thaw δ) :=
  ⟨Same.refl _, S.b, by rw [S.l]; unfold DL.thaw; simp, fun i s o h1 h2 => by
    unfold DL.thaw at h1
    rw [List.getElem?_map] at h1
    cases e : δ[i]? with
    | none => rw [e] at h1; cases h1
    | some s' =>
      rw [e] at h1
      cases h1
      have q := S.r i s' o e h2
      cases s' with
      | un => trivial
      | v d =>
        obtain ⟨x, e1, r⟩ := q
        exact ⟨x, e1, Rep.mono S.s _ _ r⟩
      | own ds =>
        obtain ⟨p, xs, e1, e2, e3, e4, r⟩ := q
        exact ⟨_, e1, p, xs, rfl, e4, RepL.mono S.s _ _ r⟩
      | dct m =>
        obtain ⟨p, e1, e2, e3, e4⟩ := q
        exact ⟨p, e1, e4⟩
      | rd m => exact q
      | ob a => exact q
      | br p ds =>
        obtain ⟨e1, e2, xs, e3, r⟩ := q
        exact ⟨_, e1, p, xs, rfl, S.b _ _ e3, RepL.mono S.s _ _ r⟩, fun i j ds es p _ h1 _ => absurd h1 thaw_not_own⟩

/-! ### readings by functions -/
section
variable (K : PySem.W.Frag) (mg : Str → Option Value) (W : WX)
def SemE (t : TE) (f : List Sl → R) : Prop := ∀ H0 G H σ δ Q, St K H0 G H σ δ → RQ K mg (WE W σ) G H Q (f δ) → t σ H Q
def TQ (E : XK) (G H : Hp) (Q : Bool → Hp → Prop) : R → Prop
  | .ok (.bool b) => ∀ G' H', Ext G H G' H' → Q b H'
  | .exc c => ∀ G' H' C, Ext G H G' H' → mg c = some (.ref C) → E (.ref C) none H'
  | _ => False
def SemT (t : TT) (f : List Sl → R) : Prop := ∀ H0 G H σ δ Q, St K H0 G H σ δ → TQ mg (WE W σ) G H Q (f δ) → t σ H Q
end
inductive RL where
  | ok (ds : List D) | exc (c : Str) | bad
section
variable (K : PySem.W.Frag) (mg : Str → Option Value) (W : WX)
def LQ (E : XK) (G H : Hp) (Q : List V → Hp → Prop) : RL → Prop
  | .ok ds => ∀ vs G' H', Ext G H G' H' → RepL K G' ds vs → Q vs H'
  | .exc c => ∀ G' H' C, Ext G H G' H' → mg c = some (.ref C) → E (.ref C) none H'
  | .bad => False
def SemA (t : TA) (f : List Sl → RL) : Prop := ∀ H0 G H σ δ Q, St K H0 G H σ δ → LQ K mg (WE W σ) G H Q (f δ) → t σ H Q
end
structure DE (X : Cx) (W : WX) (e : Expr) (t : TE) (f : List Sl → R) : Prop where
  pe : PE X e t
  sem : SemE X.K X.mg W t f
structure DT (X : Cx) (W : WX) (e : Expr) (t : TT) (f : List Sl → R) : Prop where
  pt : PT X e t
  sem : SemT X.K X.mg W t f
structure DW (X : Cx) (W : WX) (e : Expr) (t : TT) (f : List Sl → R) : Prop where
  pw : PW X e t
  sem : SemT X.K X.mg W t f
structure DA (X : Cx) (W : WX) (es : List Expr) (t : TA) (f : List Sl → RL) : Prop where
  pa : PA X es t
  sem : SemA X.K X.mg W t f
theorem TQ.trans {E : XK} {Qb : Bool → Hp → Prop} {r : R} {G1 H1 : Hp} (q : TQ mg E G H Qb r) (e : Ext G H G1 H1) : TQ mg E G1 H1 Qb r := by
  cases r with
  | ok d => cases d with
    | bool b => exact fun G' H' e' => q G' H' (e.trans e')
    | _ => exact q
  | new ds => exact q
  | exc c => exact fun G' H' C e' h => q G' H' C (e.trans e') h
  | bad => exact q
theorem LQ.trans {E : XK} {Ql : List V → Hp → Prop} {r : RL} {G1 H1 : Hp} (q : LQ K mg E G H Ql r) (e : Ext G H G1 H1) : LQ K mg E G1 H1 Ql r := by
  cases r with
  | ok d => exact fun v G' H' e' r => q v G' H' (e.trans e') r
  | exc c => exact fun G' H' C e' h => q G' H' C (e.trans e') h
  | bad => exact q
end DL
set_option Elab.async false
set_option linter.all false
set_option maxRecDepth 100000
set_option maxHeartbeats 4000000
namespace DL
open PySem PySem.Spec PyProof.Rows L2
variable {K : PySem.W.Frag}

/-! ### names and constants -/
section
variable {X : Cx} {W : WX} {mg : Str → Option Value}
def fVar (i : Nat) : List Sl → R := fun δ => match δ[i]? with
  | some (.v d) => .ok d
  | _ => .bad
def fC (d : D) : List Sl → R := fun _ => .ok d
theorem sem_var {i : Nat} : SemE K mg W (tVar i) (fVar i) := fun H0 G H σ δ Q S q => by
  unfold fVar at q
  split at q
  · rename_i d e
    have hi : i < δ.length := (List.getElem?_eq_some_iff.mp e).1
    have hs : i < σ.length := by rw [S.l]; exact hi
    obtain ⟨x, e1, r⟩ := S.r i _ _ e (List.getElem?_eq_getElem hs)
    exact ⟨x, by rw [List.getElem?_eq_getElem hs, e1], RQ.here S.s q r⟩
  · exact q.elim
theorem de_var (i : Nat) {x : Str} {pos : Pos} (hN : X.N[i]? = some x := by rfl) (hv : Vis X.env.scope x := by first | exact Or.inl rfl | exact Or.inr (Or.inl rfl) | exact Or.inr (Or.inr rfl)) (hd : (x == ("__debug__" : Str)) = false := by decide)
    (hcd : (x == ("__classdict__" : Str)) = false := by decide) : DE X W (.Name x pos) (tVar i) (fVar i) := ⟨pv i hN hv hd hcd, sem_var⟩
theorem sem_c {d : D} {v : V} (h : ∀ G, Rep K G d v) : SemE K mg W (tC v) (fC d) := fun H0 G H σ δ Q S q => RQ.here S.s q (h G)
theorem de_int {i j pos} : DE X W (.Constant (.int i) j pos) (tC (.int i)) (fC (.int i)) := ⟨pe_int, sem_c fun _ => rfl⟩
theorem de_bl {b j pos} : DE X W (.Constant (.bool b) j pos) (tC (.bl b)) (fC (.bool b)) := ⟨pe_bl, sem_c fun _ => rfl⟩
theorem de_non {j pos} : DE X W (.Constant .none j pos) (tC .non) (fC .none) := ⟨pe_non, sem_c fun _ => rfl⟩
theorem de_str {x j pos} : DE X W (.Constant (.str x) j pos) (tC (.str x)) (fC (.str x)) := ⟨pe_str, sem_c fun _ => rfl⟩
theorem de_glob {x : Str} {v : V} {d : D} {u : Value} {pos : Pos} (hm : X.mg x = some u) (r : RelV v u) (hd : ∀ G, Rep X.K G d v) (hg : Gl X x := by rfl) (hdb : (x == ("__debug__" : Str)) = false := by decide) : DE X W (.Name x pos) (tC v) (fC d) :=
  ⟨pe_glob hg hm r hdb, sem_c hd⟩

/-! ### operators -/
def OpSem (K : PySem.W.Frag) (r : R2) (g : D → D → R) : Prop := ∀ (mg : Str → Option Value) (E : XK) (G H : Hp) (a b : D) (x y : V) (Q : VK), Same G H → Rep K G a x → Rep K G b y → RQ K mg E G H Q (g a b) → r x y H Q
def fOp (g : D → D → R) (fa fb : List Sl → R) : List Sl → R := fun δ => (fa δ).bind fun a => (fb δ).bind fun b => g a b
theorem sem_op {r : R2} {g : D → D → R} {ta tb : TE} {fa fb : List Sl → R} (hg : OpSem K r g) (ha : SemE K mg W ta fa) (hb : SemE K mg W tb fb) : SemE K mg W (tOp r ta tb) (fOp g fa fb) := fun H0 G H σ δ Q S q => by
  refine ha H0 G H σ δ _ S (RQ.bind q fun a x G1 H1 e1 r1 q1 => ?_)
  refine hb H0 G1 H1 σ δ _ (S.go e1) (RQ.bind q1 fun b y G2 H2 e2 r2 q2 => ?_)
  exact hg _ _ G2 H2 a b x y Q e2.s (Rep.mono e2.g _ _ r1) r2 q2
variable {a b : Expr} {ta tb : TE} {fa fb : List Sl → R} {pos : Pos} {r : R2} {g : D → D → R}
theorem de_op {op : Operator} (ho : OpR X (binaryOp op) r ∧ OpSem X.K r g) (ha : DE X W a ta fa) (hb : DE X W b tb fb) : DE X W (.BinOp a op b pos) (tOp r ta tb) (fOp g fa fb) := ⟨pe_op ho.1 ha.pe hb.pe, sem_op ho.2 ha.sem hb.sem⟩
theorem de_cmp {op : CmpOp} (ho : OpR X (compareOp op) r ∧ OpSem X.K r g) (ha : DE X W a ta fa) (hb : DE X W b tb fb) (hm : behindInMarks op b = false := by first | exact nomark _ | rfl) : DE X W (.Compare a [op] [b] pos) (tOp r ta tb) (fOp g fa fb) :=
  ⟨pe_cmpR ho.1 ha.pe hb.pe hm, sem_op ho.2 ha.sem hb.sem⟩
theorem de_ix (hr : IxR X r ∧ OpSem X.K r g) (ha : DE X W a ta fa) (hb : DE X W b tb fb) (hs : PlainIx b := by exact fun _ _ => rfl) : DE X W (.Subscript a b pos) (tOp r ta tb) (fOp g fa fb) := ⟨pe_ix hr.1 ha.pe hb.pe hs, sem_op hr.2 ha.sem hb.sem⟩

theorem rq_if {E : XK} {G H : Hp} {Q : VK} {c : Prop} [Decidable c] {r : R} (q : RQ K mg E G H Q (if c then r else .bad)) : c ∧ RQ K mg E G H Q r := by
  by_cases h : c
  · rw [if_pos h] at q; exact ⟨h, q⟩
  · rw [if_neg h] at q; exact q.elim
def LIM : Nat := 100000
theorem LIM_le : LIM ≤ sizeLine := by rw [sizeLine_eq]; decide
theorem le_line {n : Nat} (h : n ≤ LIM) : n ≤ sizeLine := Nat.le_trans h LIM_le
theorem lt_line {n : Nat} (h : n < LIM) : n < sizeLine := Nat.lt_of_lt_of_le h LIM_le

/-- answers that are new tuples, new lists -/
theorem rq_tup {E : XK} {G H : Hp} {Q : VK} {ds : List D} {xs : List V} (s : Same G H) (r : RepL K G ds xs) (q : RQ K mg E G H Q (.ok (.tuple ds))) {p : Addr} (hp : H p = none) : Q (.ref p) (upd H p (.tup xs)) :=
  q _ _ _ (Ext.laid s hp) ⟨p, xs, rfl, .inl upd_same, RepL.mono (same_new (Same.free s hp)) _ _ r⟩
theorem rq_new {E : XK} {G H : Hp} {Q : VK} {ds : List D} {xs : List V} (s : Same G H) (r : RepL K G ds xs) (q : RQ K mg E G H Q (.new ds)) {p : Addr} (hp : H p = none) : Q (.ref p) (upd H p (.lst xs)) :=
  q p xs G _ (Ext.own s hp) hp (Same.free s hp) upd_same r

theorem OpSem.orI {r r' : R2} {g : D → D → R} {P : D → D → Prop} (dec : ∀ a b, Decidable (P a b)) (h1 : ∀ (mg : Str → Option Value) (E : XK) (G H : Hp) (a b : D) (x y : V) (Q : VK), P a b → Same G H → Rep K G a x → Rep K G b y → RQ K mg E G H Q (g a b) → r x y H Q)
    (h2 : ∀ (mg : Str → Option Value) (E : XK) (G H : Hp) (a b : D) (x y : V) (Q : VK), ¬ P a b → Same G H → Rep K G a x → Rep K G b y → RQ K mg E G H Q (g a b) → r' x y H Q) : OpSem K (fun x y H Q => r x y H Q ∨ r' x y H Q) g := fun mg E G H a b x y Q s ra rb q => by
  by_cases h : P a b
  · exact .inl (h1 mg E G H a b x y Q h s ra rb q)
  · exact .inr (h2 mg E G H a b x y Q h s ra rb q)

def gAdd : D → D → R
  | .int i, .int j => .ok (.int (i + j))
  | .str x, .str y => if x.length + y.length ≤ LIM then .ok (.str (x ++ y)) else .bad
  | .tuple xs, .tuple ys => if xs.length + ys.length ≤ LIM then .ok (.tuple (xs ++ ys)) else .bad
  | .list xs, .list ys => if xs.length + ys.length ≤ LIM then .new (xs ++ ys) else .bad
  | _, _ => .bad
abbrev rAddA (K : PySem.W.Frag) : R2 := fun x y H Q => (rI0 fun i j => .int (i + j)) x y H Q ∨ ((fun x y H Q => ∃ i j, x = .str i ∧ y = .str j ∧ i.length + j.length ≤ sizeLine ∧ Q (.str (i ++ j)) H) x y H Q ∨ (rCatA K x y H Q ∨ rCat x y H Q))
theorem o_add : OpR X (binaryOp .Add) (rAddA X.K) ∧ OpSem X.K (rAddA X.K) gAdd := by
  refine ⟨op_add.or (op_add_str.or (op_catA.or op_cat)), fun mg E G H a b x y Q s ra rb q => ?_⟩
  cases a <;> cases b <;> first | exact q.elim | skip
  · cases ra; cases rb
    exact .inl ⟨_, _, rfl, rfl, RQ.here s q rfl⟩
  · cases ra; cases rb
    obtain ⟨hl, q⟩ := rq_if q
    exact .inr (.inl ⟨_, _, rfl, rfl, le_line hl, RQ.here s q rfl⟩)
  · obtain ⟨p, xs, rfl, h1, r1⟩ := ra
    obtain ⟨p', ys, rfl, h1', r1'⟩ := rb
    obtain ⟨hl, q⟩ := rq_if q
    exact .inr (.inr (.inr ⟨p, p', xs, ys, rfl, rfl, s _ _ h1, s _ _ h1', by rw [r1.length, r1'.length]; exact le_line hl, fun l hl => rq_new s (r1.append r1') q hl⟩))
  · obtain ⟨p, xs, rfl, h1, r1⟩ := ra
    obtain ⟨p', ys, rfl, h1', r1'⟩ := rb
    obtain ⟨hl, q⟩ := rq_if q
    refine .inr (.inr (.inl ⟨p, p', xs, ys, rfl, rfl, TupAt.sq (TupAt.mono s h1), TupAt.sq (TupAt.mono s h1'), by rw [r1.length, r1'.length]; exact le_line hl, fun e => ?_, fun _ e => ?_, fun _ _ l hl => rq_tup s (r1.append r1') q hl⟩))
    · refine RQ.here s q ⟨p', ys, rfl, h1', ?_⟩
      have z := r1.append r1'
      rw [e] at z
      exact z
    · refine RQ.here s q ⟨p, xs, rfl, h1, ?_⟩
      have z := r1.append r1'
      rw [e, List.append_nil] at z
      exact z
def gSub : D → D → R
  | .int i, .int j => .ok (.int (i - j))
  | _, _ => .bad
theorem o_sub : OpR X (binaryOp .Sub) (rI0 fun i j => .int (i - j)) ∧ OpSem X.K (rI0 fun i j => .int (i - j)) gSub := by
  refine ⟨op_sub, fun mg E G H a b x y Q s ra rb q => ?_⟩
  cases a <;> cases b <;> first | exact q.elim | skip
  cases ra; cases rb
  exact ⟨_, _, rfl, rfl, RQ.here s q rfl⟩
def gMod : D → D → R
  | .int i, .int j => if 0 < j then .ok (.int (i % j)) else .bad
  | _, _ => .bad
theorem o_mod : OpR X (binaryOp .Mod) (rI (fun _ j => 0 < j) fun i j => .int (i % j)) ∧ OpSem X.K (rI (fun _ j => 0 < j) fun i j => .int (i % j)) gMod := by
  refine ⟨op_mod, fun mg E G H a b x y Q s ra rb q => ?_⟩
  cases a <;> cases b <;> first | exact q.elim | skip
  cases ra; cases rb
  obtain ⟨hl, q⟩ := rq_if q
  exact ⟨_, _, rfl, rfl, hl, RQ.here s q rfl⟩
def gFdiv : D → D → R
  | .int i, .int j => if 0 < j ∧ j < 2 ^ 64 then .ok (.int (i / j)) else .bad
  | _, _ => .bad
theorem log2_9000 {j : Int} (h : 0 < j) (h2 : j < 2 ^ 64) : j.natAbs.log2 < 9000 := by
  have : j.natAbs < 2 ^ 64 := by omega
  exact Nat.lt_of_lt_of_le (PySem.Flt.log2_lt_of (by decide : 0 < 64) this) (by decide)
theorem o_fdiv : OpR X (binaryOp .FloorDiv) (rI CDivW fun i j => .int (i / j)) ∧ OpSem X.K (rI CDivW fun i j => .int (i / j)) gFdiv := by
  refine ⟨op_fdivW, fun mg E G H a b x y Q s ra rb q => ?_⟩
  cases a <;> cases b <;> first | exact q.elim | skip
  cases ra; cases rb
  obtain ⟨hl, q⟩ := rq_if q
  exact ⟨_, _, rfl, rfl, ⟨hl.1, log2_9000 hl.1 hl.2⟩, RQ.here s q rfl⟩
def gPow : D → D → R
  | .int i, .int j => if 0 ≤ j ∧ j ≤ 1000 ∧ i.natAbs < 1000 then .ok (.int (i ^ j.toNat)) else .bad
  | _, _ => .bad
theorem o_pow : OpR X (binaryOp .Pow) (rI CPow fun i j => .int (i ^ j.toNat)) ∧ OpSem X.K (rI CPow fun i j => .int (i ^ j.toNat)) gPow := by
  refine ⟨op_pow, fun mg E G H a b x y Q s ra rb q => ?_⟩
  cases a <;> cases b <;> first | exact q.elim | skip
  cases ra; cases rb
  obtain ⟨hl, q⟩ := rq_if q
  exact ⟨_, _, rfl, rfl, ⟨hl.1, by omega, by omega⟩, RQ.here s q rfl⟩
def gCmp (p : Int → Int → Bool) : D → D → R
  | .int i, .int j => .ok (.bool (p i j))
  | _, _ => .bad
theorem cmp_sem (p : Int → Int → Bool) : OpSem K (rI0 fun i j => .bl (p i j)) (gCmp p) := fun mg E G H a b x y Q s ra rb q => by
  cases a <;> cases b <;> first | exact q.elim | skip
  cases ra; cases rb
  exact ⟨_, _, rfl, rfl, RQ.here s q rfl⟩
abbrev gLt := gCmp fun i j => decide (i < j)
abbrev gLe := gCmp fun i j => decide (i ≤ j)
abbrev gGt := gCmp fun i j => decide (j < i)
abbrev gGe := gCmp fun i j => decide (j ≤ i)
theorem o_lt : OpR X (compareOp .Lt) (rI0 fun i j => .bl (decide (i < j))) ∧ OpSem X.K (rI0 fun i j => .bl (decide (i < j))) gLt := ⟨op_lt, cmp_sem _⟩
theorem o_le : OpR X (compareOp .LtE) (rI0 fun i j => .bl (decide (i ≤ j))) ∧ OpSem X.K (rI0 fun i j => .bl (decide (i ≤ j))) gLe := ⟨op_le, cmp_sem _⟩
theorem o_gt : OpR X (compareOp .Gt) (rI0 fun i j => .bl (decide (j < i))) ∧ OpSem X.K (rI0 fun i j => .bl (decide (j < i))) gGt := ⟨op_gt, cmp_sem _⟩
theorem o_ge : OpR X (compareOp .GtE) (rI0 fun i j => .bl (decide (j ≤ i))) ∧ OpSem X.K (rI0 fun i j => .bl (decide (j ≤ i))) gGe := ⟨op_ge, cmp_sem _⟩

/-! ### == and != of data without dicts -/
def rEqP (K : PySem.W.Frag) : R2 := fun x y H Q => ∃ d e, Dp K H x d ∧ Dp K H y e ∧ PyData.plain d = true ∧ PyData.plain e = true ∧ min d.depth e.depth ≤ 60 ∧ Q (.bl (PyData.eqv d e)) H
def rNeP (K : PySem.W.Frag) : R2 := fun x y H Q => ∃ d e, Dp K H x d ∧ Dp K H y e ∧ PyData.plain d = true ∧ PyData.plain e = true ∧ min d.depth e.depth ≤ 60 ∧ Q (.bl (!PyData.eqv d e)) H
theorem op_eqP (hu : X.A.units + 64 < cLine) : OpR X (compareOp .Eq) (rEqP X.K) := by
  intro pins s σ H x y v u Q I rx ry h
  obtain ⟨d, e, hd, he, sd, se, hm, q⟩ := h
  obtain ⟨as, r1⟩ := Dp.reads I d x v hd rx
  obtain ⟨bs, r2⟩ := Dp.reads I e y u he ry
  exact SeqAt.eq_plain r1 r2 sd se (by omega) ⟨.bl _, H, I, rfl, q⟩
theorem op_neP (hu : X.A.units + 64 < cLine) : OpR X (compareOp .NotEq) (rNeP X.K) := by
  intro pins s σ H x y v u Q I rx ry h
  obtain ⟨d, e, hd, he, sd, se, hm, q⟩ := h
  obtain ⟨as, r1⟩ := Dp.reads I d x v hd rx
  obtain ⟨bs, r2⟩ := Dp.reads I e y u he ry
  exact SeqAt.ne_plain r1 r2 sd se (by omega) ⟨.bl _, H, I, rfl, q⟩
/-- what may be compared -/
def cmpb (d : D) : Bool := PyData.plain d && decide (d.depth ≤ 60)
def gEq (a b : D) : R := if cmpb a = true ∧ cmpb b = true then .ok (.bool (PyData.eqv a b)) else .bad
def gNe (a b : D) : R := if cmpb a = true ∧ cmpb b = true then .ok (.bool (!PyData.eqv a b)) else .bad
theorem cmpb_parts {d : D} (h : cmpb d = true) : PyData.plain d = true ∧ d.depth ≤ 60 := by
  unfold cmpb at h
  rw [Bool.and_eq_true] at h
  exact ⟨h.1, of_decide_eq_true h.2⟩
theorem o_eq (hu : X.A.units + 64 < cLine) : OpR X (compareOp .Eq) (rEqP X.K) ∧ OpSem X.K (rEqP X.K) gEq := by
  refine ⟨op_eqP hu, fun mg E G H a b x y Q s ra rb q => ?_⟩
  unfold gEq at q
  split at q
  · rename_i hl
    obtain ⟨a1, a2⟩ := cmpb_parts hl.1
    obtain ⟨b1, b2⟩ := cmpb_parts hl.2
    exact ⟨a, b, Rep.dp a x a1 (Rep.mono s _ _ ra), Rep.dp b y b1 (Rep.mono s _ _ rb), a1, b1, by omega, RQ.here s q rfl⟩
  · exact q.elim
theorem o_ne (hu : X.A.units + 64 < cLine) : OpR X (compareOp .NotEq) (rNeP X.K) ∧ OpSem X.K (rNeP X.K) gNe := by
  refine ⟨op_neP hu, fun mg E G H a b x y Q s ra rb q => ?_⟩
  unfold gNe at q
  split at q
  · rename_i hl
    obtain ⟨a1, a2⟩ := cmpb_parts hl.1
    obtain ⟨b1, b2⟩ := cmpb_parts hl.2
    exact ⟨a, b, Rep.dp a x a1 (Rep.mono s _ _ ra), Rep.dp b y b1 (Rep.mono s _ _ rb), a1, b1, by omega, RQ.here s q rfl⟩
  · exact q.elim
/-! ### in -/
def rInP (K : PySem.W.Frag) (neg : Bool) : R2 := fun x y H Q => ∃ d ds, Dp K H x d ∧ (Dp K H y (.list ds) ∨ Dp K H y (.tuple ds)) ∧ PyData.plain d = true ∧ PyData.plainAll ds = true ∧ d.depth ≤ 60 ∧ Q (.bl (if neg then !(ds.any fun z => PyData.eqv z d) else ds.any fun z => PyData.eqv z d)) H
theorem op_inP (hu : X.A.units + 64 < cLine) : OpR X (compareOp .In) (rInP X.K false) := by
  intro pins s σ H x y v u Q I rx ry h
  obtain ⟨d, ds, hd, he, sd, se, hm, q⟩ := h
  obtain ⟨as, r1⟩ := Dp.reads I d x v hd rx
  rcases he with he | he
  · obtain ⟨bs, r2⟩ := Dp.reads I (.list ds) y u he ry
    exact SeqAt.in_list_data r2 r1 se sd (by omega) ⟨.bl _, H, I, rfl, q⟩
  · obtain ⟨bs, r2⟩ := Dp.reads I (.tuple ds) y u he ry
    exact SeqAt.in_tuple_data r2 r1 se sd (by omega) ⟨.bl _, H, I, rfl, q⟩
theorem op_notInP (hu : X.A.units + 64 < cLine) : OpR X (compareOp .NotIn) (rInP X.K true) := by
  intro pins s σ H x y v u Q I rx ry h
  obtain ⟨d, ds, hd, he, sd, se, hm, q⟩ := h
  obtain ⟨as, r1⟩ := Dp.reads I d x v hd rx
  rcases he with he | he
  · obtain ⟨bs, r2⟩ := Dp.reads I (.list ds) y u he ry
    exact SeqAt.notIn_list_data r2 r1 se sd (by omega) ⟨.bl _, H, I, rfl, q⟩
  · obtain ⟨bs, r2⟩ := Dp.reads I (.tuple ds) y u he ry
    exact SeqAt.notIn_tuple_data r2 r1 se sd (by omega) ⟨.bl _, H, I, rfl, q⟩
def inD (d : D) (ds : List D) : Bool := ds.any fun z => PyData.eqv z d
def gIn (neg : Bool) : D → D → R
  | a, .list ds => if cmpb a = true ∧ PyData.plainAll ds = true then .ok (.bool (if neg then !inD a ds else inD a ds)) else .bad
  | a, .tuple ds => if cmpb a = true ∧ PyData.plainAll ds = true then .ok (.bool (if neg then !inD a ds else inD a ds)) else .bad
  | .str x, .str z => match x.cps.toList with
    | [c] => .ok (.bool (if neg then !decide (c ∈ z.cps.toList) else decide (c ∈ z.cps.toList)))
    | _ => .bad
  | _, _ => .bad
abbrev rInA (K : PySem.W.Frag) : R2 := fun x y H Q => rInP K false x y H Q ∨ (fun x y H Q => ∃ (c : Nat) (z : Str), x = .str ⟨#[c]⟩ ∧ y = .str z ∧ Q (.bl (decide (c ∈ z.cps.toList))) H) x y H Q
abbrev rNiA (K : PySem.W.Frag) : R2 := fun x y H Q => rInP K true x y H Q ∨ (fun x y H Q => ∃ (c : Nat) (z : Str), x = .str ⟨#[c]⟩ ∧ y = .str z ∧ Q (.bl (!decide (c ∈ z.cps.toList))) H) x y H Q
theorem str_one {x : Str} {c : Nat} (h : x.cps.toList = [c]) : x = ⟨#[c]⟩ := by
  obtain ⟨⟨l⟩⟩ := x
  have e : l = [c] := h
  rw [e]
theorem in_sem {neg : Bool} {K : PySem.W.Frag} : OpSem K (fun x y H Q => rInP K neg x y H Q ∨ (fun x y H Q => ∃ (c : Nat) (z : Str), x = .str ⟨#[c]⟩ ∧ y = .str z ∧ Q (.bl (if neg then !decide (c ∈ z.cps.toList) else decide (c ∈ z.cps.toList))) H) x y H Q) (gIn neg) := by
  intro mg E G H a b x y Q s ra rb q
  unfold gIn at q
  split at q
  · split at q
    · rename_i hl
      obtain ⟨a1, a2⟩ := cmpb_parts hl.1
      exact .inl ⟨a, _, Rep.dp a x a1 (Rep.mono s _ _ ra), .inl (Rep.dp _ y (by rw [PyData.plain]; exact hl.2) (Rep.mono s _ _ rb)), a1, hl.2, a2, RQ.here s q rfl⟩
    · exact q.elim
  · split at q
    · rename_i hl
      obtain ⟨a1, a2⟩ := cmpb_parts hl.1
      exact .inl ⟨a, _, Rep.dp a x a1 (Rep.mono s _ _ ra), .inr (Rep.dp _ y (by rw [PyData.plain]; exact hl.2) (Rep.mono s _ _ rb)), a1, hl.2, a2, RQ.here s q rfl⟩
    · exact q.elim
  · split at q
    · rename_i c hc
      cases ra; cases rb
      exact .inr ⟨c, _, by rw [str_one hc], rfl, RQ.here s q rfl⟩
    · exact q.elim
  · exact q.elim
theorem o_in (hu : X.A.units + 64 < cLine) : OpR X (compareOp .In) (rInA X.K) ∧ OpSem X.K (rInA X.K) (gIn false) := ⟨(op_inP hu).or op_in_sign, in_sem (neg := false)⟩
theorem o_ni (hu : X.A.units + 64 < cLine) : OpR X (compareOp .NotIn) (rNiA X.K) ∧ OpSem X.K (rNiA X.K) (gIn true) := ⟨(op_notInP hu).or op_notIn_sign, in_sem (neg := true)⟩
def isNone : D → Bool
  | .none => true
  | _ => false
def gIs (neg : Bool) : D → D → R
  | a, .none => .ok (.bool (if neg then !isNone a else isNone a))
  | _, _ => .bad
theorem rep_non {G : Hp} {a : D} {x : V} (r : Rep K G a x) : decide (x = V.non) = isNone a := by
  cases a with
  | none => cases r; rfl
  | bool _ => cases r; rfl
  | int _ => cases r; rfl
  | str _ => cases r; rfl
  | list _ => obtain ⟨_, _, rfl, _⟩ := r; rfl
  | tuple _ => obtain ⟨_, _, rfl, _⟩ := r; rfl
  | dict _ => rcases r with ⟨_, _, rfl, _⟩ | ⟨_, _, _, rfl, _⟩ | ⟨_, _, _, _, _, rfl, _⟩ | ⟨_, _, _, _, _, rfl, _⟩ | ⟨_, _, _, _, _, rfl, _⟩ <;> rfl
theorem o_is : OpR X (compareOp .Is) (fun x y H Q => y = .non ∧ Q (.bl (decide (x = .non))) H) ∧ OpSem X.K (fun x y H Q => y = .non ∧ Q (.bl (decide (x = .non))) H) (gIs false) := by
  refine ⟨op_isN, fun mg E G H a b x y Q s ra rb q => ?_⟩
  unfold gIs at q
  split at q
  · cases rb
    exact ⟨rfl, RQ.here s q (by rw [rep_non ra]; rfl)⟩
  · exact q.elim
theorem o_isnot : OpR X (compareOp .IsNot) (fun x y H Q => y = .non ∧ Q (.bl (!decide (x = .non))) H) ∧ OpSem X.K (fun x y H Q => y = .non ∧ Q (.bl (!decide (x = .non))) H) (gIs true) := by
  refine ⟨op_notN, fun mg E G H a b x y Q s ra rb q => ?_⟩
  unfold gIs at q
  split at q
  · cases rb
    exact ⟨rfl, RQ.here s q (by rw [rep_non ra]; rfl)⟩
  · exact q.elim

/-! ### subscripts, slices -/
theorem atI_rep {G : Hp} {ds : List D} {xs : List V} {i : Int} {d : D} (r : RepL K G ds xs) (h : atI ds i = some d) : ∃ x, atI xs i = some x ∧ Rep K G d x := by
  unfold atI at h ⊢
  rw [r.length]
  cases e : ixN ds.length i with
  | none => rw [e] at h; cases h
  | some j =>
    rw [e] at h
    exact r.get h
def gIx : D → D → R
  | .list ds, .int i => match atI ds i with
    | some d => .ok d
    | none => .bad
  | .tuple ds, .int i => match atI ds i with
    | some d => .ok d
    | none => .bad
  | .str z, .int i => if z.length ≤ LIM then (match atI z.cps.toList i with
    | some c => .ok (.str ⟨#[c]⟩)
    | none => .bad) else .bad
  | .dict [(.none, .list ds)], .int i => match atI ds i with
    | some d => .ok d
    | none => .bad
  | _, _ => .bad
theorem scr_inv {ds : List D} {ns : List Int} (h : [((PyData.none : PyData), PyData.list ds)] = [(PyData.none, PyData.list (ns.map PyData.int))]) : ds = ns.map PyData.int := by
  injection h with h _
  injection h with _ h
  injection h
theorem scr_not {ds : List D} {m : Dm} (h : [((PyData.none : PyData), PyData.list ds)] = encD m) : False := by
  cases m with
  | nil => cases h
  | cons p m => unfold encD at h; rw [List.map_cons] at h; injection h with h _; injection h with h _; cases h
theorem o_ix : IxR X (rIx X.K) ∧ OpSem X.K (rIx X.K) gIx := by
  refine ⟨ix_seq, fun mg E G H a b x y Q s ra rb q => ?_⟩
  unfold gIx at q
  split at q
  · obtain ⟨p, xs, rfl, h1, r1⟩ := ra
    cases rb
    split at q
    · rename_i d hd
      obtain ⟨z, hz, rz⟩ := atI_rep r1 hd
      exact .inl ⟨p, xs, _, z, rfl, rfl, .inl (.inl (s _ _ h1)), hz, RQ.here s q rz⟩
    · exact q.elim
  · obtain ⟨p, xs, rfl, h1, r1⟩ := ra
    cases rb
    split at q
    · rename_i d hd
      obtain ⟨z, hz, rz⟩ := atI_rep r1 hd
      exact .inr (.inl ⟨p, xs, _, z, rfl, rfl, TupAt.sq (TupAt.mono s h1), hz, RQ.here s q rz⟩)
    · exact q.elim
  · cases ra; cases rb
    split at q
    · rename_i hl
      split at q
      · rename_i c hc
        exact .inr (.inr ⟨_, _, c, rfl, rfl, le_line hl, hc, RQ.here s q rfl⟩)
      · exact q.elim
    · exact q.elim
  · cases rb
    rcases ra with ⟨e, _⟩ | ⟨ns, p, e, rfl, h1⟩ | ⟨_, _, _, _, e, _⟩ | ⟨m, _, _, _, e, _⟩ | ⟨_, _, _, _, e, _⟩
    · cases e
    rotate_left
    · cases e
    · exact (scr_not e).elim
    · cases e
    · have e' := scr_inv e
      subst e'
      split at q
      · rename_i d hd
        obtain ⟨z, hz, rz⟩ := atI_rep (K := X.K) (G := G) (RepL.of_ints ns) hd
        exact .inl ⟨p, _, _, z, rfl, rfl, Same.seq s h1, hz, RQ.here s q rz⟩
      · exact q.elim
  · exact q.elim
inductive RO where
  | ok (o : Option Int) | exc (c : Str) | bad
def OQ (K : PySem.W.Frag) (mg : Str → Option Value) (E : XK) (G H : Hp) (Q : Option Int → Hp → Prop) : RO → Prop
  | .ok o => ∀ G' H', Ext G H G' H' → Q o H'
  | .exc c => ∀ G' H' C, Ext G H G' H' → mg c = some (.ref C) → E (.ref C) none H'
  | .bad => False
def SemO (K : PySem.W.Frag) (mg : Str → Option Value) (W : WX) (t : TO) (f : List Sl → RO) : Prop := ∀ H0 G H σ δ Q, St K H0 G H σ δ → OQ K mg (WE W σ) G H Q (f δ) → t σ H Q
structure DO (X : Cx) (W : WX) (e : Option Expr) (t : TO) (f : List Sl → RO) : Prop where
  po : PO X e t
  sem : SemO X.K X.mg W t f
theorem do_none : DO X W none tNoPart (fun _ => .ok none) := ⟨po_none, fun H0 G H σ δ Q S q => q G H (Ext.refl S.s)⟩
def fPart (f : List Sl → R) : List Sl → RO := fun δ => match f δ with
  | .ok (.int i) => .ok (some i)
  | .exc c => .exc c
  | _ => .bad
theorem do_some {e : Expr} {te : TE} {fe : List Sl → R} (h : DE X W e te fe) : DO X W (some e) (tPart te) (fPart fe) := ⟨po_some h.pe, fun H0 G H σ δ Q S q => by
  unfold fPart at q
  split at q
  · rename_i i hi
    refine h.sem H0 G H σ δ _ S ?_
    rw [hi]
    exact fun v G' H' e1 r => ⟨i, r, q G' H' e1⟩
  · rename_i c hc
    refine h.sem H0 G H σ δ _ S ?_
    rw [hc]
    exact q
  · exact q.elim⟩
def RO.bind : RO → (Option Int → R) → R
  | .ok o, k => k o
  | .exc c, _ => .exc c
  | .bad, _ => .bad
def cutD {α : Type} (xs : List α) (lo hi : Option Int) : List α := (xs.drop (HT.sIx xs.length 0 lo)).take (HT.sIx xs.length xs.length hi - HT.sIx xs.length 0 lo)
def gSl : D → Option Int → Option Int → R
  | .list ds, lo, hi => .new (cutD ds lo hi)
  | .tuple ds, lo, hi => .ok (.tuple (cutD ds lo hi))
  | .str z, lo, hi => if z.length ≤ LIM then .ok (.str (cutS z lo hi)) else .bad
  | _, _, _ => .bad
abbrev rSlAny (K : PySem.W.Frag) : V → Option Int → Option Int → Hp → VK → Prop := fun x lo hi H Q => rSlL K x lo hi H Q ∨ (rSlA K x lo hi H Q ∨ rSlS x lo hi H Q)
theorem cut_rep {G : Hp} {ds : List D} {xs : List V} (r : RepL K G ds xs) (lo hi : Option Int) : RepL K G (cutD ds lo hi) (cutV xs lo hi) := by
  unfold cutD cutV
  rw [r.length]
  exact RepL.take _ (RepL.drop _ r)
theorem cut_whole {α : Type} {xs : List α} {lo hi : Option Int} (h : HT.sIx xs.length 0 lo = 0 ∧ HT.sIx xs.length xs.length hi = xs.length) : cutD xs lo hi = xs := by
  unfold cutD
  rw [h.1, h.2]
  simp
def fSl (fa : List Sl → R) (fl fh : List Sl → RO) : List Sl → R := fun δ => (fa δ).bind fun a => (fl δ).bind fun lo => (fh δ).bind fun hi => gSl a lo hi
theorem RO.bind_q {E : XK} {G H : Hp} {Q : VK} {Q1 : Option Int → Hp → Prop} {r : RO} {k : Option Int → R} (q : RQ K mg E G H Q (r.bind k)) (hk : ∀ o G1 H1, Ext G H G1 H1 → RQ K mg E G1 H1 Q (k o) → Q1 o H1) : OQ K mg E G H Q1 r := by
  cases r with
  | ok o => exact fun G' H' e => hk o G' H' e (q.trans e)
  | exc c => exact q
  | bad => exact q
theorem de_slice {e : Expr} {lo hi : Option Expr} {te : TE} {tl th : TO} {fe : List Sl → R} {fl fh : List Sl → RO} {p2 : Pos} (he : DE X W e te fe) (hl : DO X W lo tl fl) (hh : DO X W hi th fh) :
    DE X W (.Subscript e (.Slice lo hi none p2) pos) (tSl (rSlAny X.K) te tl th) (fSl fe fl fh) := ⟨pe_slice (sl_list.or (sl_tupA.or sl_str)) he.pe hl.po hh.po, fun H0 G H σ δ Q S q => by
  refine he.sem H0 G H σ δ _ S (RQ.bind q fun a x G1 H1 e1 r1 q1 => ?_)
  refine hl.sem H0 G1 H1 σ δ _ (S.go e1) (RO.bind_q q1 fun l G2 H2 e2 q2 => ?_)
  refine hh.sem H0 G2 H2 σ δ _ ((S.go e1).go e2) (RO.bind_q q2 fun h G3 H3 e3 q3 => ?_)
  have ra := Rep.mono (e2.g.trans e3.g) _ _ r1
  unfold gSl at q3
  split at q3
  · obtain ⟨p, xs, rfl, h1, r2⟩ := ra
    exact .inl ⟨p, xs, rfl, .inl (.inl (e3.s _ _ h1)), fun p' hp => rq_new e3.s (cut_rep r2 l h) q3 hp⟩
  · obtain ⟨p, xs, rfl, h1, r2⟩ := ra
    refine .inr (.inl ⟨p, xs, rfl, TupAt.sq (TupAt.mono e3.s h1), fun hw => ?_, fun _ p' hp => rq_tup e3.s (cut_rep r2 l h) q3 hp⟩)
    rw [r2.length] at hw
    rw [cut_whole hw] at q3
    exact RQ.here e3.s q3 ⟨p, xs, rfl, h1, r2⟩
  · cases ra
    split at q3
    · rename_i hz
      exact .inr (.inr ⟨_, rfl, le_line hz, RQ.here e3.s q3 rfl⟩)
    · exact q3.elim
  · exact q3.elim⟩
/-! ### one-place operators -/
def fNeg (fa : List Sl → R) : List Sl → R := fun δ => (fa δ).bind fun a => match a with
  | .int i => .ok (.int (-i))
  | _ => .bad
theorem de_neg (ha : DE X W a ta fa) : DE X W (.UnaryOp .USub a pos) (tUn (rU fun i => .int (-i)) ta) (fNeg fa) := ⟨pe_un un_neg ha.pe, fun H0 G H σ δ Q S q => by
  refine ha.sem H0 G H σ δ _ S (RQ.bind q fun a x G1 H1 e1 r1 q1 => ?_)
  split at q1
  · cases r1
    exact ⟨_, rfl, RQ.here e1.s q1 rfl⟩
  · exact q1.elim⟩
end
end DL
set_option Elab.async false
set_option linter.all false
set_option maxRecDepth 100000
set_option maxHeartbeats 4000000
namespace L2
open PySem PySem.Spec PyProof.Rows
/-! ### a tuple times one, times nought -/
theorem tuple_mul1 (l : Addr) (items : Array Value) (n : Nat) (dd : Option Addr) (sl : Array (Option Value)) (u : Tok) :
    Meets (Builtin.«tuple.__mul__» ⟨[.ref l, .int 1 u], []⟩) (fun _ R s => s.heap.get? l = some { cls := .type "tuple", dict := dd, data := .seq items n, slots := sl } ∧
      R (.ok (.ret (Value.ref l))) s) :=
  .of_wp fun prog w A R s h => by
    obtain ⟨hp, g, d, tk, os⟩ := s
    obtain ⟨hl, h⟩ := h
    have f1 := AutoSeq1.idx_int
    wp_walk using wpAny_loadPart' hl
    exact ⟨_, rfl, h⟩
theorem tuple_mul0 (l : Addr) (items : Array Value) (n : Nat) (dd : Option Addr) (sl : Array (Option Value)) (u : Tok) (hi : items.isEmpty = false) :
    Meets (Builtin.«tuple.__mul__» ⟨[.ref l, .int 0 u], []⟩) (fun _ R s => s.heap.get? l = some { cls := .type "tuple", dict := dd, data := .seq items n, slots := sl } ∧
      R (.ok (.ret (Value.ref s.heap.objs.size))) { s with heap := s.heap.push { cls := Value.type "tuple", data := Data.seq #[] } }) :=
  .of_wp fun prog w A R s h => by
    obtain ⟨hp, g, d, tk, os⟩ := s
    obtain ⟨hl, h⟩ := h
    have f1 := AutoSeq1.idx_int
    wp_walk using wpAny_loadPart' hl
    exact ⟨_, rfl, h⟩
section
variable {X : Cx}
def rRepT1 (K : PySem.W.Frag) : R2 := fun x y H Q => ∃ l xs, x = .ref l ∧ y = .int 1 ∧ SqT K H l xs ∧ Q (.ref l) H
def rRepT0 (K : PySem.W.Frag) : R2 := fun x y H Q => ∃ l xs, x = .ref l ∧ y = .int 0 ∧ SqT K H l xs ∧ xs ≠ [] ∧ ∀ p, H p = none → Q (.ref p) (upd H p (.tup []))
theorem op_repT1 : OpR X (binaryOp .Mult) (rRepT1 X.K) := by
  intro pins s σ H x y v u Q I rx ry h
  obtain ⟨l, xs, rfl, rfl, hT, q⟩ := h
  cases rx
  obtain ⟨t, rfl⟩ := ry
  obtain ⟨its, r, ⟨⟨cls, dd, data, sl⟩, ho, hc, n, hd⟩, hs⟩ := I.tuple hT
  simp only at hc hd
  subst hc hd
  refine wpAny_binaryOp_repeat_ref (T := "tuple") (U := "int") (by decide) ⟨_, ho, rfl⟩ (fun s' => typeIs_int s' 1 t) noFill_tuple_mul F.fills_int_mul F.slot_int_rmul repeat_tuple F.slot_int_index.lookup
    (call_meets F.slot_int_rmul (typeIs_int s 1 t) F.entry_int_rmul (F.args_int_rmul_2 _ _) (int_rmul_tuple 1 t l its.toArray n dd sl)
      ⟨ho, rfl, ⟨_, ho, rfl⟩, call_meets F.slot_tuple_mul ⟨_, ho, rfl⟩ F.entry_tuple_mul (F.args_tuple_mul_2 _ _) (tuple_mul1 l its.toArray n dd sl t) ⟨ho, ?_⟩⟩)
  exact ⟨.ref l, H, I, rfl, q⟩
theorem op_repT0 : OpR X (binaryOp .Mult) (rRepT0 X.K) := by
  intro pins s σ H x y v u Q I rx ry h
  obtain ⟨l, xs, rfl, rfl, hT, hne, q⟩ := h
  cases rx
  obtain ⟨t, rfl⟩ := ry
  obtain ⟨its, r, ⟨⟨cls, dd, data, sl⟩, ho, hc, n, hd⟩, hs⟩ := I.tuple hT
  simp only at hc hd
  subst hc hd
  have hle : its.length = xs.length := r.length.symm
  have hi : its.toArray.isEmpty = false := by
    cases its with
    | nil => exact absurd (List.eq_nil_of_length_eq_zero hle.symm) hne
    | cons a b => rfl
  refine wpAny_binaryOp_repeat_ref (T := "tuple") (U := "int") (by decide) ⟨_, ho, rfl⟩ (fun s' => typeIs_int s' 0 t) noFill_tuple_mul F.fills_int_mul F.slot_int_rmul repeat_tuple F.slot_int_index.lookup
    (call_meets F.slot_int_rmul (typeIs_int s 0 t) F.entry_int_rmul (F.args_int_rmul_2 _ _) (int_rmul_tuple 0 t l its.toArray n dd sl)
      ⟨ho, rfl, ⟨_, ho, rfl⟩, call_meets F.slot_tuple_mul ⟨_, ho, rfl⟩ F.entry_tuple_mul (F.args_tuple_mul_2 _ _) (tuple_mul0 l its.toArray n dd sl t hi) ⟨ho, ?_⟩⟩)
  refine ⟨.ref s.heap.objs.size, _, I.laid (t' := s.toks) (o := .tup []) (fun b ob q => Heap.get?_push_of_some _ q) (Nat.le_refl _) ?_, rfl, q _ (I.hok.fresh (Nat.le_refl _))⟩
  exact ⟨Nat.zero_le _, [], .nil, IsTup.new _ _⟩
end
end L2
namespace DL
open PySem PySem.Spec PyProof.Rows L2
variable {K : PySem.W.Frag}
section
variable {X : Cx} {W : WX} {mg : Str → Option Value} {a b c : Expr} {ta tb tc : TE} {fa fb fc : List Sl → R} {pos : Pos}
def gMul : D → D → R
  | .int i, .int j => if (-(2 ^ 64) < i ∧ i < 2 ^ 64) ∨ (-(2 ^ 64) < j ∧ j < 2 ^ 64) then .ok (.int (i * j)) else .bad
  | .list xs, .int k => if 0 ≤ k ∧ k ≤ 1000 ∧ xs.length ≤ 60 then .new (List.replicate k.toNat xs).flatten else .bad
  | .tuple xs, .int k => if 0 ≤ k ∧ k ≤ 1000 ∧ xs.length ≤ 60 ∧ xs.isEmpty = false then .ok (.tuple (List.replicate k.toNat xs).flatten) else .bad
  | .str x, .int k => if 2 ≤ k ∧ k ≤ 1000 ∧ 1 ≤ x.length ∧ x.length ≤ 60 then .ok (.str ⟨(List.replicate k.toNat x.cps).foldl (· ++ ·) #[]⟩) else .bad
  | _, _ => .bad
def rRepS : R2 := fun x y H Q => ∃ a k, x = .str a ∧ y = .int k ∧ 2 ≤ k ∧ k ≤ 1000 ∧ 1 ≤ a.length ∧ a.length ≤ 60 ∧ Q (.str ⟨(List.replicate k.toNat a.cps).foldl (· ++ ·) #[]⟩) H
theorem op_repS : OpR X (binaryOp .Mult) rRepS := by
  intro pins s σ H x y v u Q I rx ry h
  obtain ⟨a, k, rfl, rfl, h1, h2, h3, h4, q⟩ := h
  obtain ⟨t, rfl⟩ := rx
  obtain ⟨u', rfl⟩ := ry
  have nlt : ¬ k < 1 := by omega
  have nb : (k == 1 || a.length == 0) = false := by
    rw [Bool.or_eq_false_iff]
    exact ⟨beq_eq_false_iff_ne.mpr (by omega), beq_eq_false_iff_ne.mpr (by omega)⟩
  refine PySem.P.mul_str ?_ (fun _ _ => ?_) (fun _ _ => ?_) ?_
  · rw [Bool.or_eq_false_iff]
    exact ⟨decide_eq_false (by omega), decide_eq_false (by omega)⟩
  · have : (2 ^ 63 - 1 : Int) / 1000 ≤ (2 ^ 63 - 1) / k := by
      rw [Int.le_ediv_iff_mul_le (by omega)]
      have q1 : (2 ^ 63 - 1 : Int) / 1000 * k ≤ (2 ^ 63 - 1 : Int) / 1000 * 1000 := Int.mul_le_mul_of_nonneg_left (by omega) (by decide)
      exact Int.le_trans q1 (by decide)
    have h5 : (60 : Int) ≤ (2 ^ 63 - 1 : Int) / 1000 := by decide
    omega
  · have hm : a.length * k.toNat ≤ 60 * 1000 := Nat.mul_le_mul h4 (by omega)
    have : (60 * 1000 : Nat) ≤ sizeLine := by rw [sizeLine_eq]; decide
    show decide (a.length * k.toNat > sizeLine) = false
    exact decide_eq_false (by omega)
  · rw [if_neg nlt, if_neg (by rw [nb]; decide)]
    refine ⟨?_, .str _, H, I.tok _, ⟨_, rfl⟩, q⟩
    have hm : k.toNat * a.cps.size ≤ 1000 * 60 := Nat.mul_le_mul (by omega) h4
    have : (1000 * 60 : Nat) ≤ sizeLine := by rw [sizeLine_eq]; decide
    show ((List.replicate k.toNat a.cps).foldl (· ++ ·) #[]).size ≤ sizeLine
    rw [PySem.size_reps]
    show 0 + k.toNat * a.cps.size ≤ sizeLine
    omega
abbrev rMulA (K : PySem.W.Frag) : R2 := fun x y H Q => (rI CMul fun i j => .int (i * j)) x y H Q ∨ (rRep x y H Q ∨ (rRepT K x y H Q ∨ (rRepT1 K x y H Q ∨ (rRepT0 K x y H Q ∨ rRepS x y H Q))))
theorem o_mul : OpR X (binaryOp .Mult) (rMulA X.K) ∧ OpSem X.K (rMulA X.K) gMul := by
  refine ⟨op_mul.or (op_rep.or (op_repT.or (op_repT1.or (op_repT0.or op_repS)))), fun mg E G H a b x y Q s ra rb q => ?_⟩
  cases a <;> cases b <;> first | exact q.elim | skip
  · cases ra; cases rb
    obtain ⟨hl, q⟩ := rq_if q
    exact .inl ⟨_, _, rfl, rfl, hl, RQ.here s q rfl⟩
  · cases ra; cases rb
    obtain ⟨⟨k0, k1, k2, k3⟩, q⟩ := rq_if q
    exact .inr (.inr (.inr (.inr (.inr ⟨_, _, rfl, rfl, k0, k1, k2, k3, RQ.here s q rfl⟩))))
  · rename_i ds k
    obtain ⟨p, xs, rfl, h1, r1⟩ := ra
    cases rb
    obtain ⟨⟨k0, k1, k2⟩, q⟩ := rq_if q
    have hl := r1.length
    refine .inr (.inl ⟨p, k, xs, rfl, rfl, s _ _ h1, by omega, by omega, ?_, fun l hl => rq_new s (r1.rep k.toNat) q hl⟩)
    have : xs.length * k.toNat ≤ 60 * 1000 := Nat.mul_le_mul (by omega) (by omega)
    exact Nat.le_trans this (by rw [sizeLine_eq]; decide)
  · rename_i ds k
    obtain ⟨p, xs, rfl, h1, r1⟩ := ra
    cases rb
    obtain ⟨⟨k0, k1, k2, k3⟩, q⟩ := rq_if q
    have hl := r1.length
    have hne : xs ≠ [] := fun e => by
      rw [e] at hl
      cases ds with
      | nil => simp at k3
      | cons _ _ => simp at hl
    by_cases e0 : k = 0
    · subst e0
      refine .inr (.inr (.inr (.inr (.inl ⟨p, xs, rfl, rfl, TupAt.sq (TupAt.mono s h1), hne, fun l hl => ?_⟩))))
      exact rq_tup s (r1.rep 0) q hl
    · by_cases e1 : k = 1
      · subst e1
        refine .inr (.inr (.inr (.inl ⟨p, xs, rfl, rfl, TupAt.sq (TupAt.mono s h1), ?_⟩)))
        refine RQ.here s q ⟨p, xs, rfl, h1, ?_⟩
        have e : (List.replicate (Int.toNat 1) ds).flatten = ds := by simp
        rw [e]
        exact r1
      · exact .inr (.inr (.inl ⟨p, k, xs, rfl, rfl, TupAt.sq (TupAt.mono s h1), hne, by omega, k1, by omega, fun l hl => rq_tup s (r1.rep k.toNat) q hl⟩))

/-! ### tests, and, or, not, if else -/
def R.tst : R → R
  | .ok (.bool b) => .ok (.bool b)
  | .exc c => .exc c
  | _ => .bad
def fTst (f : List Sl → R) : List Sl → R := fun δ => (f δ).tst
theorem tq_of {E : XK} {G H : Hp} {r : R} {Q : Bool → Hp → Prop} {Q1 : VK} (q : TQ mg E G H Q r.tst) (hk : ∀ b G1 H1, Ext G H G1 H1 → TQ mg E G1 H1 Q (.ok (.bool b)) → Q1 (.bl b) H1) : RQ K mg E G H Q1 r := by
  cases r with
  | ok d => cases d with
    | bool b => exact fun v G' H' e r => by cases r; exact hk b G' H' e (fun G2 H2 e2 => q G2 H2 (e.trans e2))
    | _ => exact q.elim
  | new ds => exact q.elim
  | exc c => exact q
  | bad => exact q.elim
theorem sem_tst {t : TE} {f : List Sl → R} (h : SemE K mg W t f) : SemT K mg W (tTest t) (fTst f) := fun H0 G H σ δ Q S q =>
  h H0 G H σ δ _ S (tq_of q fun b G1 H1 e q1 => ⟨b, rfl, q1 G1 H1 (Ext.refl e.s)⟩)
theorem sem_tB {t : TE} {f : List Sl → R} (h : SemE K mg W t f) : SemT K mg W (tB t) (fTst f) := fun H0 G H σ δ Q S q =>
  h H0 G H σ δ _ S (tq_of q fun b G1 H1 e q1 => ⟨b, rfl, q1 G1 H1 (Ext.refl e.s)⟩)
theorem dt_cmp {op : CmpOp} {r : R2} {g : D → D → R} (ho : OpR X (compareOp op) r ∧ OpSem X.K r g) (ha : DE X W a ta fa) (hb : DE X W b tb fb) (hm : behindInMarks op b = false := by first | exact nomark _ | rfl) : DT X W (.Compare a [op] [b] pos) (tTest (tOp r ta tb)) (fTst (fOp g fa fb)) :=
  ⟨pt_cmpR ho.1 ha.pe hb.pe hm, sem_tst (sem_op ho.2 ha.sem hb.sem)⟩
theorem dt_val {e : Expr} {t : TE} {f : List Sl → R} (h : DE X W e t f) (he : ∀ whole, isTrue e X.env whole = (do let v ← whole; standAt e.pos; holding [v] (truthy v)) := by intro _; rfl) : DT X W e (tB t) (fTst f) := ⟨pt_val h.pe he, sem_tB h.sem⟩
/-- what a test's answer leads to -/
def R.cnd (r : R) (y n : R) : R := match r with
  | .ok (.bool true) => y
  | .ok (.bool false) => n
  | .exc c => .exc c
  | _ => .bad
def fAnd (f g : List Sl → R) : List Sl → R := fun δ => (f δ).cnd (g δ) (.ok (.bool false))
def fOr (f g : List Sl → R) : List Sl → R := fun δ => (f δ).cnd (.ok (.bool true)) (g δ)
def fNot (f : List Sl → R) : List Sl → R := fun δ => (f δ).cnd (.ok (.bool false)) (.ok (.bool true))
def fIf (c f g : List Sl → R) : List Sl → R := fun δ => (c δ).cnd (f δ) (g δ)
theorem cnd_t {E : XK} {G H : Hp} {r y n : R} {Q Q1 : Bool → Hp → Prop} (q : TQ mg E G H Q (r.cnd y n)) (hy : ∀ G1 H1, Ext G H G1 H1 → TQ mg E G1 H1 Q y → Q1 true H1) (hn : ∀ G1 H1, Ext G H G1 H1 → TQ mg E G1 H1 Q n → Q1 false H1) : TQ mg E G H Q1 r := by
  unfold R.cnd at q
  split at q
  · exact fun G' H' e => hy G' H' e (q.trans e)
  · exact fun G' H' e => hn G' H' e (q.trans e)
  · exact q
  · exact q.elim
theorem cnd_q {E : XK} {G H : Hp} {r y n : R} {Q : VK} {Q1 : Bool → Hp → Prop} (q : RQ K mg E G H Q (r.cnd y n)) (hy : ∀ G1 H1, Ext G H G1 H1 → RQ K mg E G1 H1 Q y → Q1 true H1) (hn : ∀ G1 H1, Ext G H G1 H1 → RQ K mg E G1 H1 Q n → Q1 false H1) : TQ mg E G H Q1 r := by
  unfold R.cnd at q
  split at q
  · exact fun G' H' e => hy G' H' e (q.trans e)
  · exact fun G' H' e => hn G' H' e (q.trans e)
  · exact q
  · exact q.elim
variable {t1 t2 : TT} {f1 f2 : List Sl → R} {rest : List Expr}
theorem dw_and1 (ha : DT X W a t1 f1) : DW X W (.BoolOp .And [a] pos) t1 f1 := ⟨pw_and1 ha.pt, ha.sem⟩
theorem dw_or1 (ha : DT X W a t1 f1) : DW X W (.BoolOp .Or [a] pos) t1 f1 := ⟨pw_or1 ha.pt, ha.sem⟩
theorem TQ.here {E : XK} {G H : Hp} {Q : Bool → Hp → Prop} {b : Bool} (s : Same G H) (q : TQ mg E G H Q (.ok (.bool b))) : Q b H := q G H (Ext.refl s)
theorem dw_and (ha : DT X W a t1 f1) (hb : DW X W (.BoolOp .And (b :: rest) pos) t2 f2) : DW X W (.BoolOp .And (a :: b :: rest) pos) (tAnd t1 t2) (fAnd f1 f2) := ⟨pw_and ha.pt hb.pw, fun H0 G H σ δ Q S q =>
  ha.sem H0 G H σ δ _ S (cnd_t q (fun G1 H1 e q1 => iteT (hb.sem H0 G1 H1 σ δ Q (S.go e) q1)) fun G1 H1 e q1 => iteF (TQ.here e.s q1))⟩
theorem dw_or (ha : DT X W a t1 f1) (hb : DW X W (.BoolOp .Or (b :: rest) pos) t2 f2) : DW X W (.BoolOp .Or (a :: b :: rest) pos) (tOr t1 t2) (fOr f1 f2) := ⟨pw_or ha.pt hb.pw, fun H0 G H σ δ Q S q =>
  ha.sem H0 G H σ δ _ S (cnd_t q (fun G1 H1 e q1 => iteT (TQ.here e.s q1)) fun G1 H1 e q1 => iteF (hb.sem H0 G1 H1 σ δ Q (S.go e) q1))⟩
theorem dt_w (h : DW X W a t1 f1) : DT X W a t1 f1 := ⟨h.pw.pt, h.sem⟩
theorem dt_not (ha : DT X W a t1 f1) : DT X W (.UnaryOp .Not a pos) (tNot t1) (fNot f1) := ⟨pt_not ha.pt, fun H0 G H σ δ Q S q =>
  ha.sem H0 G H σ δ _ S (cnd_t q (fun G1 H1 e q1 => TQ.here e.s q1) fun G1 H1 e q1 => TQ.here e.s q1)⟩
/-- as values -/
theorem cnd_v {E : XK} {G H : Hp} {r y n : R} {Q Q1 : VK} (q : RQ K mg E G H Q (r.cnd y n)) (hy : ∀ G1 H1, Ext G H G1 H1 → RQ K mg E G1 H1 Q y → Q1 (.bl true) H1) (hn : ∀ G1 H1, Ext G H G1 H1 → RQ K mg E G1 H1 Q n → Q1 (.bl false) H1) : RQ K mg E G H Q1 r := by
  unfold R.cnd at q
  split at q
  · exact fun v G' H' e r => by cases r; exact hy G' H' e (q.trans e)
  · exact fun v G' H' e r => by cases r; exact hn G' H' e (q.trans e)
  · exact q
  · exact q.elim
theorem de_one {op} (h : DE X W a ta fa) : DE X W (.BoolOp op [a] pos) ta fa := ⟨pe_one h.pe, h.sem⟩
theorem de_and (ha : DE X W a ta fa) (hb : DE X W (.BoolOp .And (b :: rest) pos) tb fb) : DE X W (.BoolOp .And (a :: b :: rest) pos) (tAndV ta tb) (fAnd fa fb) := ⟨pe_and ha.pe hb.pe, fun H0 G H σ δ Q S q =>
  ha.sem H0 G H σ δ _ S (cnd_v q (fun G1 H1 e q1 => ⟨true, rfl, iteT (hb.sem H0 G1 H1 σ δ Q (S.go e) q1)⟩) fun G1 H1 e q1 => ⟨false, rfl, iteF (RQ.here e.s q1 rfl)⟩)⟩
theorem de_or (ha : DE X W a ta fa) (hb : DE X W (.BoolOp .Or (b :: rest) pos) tb fb) : DE X W (.BoolOp .Or (a :: b :: rest) pos) (tOrV ta tb) (fOr fa fb) := ⟨pe_or ha.pe hb.pe, fun H0 G H σ δ Q S q =>
  ha.sem H0 G H σ δ _ S (cnd_v q (fun G1 H1 e q1 => ⟨true, rfl, iteT (RQ.here e.s q1 rfl)⟩) fun G1 H1 e q1 => ⟨false, rfl, iteF (hb.sem H0 G1 H1 σ δ Q (S.go e) q1)⟩)⟩
theorem de_not (ha : DE X W a ta fa) : DE X W (.UnaryOp .Not a pos) (tNotV ta) (fNot fa) := ⟨pe_not ha.pe, fun H0 G H σ δ Q S q =>
  ha.sem H0 G H σ δ _ S (cnd_v q (fun G1 H1 e q1 => ⟨true, rfl, RQ.here e.s q1 rfl⟩) fun G1 H1 e q1 => ⟨false, rfl, RQ.here e.s q1 rfl⟩)⟩
theorem de_ifExp (hc : DT X W c t1 f1) (ha : DE X W a ta fa) (hb : DE X W b tb fb) : DE X W (.IfExp c a b pos) (tIf t1 ta tb) (fIf f1 fa fb) := ⟨pe_ifExp hc.pt ha.pe hb.pe, fun H0 G H σ δ Q S q =>
  hc.sem H0 G H σ δ _ S (cnd_q q (fun G1 H1 e q1 => iteT (ha.sem H0 G1 H1 σ δ Q (S.go e) q1)) fun G1 H1 e q1 => iteF (hb.sem H0 G1 H1 σ δ Q (S.go e) q1))⟩
/-- a < b < c -/
def fChain (g g' : D → D → R) (fa fb fc : List Sl → R) : List Sl → R := fun δ => (fa δ).bind fun a => (fb δ).bind fun b => (g a b).cnd ((fc δ).bind fun c => g' b c) (.ok (.bool false))
variable {op op' : CmpOp} {r r' : R2} {g g' : D → D → R}
theorem sem_chain (hg : OpSem K r g) (hg' : OpSem K r' g') (ha : SemE K mg W ta fa) (hb : SemE K mg W tb fb) (hc : SemE K mg W tc fc) : SemE K mg W (tChain r r' ta tb tc) (fChain g g' fa fb fc) := fun H0 G H σ δ Q S q => by
  refine ha H0 G H σ δ _ S (RQ.bind q fun a x G1 H1 e1 r1 q1 => ?_)
  refine hb H0 G1 H1 σ δ _ (S.go e1) (RQ.bind q1 fun b y G2 H2 e2 r2 q2 => ?_)
  refine hg mg (WE W σ) G2 H2 a b x y _ e2.s (Rep.mono e2.g _ _ r1) r2 (cnd_v q2 (fun G3 H3 e3 q3 => ⟨true, rfl, ?_⟩) fun G3 H3 e3 q3 => ⟨false, rfl, ?_⟩)
  · refine iteT (hc H0 G3 H3 σ δ _ (((S.go e1).go e2).go e3) (RQ.bind q3 fun c z G4 H4 e4 r4 q4 => ?_))
    exact hg' mg (WE W σ) G4 H4 b c y z Q e4.s (Rep.mono (e3.g.trans e4.g) _ _ r2) r4 q4
  · exact iteF (RQ.here e3.s q3 rfl)
theorem de_chain (ho : OpR X (compareOp op) r ∧ OpSem X.K r g) (ho' : OpR X (compareOp op') r' ∧ OpSem X.K r' g') (ha : DE X W a ta fa) (hb : DE X W b tb fb) (hc : DE X W c tc fc) (hm : lastMarks [op, op'] [b, c] = false := by with_unfolding_all rfl) : DE X W (.Compare a [op, op'] [b, c] pos) (tChain r r' ta tb tc) (fChain g g' fa fb fc) :=
  ⟨pe_chain ho.1 ho'.1 ha.pe hb.pe hc.pe hm, sem_chain ho.2 ho'.2 ha.sem hb.sem hc.sem⟩
theorem dt_chain (ho : OpR X (compareOp op) r ∧ OpSem X.K r g) (ho' : OpR X (compareOp op') r' ∧ OpSem X.K r' g') (ha : DE X W a ta fa) (hb : DE X W b tb fb) (hc : DE X W c tc fc) (hm : lastMarks [op, op'] [b, c] = false := by with_unfolding_all rfl) : DT X W (.Compare a [op, op'] [b, c] pos) (tTest (tChain r r' ta tb tc)) (fTst (fChain g g' fa fb fc)) :=
  ⟨pt_chain ho.1 ho'.1 ha.pe hb.pe hc.pe hm, sem_tst (sem_chain ho.2 ho'.2 ha.sem hb.sem hc.sem)⟩
end
end DL
set_option Elab.async false
set_option linter.all false
set_option maxRecDepth 100000
set_option maxHeartbeats 4000000
namespace DL
open PySem PySem.Spec PyProof.Rows L2
variable {K : PySem.W.Frag}

/-! ### argument lists, displays -/
section
variable {X : Cx} {W : WX} {mg : Str → Option Value} {e : Expr} {es : List Expr} {te : TE} {fe : List Sl → R} {t : TA} {fa : List Sl → RL} {pos : Pos}
def RL.consTo (d : D) : RL → RL
  | .ok ds => .ok (d :: ds)
  | .exc c => .exc c
  | .bad => .bad
def fANil : List Sl → RL := fun _ => .ok []
def fACons (fe : List Sl → R) (fa : List Sl → RL) : List Sl → RL := fun δ => match fe δ with
  | .ok d => (fa δ).consTo d
  | .new ds => (fa δ).consTo (.list ds)
  | .exc c => .exc c
  | .bad => .bad
theorem da_nil : DA X W [] tNil fANil := ⟨pa_nil, fun H0 G H σ δ Q S q => q _ G H (Ext.refl S.s) rfl⟩
theorem lq_cons {E : XK} {G H : Hp} {Q : List V → Hp → Prop} {d : D} {x : V} {r : RL} (q : LQ K mg E G H Q (r.consTo d)) (rx : Rep K G d x) : LQ K mg E G H (fun xs H' => Q (x :: xs) H') r := by
  cases r with
  | ok ds => exact fun vs G' H' e r => q (x :: vs) G' H' e ⟨x, vs, rfl, Rep.mono e.g _ _ rx, r⟩
  | exc c => exact q
  | bad => exact q
theorem da_cons (he : DE X W e te fe) (hr : DA X W es t fa) (hs : starEach (e :: es) X.env = (false, eval e X.env) :: starEach es X.env := by rfl) : DA X W (e :: es) (tCons te t) (fACons fe fa) := ⟨pa_cons he.pe hr.pa hs, fun H0 G H σ δ Q S q => by
  have go : ∀ d, LQ X.K X.mg (WE W σ) G H Q ((fa δ).consTo d) → ∀ v G' H', Ext G H G' H' → Rep X.K G' d v → t σ H' (fun xs H2 => Q (v :: xs) H2) := fun d q v G' H' e1 r1 =>
    hr.sem H0 G' H' σ δ _ (S.go e1) (lq_cons (q.trans e1) r1)
  refine he.sem H0 G H σ δ _ S ?_
  unfold fACons at q
  split at q
  · rename_i d hd
    rw [hd]
    exact fun v G' H' e1 r1 => go d q v G' H' e1 r1
  · rename_i ds hd
    rw [hd]
    exact RQ.freeze fun v G' H' e1 r1 => go _ q v G' H' e1 r1
  · rename_i c hd
    rw [hd]
    exact q
  · exact q.elim⟩
def RL.to (r : RL) (k : List D → R) : R := match r with
  | .ok ds => k ds
  | .exc c => .exc c
  | .bad => .bad
theorem RL.to_q {E : XK} {G H : Hp} {Q : VK} {Q1 : List V → Hp → Prop} {r : RL} {k : List D → R} (q : RQ K mg E G H Q (r.to k)) (hk : ∀ ds vs G1 H1, Ext G H G1 H1 → RepL K G1 ds vs → RQ K mg E G1 H1 Q (k ds) → Q1 vs H1) : LQ K mg E G H Q1 r := by
  cases r with
  | ok ds => exact fun vs G' H' e r => hk ds vs G' H' e r (q.trans e)
  | exc c => exact q
  | bad => exact q.elim
def fTup (fa : List Sl → RL) : List Sl → R := fun δ => (fa δ).to fun ds => if ds.length ≤ LIM then .ok (.tuple ds) else .bad
def fLst (fa : List Sl → RL) : List Sl → R := fun δ => (fa δ).to fun ds => if ds.length ≤ LIM then .new ds else .bad
theorem de_tup {x1} (h : DA X W es t fa) : DE X W (.Tuple es x1 pos) (tTup t) (fTup fa) := ⟨pe_tup h.pa, fun H0 G H σ δ Q S q => by
  refine h.sem H0 G H σ δ _ S (RL.to_q q fun ds vs G1 H1 e1 r1 q1 => ?_)
  obtain ⟨hl, q1⟩ := rq_if q1
  exact ⟨by rw [r1.length]; exact le_line hl, fun p hp => rq_tup e1.s r1 q1 hp⟩⟩
theorem de_lst (h : DA X W es t fa) : DE X W (.List es pos) (tLst t) (fLst fa) := ⟨pe_lst h.pa, fun H0 G H σ δ Q S q => by
  refine h.sem H0 G H σ δ _ S (RL.to_q q fun ds vs G1 H1 e1 r1 q1 => ?_)
  obtain ⟨hl, q1⟩ := rq_if q1
  exact ⟨by rw [r1.length]; exact le_line hl, fun p hp => rq_new e1.s r1 q1 hp⟩⟩

/-! ### calls of built-ins -/
def CallSem (K : PySem.W.Frag) (r : List V → Hp → VK → Prop) (g : List D → R) : Prop := ∀ (mg : Str → Option Value) (E : XK) (G H : Hp) (ds : List D) (vs : List V) (Q : VK), Same G H → RepL K G ds vs → RQ K mg E G H Q (g ds) → r vs H Q
variable {x : Str} {id : String} {T : String} {r : List V → Hp → VK → Prop} {g : List D → R} {p : Pos}
def fCall (g : List D → R) (fa : List Sl → RL) : List Sl → R := fun δ => (fa δ).to g
theorem de_callB (hc : CallR X (.builtin id) r ∧ CallSem X.K r g) (hm : X.mg x = none) (ha : DA X W (e :: es) t fa) (hg : Gl X x := by rfl) (hv : bootBuiltins x = some (.builtin id) := by first | rfl | decide +kernel) (hn : x ≠ "__name__" := by decide) (hdb : (x == ("__debug__" : Str)) = false := by decide)
    (he : starEach (e :: es) X.env = (false, eval e X.env) :: starEach es X.env := by rfl) (hpl : (backTo pos (starEach es X.env)).any (·.1) = false := by rfl) : DE X W (.Call (.Name x p) (e :: es) [] pos) (tCB r t) (fCall g fa) := ⟨pe_callB hc.1 hg hm hv ha.pa hn hdb he hpl, fun H0 G H σ δ Q S q =>
  ha.sem H0 G H σ δ _ S (RL.to_q q fun ds vs G1 H1 e1 r1 q1 => hc.2 X.mg _ G1 H1 ds vs Q e1.s r1 q1)⟩
theorem de_callTy (hc : CallR X (.type T) r ∧ CallSem X.K r g) (hm : X.mg x = none) (ha : DA X W (e :: es) t fa) (hg : Gl X x := by rfl) (hv : bootBuiltins x = some (.type T) := by first | rfl | decide +kernel) (hn : x ≠ "__name__" := by decide) (hdb : (x == ("__debug__" : Str)) = false := by decide)
    (he : starEach (e :: es) X.env = (false, eval e X.env) :: starEach es X.env := by rfl) (hpl : (backTo pos (starEach es X.env)).any (·.1) = false := by rfl) : DE X W (.Call (.Name x p) (e :: es) [] pos) (tCB r t) (fCall g fa) := ⟨pe_callTy hc.1 hg hm hv ha.pa hn hdb he hpl, fun H0 G H σ δ Q S q =>
  ha.sem H0 G H σ δ _ S (RL.to_q q fun ds vs G1 H1 e1 r1 q1 => hc.2 X.mg _ G1 H1 ds vs Q e1.s r1 q1)⟩
theorem repL1 {G : Hp} {d : D} {vs : List V} (r : RepL K G [d] vs) : ∃ x, vs = [x] ∧ Rep K G d x := by
  obtain ⟨x, t, rfl, r1, r2⟩ := r
  cases r2
  exact ⟨x, rfl, r1⟩
theorem repL2 {G : Hp} {d d' : D} {vs : List V} (r : RepL K G [d, d'] vs) : ∃ x y, vs = [x, y] ∧ Rep K G d x ∧ Rep K G d' y := by
  obtain ⟨x, t, rfl, r1, r2⟩ := r
  obtain ⟨y, rfl, r3⟩ := repL1 r2
  exact ⟨x, y, rfl, r1, r3⟩
def gLen : List D → R
  | [.list ds] => .ok (.int ds.length)
  | [.tuple ds] => .ok (.int ds.length)
  | [.str z] => if z.length ≤ LIM then .ok (.int z.length) else .bad
  | [.dict [(.none, .list ds)]] => .ok (.int ds.length)
  | _ => .bad
theorem c_len : CallR X (.builtin "len") (fun xs H Q => ∃ x n, xs = [x] ∧ LenV X.K x H n ∧ Q (.int n) H) ∧ CallSem X.K (fun xs H Q => ∃ x n, xs = [x] ∧ LenV X.K x H n ∧ Q (.int n) H) gLen := by
  refine ⟨call_len, fun mg E G H ds vs Q s rs q => ?_⟩
  unfold gLen at q
  split at q
  · obtain ⟨x, rfl, a, xs, rfl, h1, r1⟩ := repL1 rs
    exact ⟨.ref a, xs.length, rfl, .inl ⟨xs, .inl (.inl (s _ _ h1)), rfl⟩, RQ.here s q (by rw [r1.length]; rfl)⟩
  · obtain ⟨x, rfl, a, xs, rfl, h1, r1⟩ := repL1 rs
    exact ⟨.ref a, xs.length, rfl, .inr ⟨xs, TupAt.sq (TupAt.mono s h1), rfl⟩, RQ.here s q (by rw [r1.length]; rfl)⟩
  · obtain ⟨x, rfl, rx⟩ := repL1 rs
    cases rx
    obtain ⟨hl, q⟩ := rq_if q
    exact ⟨_, _, rfl, ⟨le_line hl, rfl⟩, RQ.here s q rfl⟩
  · obtain ⟨x, rfl, rx⟩ := repL1 rs
    rcases rx with ⟨e, _⟩ | ⟨ns, p, e, rfl, h1⟩ | ⟨_, _, _, _, e, _⟩ | ⟨m, _, _, _, e, _⟩ | ⟨_, _, _, _, e, _⟩
    · cases e
    rotate_left
    · cases e
    · exact (scr_not e).elim
    · cases e
    · have e' := scr_inv e
      subst e'
      exact ⟨.ref p, _, rfl, .inl ⟨_, Same.seq s h1, rfl⟩, RQ.here s q (by rw [List.length_map, List.length_map]; rfl)⟩
  · exact q.elim
def gAbs : List D → R
  | [.int i] => .ok (.int (if i < 0 then -i else i))
  | _ => .bad
theorem c_abs : CallR X (.builtin "abs") (fun xs H Q => ∃ i, xs = [.int i] ∧ Q (.int (if i < 0 then -i else i)) H) ∧ CallSem X.K (fun xs H Q => ∃ i, xs = [.int i] ∧ Q (.int (if i < 0 then -i else i)) H) gAbs := by
  refine ⟨call_abs, fun mg E G H ds vs Q s rs q => ?_⟩
  unfold gAbs at q
  split at q
  · obtain ⟨x, rfl, rx⟩ := repL1 rs
    cases rx
    exact ⟨_, rfl, RQ.here s q rfl⟩
  · exact q.elim
def gMin2 : List D → R
  | [.int i, .int j] => .ok (.int (if j < i then j else i))
  | _ => .bad
def gMax2 : List D → R
  | [.int i, .int j] => .ok (.int (if j > i then j else i))
  | _ => .bad
theorem c_min2 (hc : X.calm = true) : CallR X (.builtin "min") (fun xs H Q => ∃ i j, xs = [.int i, .int j] ∧ Q (.int (if j < i then j else i)) H) ∧ CallSem X.K (fun xs H Q => ∃ i j, xs = [.int i, .int j] ∧ Q (.int (if j < i then j else i)) H) gMin2 := by
  refine ⟨call_min2 hc, fun mg E G H ds vs Q s rs q => ?_⟩
  unfold gMin2 at q
  split at q
  · obtain ⟨x, y, rfl, rx, ry⟩ := repL2 rs
    cases rx; cases ry
    exact ⟨_, _, rfl, RQ.here s q rfl⟩
  · exact q.elim
theorem c_max2 (hc : X.calm = true) : CallR X (.builtin "max") (fun xs H Q => ∃ i j, xs = [.int i, .int j] ∧ Q (.int (if j > i then j else i)) H) ∧ CallSem X.K (fun xs H Q => ∃ i j, xs = [.int i, .int j] ∧ Q (.int (if j > i then j else i)) H) gMax2 := by
  refine ⟨call_max2 hc, fun mg E G H ds vs Q s rs q => ?_⟩
  unfold gMax2 at q
  split at q
  · obtain ⟨x, y, rfl, rx, ry⟩ := repL2 rs
    cases rx; cases ry
    exact ⟨_, _, rfl, RQ.here s q rfl⟩
  · exact q.elim
def gTuple : List D → R
  | [.list ds] => .ok (.tuple ds)
  | [.tuple ds] => .ok (.tuple ds)
  | _ => .bad
theorem c_tuple : CallR X (.type "tuple") (fun xs H Q => ∃ p ys, xs = [.ref p] ∧ ((SqL X.K H p ys ∧ ∀ l, H l = none → Q (.ref l) (upd H l (.tup ys))) ∨ (SqT X.K H p ys ∧ Q (.ref p) H))) ∧ CallSem X.K (fun xs H Q => ∃ p ys, xs = [.ref p] ∧ ((SqL X.K H p ys ∧ ∀ l, H l = none → Q (.ref l) (upd H l (.tup ys))) ∨ (SqT X.K H p ys ∧ Q (.ref p) H))) gTuple := by
  refine ⟨call_tuple_of, fun mg E G H ds vs Q s rs q => ?_⟩
  unfold gTuple at q
  split at q
  · obtain ⟨x, rfl, a, xs, rfl, h1, r1⟩ := repL1 rs
    exact ⟨a, xs, rfl, .inl ⟨.inl (.inl (s _ _ h1)), fun l hl => rq_tup s r1 q hl⟩⟩
  · obtain ⟨x, rfl, a, xs, rfl, h1, r1⟩ := repL1 rs
    exact ⟨a, xs, rfl, .inr ⟨TupAt.sq (TupAt.mono s h1), RQ.here s q ⟨a, xs, rfl, h1, r1⟩⟩⟩
  · exact q.elim
def gList : List D → R
  | [.list ds] => .new ds
  | [.tuple ds] => .new ds
  | _ => .bad
theorem c_list : CallR X (.type "list") (fun xs H Q => ∃ p ys, xs = [.ref p] ∧ (SqL X.K H p ys ∨ SqT X.K H p ys) ∧ ∀ l, H l = none → Q (.ref l) (upd H l (.lst ys))) ∧ CallSem X.K (fun xs H Q => ∃ p ys, xs = [.ref p] ∧ (SqL X.K H p ys ∨ SqT X.K H p ys) ∧ ∀ l, H l = none → Q (.ref l) (upd H l (.lst ys))) gList := by
  refine ⟨call_list_of, fun mg E G H ds vs Q s rs q => ?_⟩
  unfold gList at q
  split at q
  · obtain ⟨x, rfl, a, xs, rfl, h1, r1⟩ := repL1 rs
    exact ⟨a, xs, rfl, .inl (.inl (.inl (s _ _ h1))), fun l hl => rq_new s r1 q hl⟩
  · obtain ⟨x, rfl, a, xs, rfl, h1, r1⟩ := repL1 rs
    exact ⟨a, xs, rfl, .inr (TupAt.sq (TupAt.mono s h1)), fun l hl => rq_new s r1 q hl⟩
  · exact q.elim
def gInt : List D → R
  | [.int i] => .ok (.int i)
  | [.bool k] => .ok (.int (if k then 1 else 0))
  | [.str z] => if z.length ≤ 640 then (match PySem.intText? z with
    | some n => .ok (.int n)
    | none => .bad) else .bad
  | _ => .bad
abbrev rIntA : List V → Hp → VK → Prop := fun xs H Q => ((∃ i, xs = [.int i] ∧ Q (.int i) H) ∨ ∃ k, xs = [.bl k] ∧ Q (.int (if k then 1 else 0)) H) ∨ ∃ a n, xs = [.str a] ∧ PySem.intText? a = some n ∧ a.length ≤ 640 ∧ Q (.int n) H
theorem call_or {id : Value} {r1 r2 : List V → Hp → VK → Prop} (h1 : CallR X id r1) (h2 : CallR X id r2) : CallR X id (fun xs H Q => r1 xs H Q ∨ r2 xs H Q) := fun pins s σ H xs us Q I rv h => by
  rcases h with h | h
  · exact h1 pins s σ H xs us Q I rv h
  · exact h2 pins s σ H xs us Q I rv h
theorem c_int : CallR X (.type "int") rIntA ∧ CallSem X.K rIntA gInt := by
  refine ⟨call_or call_int1 call_int_str, fun mg E G H ds vs Q s rs q => ?_⟩
  unfold gInt at q
  split at q
  · obtain ⟨x, rfl, rx⟩ := repL1 rs
    cases rx
    exact .inl (.inl ⟨_, rfl, RQ.here s q rfl⟩)
  · obtain ⟨x, rfl, rx⟩ := repL1 rs
    cases rx
    exact .inl (.inr ⟨_, rfl, RQ.here s q rfl⟩)
  · obtain ⟨x, rfl, rx⟩ := repL1 rs
    cases rx
    obtain ⟨hl, q⟩ := rq_if q
    split at q
    · rename_i n hn
      exact .inr ⟨_, n, rfl, hn, hl, RQ.here s q rfl⟩
    · exact q.elim
  · exact q.elim
/-! ### isinstance of built-in types -/
def tyN : D → String
  | .none => "NoneType"
  | .bool _ => "bool"
  | .int _ => "int"
  | .str _ => "str"
  | .list _ => "list"
  | .tuple _ => "tuple"
  | .dict [] => "dict"
  | .dict [(.bool true, .tuple _)] => "tuple"
  | .dict ((.tuple _, _) :: _) => "dict"
  | .dict ((.bool false, _) :: _) => "Rack"
  | .dict _ => "list"
/-- the types that are asked for, of a kept dict too -/
inductive TyD (K : PySem.W.Frag) (H : Hp) : V → Value → Prop where
  | base {x : V} {t : Value} (h : TyOf K H x t) : TyD K H x t
  | kList {a : Addr} {o : Obj} (e : K.lookup a = some o) (c : o.cls = .type "list") : TyD K H (.ref a) (.type "list")
  | fTuple {a : Addr} {o : Obj} {xs : List V} (e : H a = some (.frz o (.tup xs))) : TyD K H (.ref a) (.type "tuple")
  | fDict {a : Addr} {o : Obj} {kvs : List (List Key × V)} (e : H a = some (.frz o (.dT kvs))) : TyD K H (.ref a) (.type "dict")
theorem kit_ofD {pins : List (Addr × Obj)} {σ : L2.St} {H : Hp} {s : Shared} {x : V} {u t : Value} (I : Inv X pins σ H s) (rx : RelV x u) (ty : TyD X.K H x t) : ∃ P : Heap → Prop, PySem.W.KitX X.K u t P ∧ P s.heap ∧ u ≠ .builtin "__main__.__loader__#opaque" := by
  cases ty with
  | base h => exact kit_of I rx (.base h)
  | kList e c => exact kit_of I rx (.kList e c)
  | fTuple e => exact kit_of I rx (.fTuple e)
  | @fDict a ob kvs ea =>
    cases rx
    obtain ⟨_, _, _, xs, _, o, es, ep, h1, h2, _⟩ := I.hok a _ ea
    exact ⟨_, PySem.W.kitx_dict, ⟨o, h1, h2.1⟩, fun z => nomatch z⟩
def rIsiD (K : PySem.W.Frag) : List V → Hp → VK → Prop := fun xs H Q => ∃ (x c : V) (t u : Value) (b : Bool), xs = [x, c] ∧ ClsV c u ∧ TyD K H x t ∧ PySem.W.kitOne K t u = some b ∧ Q (.bl b) H
theorem call_isiD : CallR X (.builtin "isinstance") (rIsiD X.K) := by
  intro pins s σ H xs us Q I r h
  obtain ⟨x, c, t, u, b, rfl, k, ty, e, q⟩ := h
  obtain ⟨u1, u2, rfl, r1, r2⟩ := vals2 r
  have e2 := k.eq r2
  subst e2
  obtain ⟨P, Z, p, hx⟩ := kit_ofD I r1 ty
  exact PySem.W.kia_one Z I.kIn p e hx fun tk => ⟨.bl b, H, I.tok tk, rfl, q⟩
/-- is a thing of that built-in type -/
def isT (T : String) : D → Bool
  | .bool _ => T == "bool" || T == "int"
  | d => T == tyN d
theorem kitB_isT (T : String) (hT : T = "int" ∨ T = "bool" ∨ T = "str" ∨ T = "tuple" ∨ T = "list") (d : D) (hr : tyN d ≠ "Rack") : kitB (tyN d) T = some (isT T d) := by
  have all : ∀ n : String, (n = "NoneType" ∨ n = "int" ∨ n = "str" ∨ n = "list" ∨ n = "tuple" ∨ n = "dict") → kitB n T = some (T == n) := by
    rintro n (rfl | rfl | rfl | rfl | rfl | rfl) <;> rcases hT with rfl | rfl | rfl | rfl | rfl <;> decide +kernel
  cases d with
  | bool b => cases b <;> rcases hT with rfl | rfl | rfl | rfl | rfl <;> decide +kernel
  | none => exact all _ (by simp [tyN])
  | int i => exact all _ (by simp [tyN])
  | str z => exact all _ (by simp [tyN])
  | list ds => exact all _ (by simp [tyN])
  | tuple ds => exact all _ (by simp [tyN])
  | dict kvs =>
    show kitB (tyN (.dict kvs)) T = some (T == tyN (.dict kvs))
    cases kvs with
    | nil => exact all _ (by simp [tyN])
    | cons a b => exact all _ (by unfold tyN at hr ⊢; split at hr <;> first | exact absurd rfl hr | (simp; done) | (rename_i h; cases h))
/-- the type of a thing, with isinstance's answers -/
theorem rep_ty {G : Hp} {d : D} {x : V} (r : Rep K G d x) : ∃ t, TyD K G x t ∧ ∀ T : String, (T = "int" ∨ T = "bool" ∨ T = "str" ∨ T = "tuple" ∨ T = "list") → PySem.W.kitOne K t (.type T) = some (isT T d) := by
  cases d with
  | none => cases r; exact ⟨_, .base .non, fun T hT => kit_ty (kitB_isT T hT .none (show ("NoneType" : String) ≠ "Rack" by decide))⟩
  | bool b => cases r; exact ⟨_, .base (.bl b), fun T hT => kit_ty (kitB_isT T hT (.bool b) (show ("bool" : String) ≠ "Rack" by decide))⟩
  | int i => cases r; exact ⟨_, .base (.int i), fun T hT => kit_ty (kitB_isT T hT (.int i) (show ("int" : String) ≠ "Rack" by decide))⟩
  | str z => cases r; exact ⟨_, .base (.str z), fun T hT => kit_ty (kitB_isT T hT (.str z) (show ("str" : String) ≠ "Rack" by decide))⟩
  | list ds => obtain ⟨a, xs, rfl, h, _⟩ := r; exact ⟨_, .base (.lst h), fun T hT => kit_ty (kitB_isT T hT (.list ds) (show ("list" : String) ≠ "Rack" by decide))⟩
  | tuple ds =>
    obtain ⟨a, xs, rfl, h, _⟩ := r
    rcases h with h | ⟨_, o, _, h⟩
    · exact ⟨_, .base (.tup h), fun T hT => kit_ty (kitB_isT T hT (.tuple ds) (show ("tuple" : String) ≠ "Rack" by decide))⟩
    · exact ⟨_, .fTuple h, fun T hT => kit_ty (kitB_isT T hT (.tuple ds) (show ("tuple" : String) ≠ "Rack" by decide))⟩
  | dict kvs =>
    rcases r with ⟨rfl, a, rfl, h⟩ | ⟨ns, a, rfl, rfl, h⟩ | ⟨_, ns, a, o, rfl, rfl, _, h⟩ | ⟨m, a, o, m0, rfl, rfl, h⟩ | ⟨css, rss, dss, a, rfl, rfl, C, dx, p1, p2, p3, xs1, xs2, xs3, c, e, _⟩
    · exact ⟨_, .base (.dK h), fun T hT => kit_ty (kitB_isT T hT (.dict []) (show ("dict" : String) ≠ "Rack" by decide))⟩
    · have kt := fun T hT => kit_ty (K := K) (kitB_isT T hT (scr ns) (show ("list" : String) ≠ "Rack" by decide))
      rcases h with (h | ⟨o, h⟩) | ⟨o, _, _, h, hc, _⟩
      · exact ⟨_, .base (.lst h), kt⟩
      · exact ⟨_, .base (.frz h), kt⟩
      · exact ⟨_, .kList h hc, kt⟩
    · exact ⟨_, .fTuple h, fun T hT => kit_ty (kitB_isT T hT (fx (ns.map .int)) (show ("tuple" : String) ≠ "Rack" by decide))⟩
    · cases m with
      | nil => exact absurd rfl m0
      | cons p m => exact ⟨_, .fDict h, fun T hT => kit_ty (kitB_isT T hT (.dict (encD (p :: m))) (show ("dict" : String) ≠ "Rack" by decide))⟩
    · refine ⟨_, .base (.ins e c.cl c.ha c.hn c.htk c.hm), fun T hT => ?_⟩
      have s := c.sub T hT
      rcases hT with rfl | rfl | rfl | rfl | rfl
      · show (if PySem.W.kitMeta "int" = true then PySem.W.subIn K (.ref C) (.type "int") else none) = some false
        rw [if_pos (by decide +kernel)]; exact s
      · show (if PySem.W.kitMeta "bool" = true then PySem.W.subIn K (.ref C) (.type "bool") else none) = some false
        rw [if_pos (by decide +kernel)]; exact s
      · show (if PySem.W.kitMeta "str" = true then PySem.W.subIn K (.ref C) (.type "str") else none) = some false
        rw [if_pos (by decide +kernel)]; exact s
      · show (if PySem.W.kitMeta "tuple" = true then PySem.W.subIn K (.ref C) (.type "tuple") else none) = some false
        rw [if_pos (by decide +kernel)]; exact s
      · show (if PySem.W.kitMeta "list" = true then PySem.W.subIn K (.ref C) (.type "list") else none) = some false
        rw [if_pos (by decide +kernel)]; exact s
def fIsi (T : String) (fe : List Sl → R) : List Sl → R := fun δ => (fe δ).bind fun d => .ok (.bool (isT T d))
theorem de_isi {p2 : Pos} {y : Str} (he : DE X W e te fe) (hm : X.mg "isinstance" = none) (hmy : X.mg y = none) (T : String) (hv : bootBuiltins y = some (.type T) := by first | rfl | decide +kernel) (hT : T = "int" ∨ T = "bool" ∨ T = "str" ∨ T = "tuple" ∨ T = "list" := by decide)
    (hg : Gl X "isinstance" := by rfl) (hgy : Gl X y := by rfl) (hvi : bootBuiltins "isinstance" = some (.builtin "isinstance") := by first | rfl | decide +kernel) (hny : y ≠ "__name__" := by decide) (hdy : (y == ("__debug__" : Str)) = false := by decide)
    (h1 : starEach [e, .Name y p2] X.env = (false, eval e X.env) :: starEach [.Name y p2] X.env := by rfl) (h2 : starEach [.Name y p2] X.env = (false, eval (.Name y p2) X.env) :: starEach [] X.env := by rfl) (hpl : (backTo pos (starEach [.Name y p2] X.env)).any (·.1) = false := by rfl) :
    DE X W (.Call (.Name "isinstance" p) [e, .Name y p2] [] pos) (tCB (rIsiD X.K) (tCons te (tCons (tC (.ty T)) tNil))) (fIsi T fe) := by
  refine ⟨pe_callB call_isiD hg hm hvi (pa_cons he.pe (pa_cons (pe_bltn hgy hmy hv rfl hny hdy) pa_nil h2) h1) (by decide) (by decide) h1 hpl, fun H0 G H σ δ Q S q => ?_⟩
  refine he.sem H0 G H σ δ _ S (RQ.bind q fun d v G1 H1 e1 r1 q1 => ?_)
  obtain ⟨t, ty, kt⟩ := rep_ty (Rep.mono e1.s _ _ r1)
  exact ⟨v, .ty T, t, .type T, isT T d, rfl, .ty T, ty, kt T hT, RQ.here e1.s q1 rfl⟩

/-! ### calls of defs -/
def spD (K : PySem.W.Frag) (mg : Str → Option Value) (n : Nat) (f : List D → R) : Sp := fun vs H Q E => vs.length = n ∧ ∃ G ds, Same G H ∧ RepL K G ds vs ∧ RQ K mg E G H Q (f ds)
structure Cal (P : Program) (w : World) (K : PySem.W.Frag) (mg : Str → Option Value) (base : Heap) (k : Nat) (x : Str) (n : Nat) (f : List D → R) : Prop where
  ex : ∃ fa fd ps, ps.length = n ∧ FnOk P w K mg base (L2N.CX P w) k fa fd ps (spD K mg n f) ∧ mg x = some (.ref fa) ∧ PySem.W.keepIn K (.ref fa) = true ∧ Binds K fd ps []
  len : ∀ ds, f ds ≠ .bad → ds.length = n
variable {k n : Nat} {f : List D → R}
theorem de_call (C : Cal X.prog X.w X.K X.mg X.base k x n f) (hr : Room k X.A) (tk : L2N.Takes X W) (ha : DA X W (e :: es) t fa) (hg : Gl X x := by rfl) (hdb : (x == ("__debug__" : Str)) = false := by decide)
    (he : starEach (e :: es) X.env = (false, eval e X.env) :: starEach es X.env := by rfl) (hpl : (backTo pos (starEach es X.env)).any (·.1) = false := by rfl) : DE X W (.Call (.Name x p) (e :: es) [] pos) (tCallS (spD X.K X.mg n f) (WE W) t) (fCall f fa) := by
  obtain ⟨⟨fa', fd, ps, hps, F, hm, hk, hb⟩, hlen⟩ := C
  refine ⟨pe_callS F hr hg hm hk hb (L2N.passAt tk) ha.pa hdb he hpl, fun H0 G H σ δ Q S q => ?_⟩
  refine ha.sem H0 G H σ δ _ S (RL.to_q q fun ds vs G1 H1 e1 r1 q1 => ?_)
  refine ⟨?_, G1, ds, e1.s, r1, q1⟩
  rw [r1.length]
  exact hlen ds fun z => by rw [z] at q1; exact q1
end
end DL
set_option Elab.async false
set_option linter.all false
set_option maxRecDepth 100000
set_option maxHeartbeats 4000000
namespace DL
open PySem PySem.Spec PyProof.Rows L2
variable {K : PySem.W.Frag}

/-! ### what is walked -/
structure Gives K (J : It) (G0 : Hp) (ds : List D) : Prop where
  stop : ∀ i H, Same G0 H → ds.length = i → J.stop i H
  go : ∀ i H, Same G0 H → i < ds.length → J.go i H
  yld : ∀ i G H x H' d, Same G0 G → Same G H → ds[i]? = some d → J.yld i H x H' → ∃ G2, Ext G H G2 H' ∧ Rep K G2 d x
def IQ (K : PySem.W.Frag) (mg : Str → Option Value) (E : XK) (G H : Hp) (Q : It → Hp → Prop) : RL → Prop
  | .ok ds => ∀ J G' H', Ext G H G' H' → Gives K J G' ds → Q J H'
  | .exc c => ∀ G' H' C, Ext G H G' H' → mg c = some (.ref C) → E (.ref C) none H'
  | .bad => False
def SemI (K : PySem.W.Frag) (mg : Str → Option Value) (W : WX) (t : TI) (f : List Sl → RL) : Prop := ∀ H0 G H σ δ Q, St K H0 G H σ δ → IQ K mg (WE W σ) G H Q (f δ) → t σ H Q
structure DI (X : Cx) (W : WX) (tg e : Expr) (t : TI) (f : List Sl → RL) : Prop where
  pi : PI X tg e t
  sem : SemI X.K X.mg W t f
section
variable {X : Cx} {W : WX} {mg : Str → Option Value} {tg e : Expr} {es : List Expr} {te : TE} {fe : List Sl → R} {t : TA} {fa : List Sl → RL} {p pos : Pos}
theorem PI.or {w1 w2 : TI} (h1 : PI X tg e w1) (h2 : PI X tg e w2) : PI X tg e (fun σ H Q => w1 σ H Q ∨ w2 σ H Q) := ⟨fun pins s σ H R I h => by
  rcases h with h | h
  · exact h1.run pins s σ H R I h
  · exact h2.run pins s σ H R I h⟩
def RL.to2 (r : R) (k : D → RL) : RL := match r with
  | .ok d => k d
  | .new ds => k (.list ds)
  | .exc c => .exc c
  | .bad => .bad
theorem to2_q {E : XK} {G H : Hp} {Q : It → Hp → Prop} {Q1 : VK} {r : R} {k : D → RL} (q : IQ K mg E G H Q (RL.to2 r k)) (hk : ∀ d v G1 H1, Ext G H G1 H1 → Rep K G1 d v → IQ K mg E G1 H1 Q (k d) → Q1 v H1) : RQ K mg E G H Q1 r := by
  have tr : ∀ {r : RL} {G1 H1 : Hp}, IQ K mg E G H Q r → Ext G H G1 H1 → IQ K mg E G1 H1 Q r := fun {r G1 H1} q e => by
    cases r with
    | ok d => exact fun v G' H' e' r => q v G' H' (e.trans e') r
    | exc c => exact fun G' H' C e' h => q G' H' C (e.trans e') h
    | bad => exact q
  cases r with
  | ok d => exact fun v G' H' e r => hk d v G' H' e r (tr q e)
  | new ds => exact RQ.freeze fun v G' H' e r => hk _ v G' H' e r (tr q e)
  | exc c => exact q
  | bad => exact q.elim
theorem IQ.trans {E : XK} {Q : It → Hp → Prop} {r : RL} {G H G1 H1 : Hp} (q : IQ K mg E G H Q r) (e : Ext G H G1 H1) : IQ K mg E G1 H1 Q r := by
  cases r with
  | ok d => exact fun v G' H' e' r => q v G' H' (e.trans e') r
  | exc c => exact fun G' H' C e' h => q G' H' C (e.trans e') h
  | bad => exact q
theorem to_i {E : XK} {G H : Hp} {Q : It → Hp → Prop} {Q1 : List V → Hp → Prop} {r : RL} {k : List D → RL} (q : IQ K mg E G H Q (match r with | .ok ds => k ds | .exc c => .exc c | .bad => .bad)) (hk : ∀ ds vs G1 H1, Ext G H G1 H1 → RepL K G1 ds vs → IQ K mg E G1 H1 Q (k ds) → Q1 vs H1) : LQ K mg E G H Q1 r := by
  cases r with
  | ok ds => exact fun vs G' H' e r => hk ds vs G' H' e r (q.trans e)
  | exc c => exact q
  | bad => exact q.elim
theorem IQ.here {E : XK} {G H : Hp} {Q : It → Hp → Prop} {ds : List D} {J : It} (s : Same G H) (q : IQ K mg E G H Q (.ok ds)) (g : Gives K J G ds) : Q J H := q J G H (Ext.refl s) g
/-- a list, a tuple, a text -/
def signs (z : Str) : List D := z.cps.toList.map fun c => .str ⟨#[c]⟩
def seqD : D → RL
  | .list ds => .ok ds
  | .tuple ds => .ok ds
  | .str z => .ok (signs z)
  | _ => .bad
def fSeqI (fe : List Sl → R) : List Sl → RL := fun δ => RL.to2 (fe δ) seqD
theorem sq_inj {K : PySem.W.Frag} {H : Hp} {a : Addr} {xs : List V} (h : H a = some (.lst xs)) : SqL K H a xs := .inl (.inl h)
theorem tq_mk {K : PySem.W.Frag} {H : Hp} {a : Addr} {xs : List V} (h : H a = some (.tup xs)) : SqT K H a xs := .inl (.inl h)
theorem gives_list {K : PySem.W.Frag} {G : Hp} {a : Addr} {xs : List V} {ds : List D} (h : G a = some (.lst xs)) (r : RepL K G ds xs) : Gives K (Itl K a) G ds where
  stop := fun i H s hi => ⟨xs, sq_inj (s _ _ h), by rw [r.length]; exact Nat.le_of_eq hi⟩
  go := fun i H s hi => by
    have hx : i < xs.length := by rw [r.length]; exact hi
    exact ⟨xs, xs[i], sq_inj (s _ _ h), List.getElem?_eq_getElem hx⟩
  yld := fun i G1 H x H' d s1 s2 hd hy => by
    obtain ⟨rfl, hy⟩ := hy
    obtain ⟨x', e, rx⟩ := r.get hd
    have e2 := hy xs (sq_inj (s2 _ _ (s1 _ _ h)))
    rw [e] at e2
    cases e2
    exact ⟨G1, Ext.refl s2, Rep.mono s1 _ _ rx⟩
theorem gives_tup {K : PySem.W.Frag} {G : Hp} {a : Addr} {xs : List V} {ds : List D} (h : TupAt G a xs) (r : RepL K G ds xs) : Gives K (Itt K a) G ds where
  stop := fun i H s hi => ⟨xs, TupAt.sq (TupAt.mono s h), by rw [r.length]; exact Nat.le_of_eq hi⟩
  go := fun i H s hi => by
    have hx : i < xs.length := by rw [r.length]; exact hi
    exact ⟨xs, xs[i], TupAt.sq (TupAt.mono s h), List.getElem?_eq_getElem hx⟩
  yld := fun i G1 H x H' d s1 s2 hd hy => by
    obtain ⟨rfl, hy⟩ := hy
    obtain ⟨x', e, rx⟩ := r.get hd
    have e2 := hy xs (TupAt.sq (TupAt.mono s2 (TupAt.mono s1 h)))
    rw [e] at e2
    cases e2
    exact ⟨G1, Ext.refl s2, Rep.mono s1 _ _ rx⟩
theorem gives_str {G : Hp} {z : Str} : Gives K (Its z) G (signs z) where
  stop := fun i H s hi => by
    replace hi := Nat.le_of_eq hi
    unfold signs at hi
    rw [List.length_map] at hi
    exact hi
  go := fun i H s hi => by
    unfold signs at hi
    rw [List.length_map] at hi
    exact hi
  yld := fun i G1 H x H' d s1 s2 hd hy => by
    obtain ⟨rfl, c, hc, rfl⟩ := hy
    unfold signs at hd
    rw [List.getElem?_map] at hd
    have e : z.cps.toList[i]? = some c := by rw [← hc, Array.getElem?_toList]
    rw [e] at hd
    cases hd
    exact ⟨G1, Ext.refl s2, rfl⟩
abbrev iSeqA (K : PySem.W.Frag) (te : TE) : TI := fun σ H Q => iList K te σ H Q ∨ (fun σ H Q => iTup K te σ H Q ∨ iStr te σ H Q) σ H Q
/-- the walk is chosen by the data, which the state does not tell: three readings in one -/
def iSeqB (K : PySem.W.Frag) (te : TE) : TI := fun σ H Q => te σ H fun v H1 => (∃ a xs, v = .ref a ∧ SqL K H1 a xs ∧ Q (Itl K a) H1) ∨ (∃ a xs, v = .ref a ∧ SqT K H1 a xs ∧ Q (Itt K a) H1) ∨ (∃ z, v = .str z ∧ Q (Its z) H1)
theorem pi_seqB (he : PE X e te) : PI X tg e (iSeqB X.K te) := ⟨fun pins s σ H R I h => by
  refine thn (he.run pins s σ H _ I h) fun v s1 ⟨x, H1, I1, r1, q1⟩ => ?_
  have one : PE X e te := he
  rcases q1 with ⟨a, xs, ea, hq, q⟩ | ⟨a, xs, ea, hq, q⟩ | ⟨z, ez, q⟩
  · subst ea
    cases r1
    obtain ⟨its, rv, pl, hz⟩ := I1.list hq
    refine wpAny_pyIter_list pl.isList ?_
    refine ⟨s1.heap.objs.size, [s1.heap.objs.size], _, _, H1, rfl, I1.kept (t' := s1.toks) fun b o e => Heap.get?_push_of_some _ e, turn_list a _, ⟨_, Heap.get?_push_size _ rfl, rfl, rfl⟩, fun b hb => ?_, q⟩
    have e : b = s1.heap.objs.size := by simpa using hb
    subst e
    exact I1.fpOk (Nat.le_refl _) (I1.hok.fresh (Nat.le_refl _))
  · subst ea
    cases r1
    obtain ⟨its, rv, pl, hz⟩ := I1.tuple hq
    refine wpAny_pyIter_tuple (show s1.heap.IsTuple a its.toArray from pl) ?_
    refine ⟨s1.heap.objs.size, [s1.heap.objs.size], _, _, H1, rfl, I1.kept (t' := s1.toks) fun b o e => Heap.get?_push_of_some _ e, turn_tuple a _, ⟨_, Heap.get?_push_size _ rfl, rfl, rfl⟩, fun b hb => ?_, q⟩
    have e : b = s1.heap.objs.size := by simpa using hb
    subst e
    exact I1.fpOk (Nat.le_refl _) (I1.hok.fresh (Nat.le_refl _))
  · subst ez
    obtain ⟨t, rfl⟩ := r1
    cases ha : z.cps.all (· < 128)
    · exact wpAny_pyIter_wide ha (pi_one (tk := s1.toks) I1 _ (turn_str _ z t "str_iterator" (.inr rfl)) ⟨_, Heap.get?_push_size _ rfl, rfl, rfl⟩ q)
    · exact wpAny_pyIter_ascii ha (pi_one (tk := s1.toks) I1 _ (turn_str _ z t "str_ascii_iterator" (.inl rfl)) ⟨_, Heap.get?_push_size _ rfl, rfl, rfl⟩ q)⟩
theorem di_seq (he : DE X W e te fe) : DI X W tg e (iSeqB X.K te) (fSeqI fe) := ⟨pi_seqB he.pe, fun H0 G H σ δ Q S q => by
  refine he.sem H0 G H σ δ _ S (to2_q q fun d v G1 H1 e1 r1 q1 => ?_)
  unfold seqD at q1
  split at q1
  · obtain ⟨a, xs, rfl, h1, r2⟩ := r1
    exact .inl ⟨a, xs, rfl, .inl (.inl (e1.s _ _ h1)), IQ.here e1.s q1 (gives_list h1 r2)⟩
  · obtain ⟨a, xs, rfl, h1, r2⟩ := r1
    exact .inr (.inl ⟨a, xs, rfl, TupAt.sq (TupAt.mono e1.s h1), IQ.here e1.s q1 (gives_tup h1 r2)⟩)
  · cases r1
    exact .inr (.inr ⟨_, rfl, IQ.here e1.s q1 gives_str⟩)
  · exact q1.elim⟩
/-- ranges -/
def rgD (lo c : Int) (n : Nat) : List D := (List.range n).map fun i => .int (lo + (i : Nat) * c)
theorem rgD_length (lo c : Int) (n : Nat) : (rgD lo c n).length = n := by unfold rgD; rw [List.length_map, List.length_range]
theorem rgD_get {lo c : Int} {n i : Nat} {d : D} (h : (rgD lo c n)[i]? = some d) : d = .int (lo + (i : Nat) * c) ∧ i < n := by
  have hi : i < n := by
    have := (List.getElem?_eq_some_iff.mp h).1
    rw [rgD_length] at this
    exact this
  unfold rgD at h
  rw [List.getElem?_map, List.getElem?_range hi] at h
  cases h
  exact ⟨rfl, hi⟩
theorem gives_itr {G : Hp} {lo : Int} {n : Nat} : Gives K (Itr lo n) G (rgD lo 1 n) where
  stop := fun i H s hi => by
    replace hi := Nat.le_of_eq hi
    rw [rgD_length] at hi; exact hi
  go := fun i H s hi => by rw [rgD_length] at hi; exact hi
  yld := fun i G1 H x H' d s1 s2 hd hy => by
    obtain ⟨rfl, rfl⟩ := hy
    obtain ⟨rfl, _⟩ := rgD_get hd
    exact ⟨G1, Ext.refl s2, by show V.int _ = V.int _; rw [Int.mul_one]⟩
theorem gives_itc {G : Hp} {lo c : Int} {n : Nat} : Gives K (Itc lo c n) G (rgD lo c n) where
  stop := fun i H s hi => by
    replace hi := Nat.le_of_eq hi
    rw [rgD_length] at hi; exact hi
  go := fun i H s hi => by rw [rgD_length] at hi; exact hi
  yld := fun i G1 H x H' d s1 s2 hd hy => by
    obtain ⟨rfl, rfl⟩ := hy
    obtain ⟨rfl, _⟩ := rgD_get hd
    exact ⟨G1, Ext.refl s2, rfl⟩
def BIG : Int := 1000000000000000000
theorem BIG_lt : BIG < 2 ^ 62 := by decide
def rg1 : List D → RL
  | [.int j] => if -BIG ≤ j ∧ j ≤ BIG then .ok (rgD 0 1 j.toNat) else .bad
  | _ => .bad
def rg2 : List D → RL
  | [.int i, .int j] => if -BIG ≤ i ∧ i ≤ BIG ∧ -BIG ≤ j ∧ j ≤ BIG then .ok (rgD i 1 (j - i).toNat) else .bad
  | _ => .bad
def rg3 : List D → RL
  | [.int i, .int j, .int c] => if c = -1 ∧ -BIG ≤ i ∧ i ≤ BIG ∧ -BIG ≤ j ∧ j ≤ BIG then .ok (rgD i (-1) (i - j).toNat) else .bad
  | _ => .bad
def fRg (g : List D → RL) (fa : List Sl → RL) : List Sl → RL := fun δ => match fa δ with
  | .ok ds => g ds
  | .exc c => .exc c
  | .bad => .bad
theorem iq_if {E : XK} {G H : Hp} {Q : It → Hp → Prop} {c : Prop} [Decidable c] {r : RL} (q : IQ K mg E G H Q (if c then r else .bad)) : c ∧ IQ K mg E G H Q r := by
  by_cases h : c
  · rw [if_pos h] at q; exact ⟨h, q⟩
  · rw [if_neg h] at q; exact q.elim
variable {a b c : Expr}
theorem di_range1 (hm : X.mg "range" = none) (ha : DA X W [a] t fa) (hg : Gl X "range" := by rfl) (hs : starEach [a] X.env = [(false, eval a X.env)] := by rfl) : DI X W tg (.Call (.Name "range" p) [a] [] pos) (iRng1 t) (fRg rg1 fa) := ⟨pi_range1 hg hm ha.pa hs, fun H0 G H σ δ Q S q => by
  refine ha.sem H0 G H σ δ _ S (to_i q fun ds vs G1 H1 e1 r1 q1 => ?_)
  have hb := BIG_lt
  unfold rg1 at q1
  split at q1
  · obtain ⟨x, rfl, rx⟩ := repL1 r1
    cases rx
    obtain ⟨hl, q1⟩ := iq_if q1
    exact ⟨_, rfl, by omega, by omega, IQ.here e1.s q1 gives_itr⟩
  · exact q1.elim⟩
theorem di_range2 (hm : X.mg "range" = none) (ha : DA X W [a, b] t fa) (hg : Gl X "range" := by rfl) (hs : starEach [a, b] X.env = [(false, eval a X.env), (false, eval b X.env)] := by rfl) (hs2 : starEach [b] X.env = [(false, eval b X.env)] := by rfl) : DI X W tg (.Call (.Name "range" p) [a, b] [] pos) (iRng2 t) (fRg rg2 fa) := ⟨pi_range2 hg hm ha.pa hs hs2, fun H0 G H σ δ Q S q => by
  refine ha.sem H0 G H σ δ _ S (to_i q fun ds vs G1 H1 e1 r1 q1 => ?_)
  have hb := BIG_lt
  unfold rg2 at q1
  split at q1
  · obtain ⟨x, y, rfl, rx, ry⟩ := repL2 r1
    cases rx; cases ry
    obtain ⟨hl, q1⟩ := iq_if q1
    exact ⟨_, _, rfl, ⟨by omega, by omega, by omega, by omega⟩, IQ.here e1.s q1 gives_itr⟩
  · exact q1.elim⟩
theorem di_range3 (hm : X.mg "range" = none) (ha : DA X W [a, b, c] t fa) (hg : Gl X "range" := by rfl) (hs : starEach [a, b, c] X.env = (false, eval a X.env) :: starEach [b, c] X.env := by rfl) (hpl : (backTo pos (starEach [b, c] X.env)).any (·.1) = false := by rfl) : DI X W tg (.Call (.Name "range" p) [a, b, c] [] pos) (iRng3 t) (fRg rg3 fa) := ⟨pi_range3 hg hm ha.pa hs hpl, fun H0 G H σ δ Q S q => by
  refine ha.sem H0 G H σ δ _ S (to_i q fun ds vs G1 H1 e1 r1 q1 => ?_)
  have hb := BIG_lt
  unfold rg3 at q1
  split at q1
  · obtain ⟨x, vs', rfl, rx, r2⟩ := r1
    obtain ⟨y, z, rfl, ry, rz⟩ := repL2 r2
    cases rx; cases ry; cases rz
    obtain ⟨⟨hc, hl⟩, q2⟩ := iq_if q1
    clear q1
    subst hc
    exact ⟨_, _, _, _, rfl, RgC.neg (by omega) (by omega) (by omega) (by omega), IQ.here e1.s q2 gives_itc⟩
  · exact q1.elim⟩
/-- reversed of a list, of a tuple -/
def revD : D → RL
  | .list ds => .ok ds.reverse
  | .tuple ds => .ok ds.reverse
  | _ => .bad
theorem rev_get {α : Type} {xs : List α} {i : Nat} (h : i < xs.length) : xs.reverse[i]? = xs[xs.length - 1 - i]? := by
  rw [List.getElem?_reverse h]
theorem gives_rev {K : PySem.W.Frag} {G : Hp} {a : Addr} {xs : List V} {ds : List D} (h : G a = some (.lst xs)) (r : RepL K G ds xs) : Gives K (Itv K a xs.length) G ds.reverse where
  stop := fun i H s hi => by
    replace hi := Nat.le_of_eq hi
    rw [List.length_reverse, ← r.length] at hi; exact hi
  go := fun i H s hi => by
    rw [List.length_reverse, ← r.length] at hi
    have hx : xs.length - 1 - i < xs.length := by omega
    exact ⟨hi, xs, xs[xs.length - 1 - i], sq_inj (s _ _ h), List.getElem?_eq_getElem hx⟩
  yld := fun i G1 H x H' d s1 s2 hd hy => by
    obtain ⟨rfl, hy⟩ := hy
    have hi : i < ds.length := by have := (List.getElem?_eq_some_iff.mp hd).1; rwa [List.length_reverse] at this
    rw [rev_get hi] at hd
    obtain ⟨x', e, rx⟩ := r.get hd
    have e2 := hy xs (sq_inj (s2 _ _ (s1 _ _ h)))
    rw [r.length, e] at e2
    cases e2
    exact ⟨G1, Ext.refl s2, Rep.mono s1 _ _ rx⟩
theorem gives_revT {K : PySem.W.Frag} {G : Hp} {a : Addr} {xs : List V} {ds : List D} (h : TupAt G a xs) (r : RepL K G ds xs) : Gives K (RT.ItvT K a xs.length) G ds.reverse where
  stop := fun i H s hi => by
    replace hi := Nat.le_of_eq hi
    rw [List.length_reverse, ← r.length] at hi; exact hi
  go := fun i H s hi => by
    rw [List.length_reverse, ← r.length] at hi
    have hx : xs.length - 1 - i < xs.length := by omega
    exact ⟨hi, xs, xs[xs.length - 1 - i], TupAt.sq (TupAt.mono s h), List.getElem?_eq_getElem hx⟩
  yld := fun i G1 H x H' d s1 s2 hd hy => by
    obtain ⟨rfl, hy⟩ := hy
    have hi : i < ds.length := by have := (List.getElem?_eq_some_iff.mp hd).1; rwa [List.length_reverse] at this
    rw [rev_get hi] at hd
    obtain ⟨x', e, rx⟩ := r.get hd
    have e2 := hy xs (TupAt.sq (TupAt.mono s2 (TupAt.mono s1 h)))
    rw [r.length, e] at e2
    cases e2
    exact ⟨G1, Ext.refl s2, Rep.mono s1 _ _ rx⟩
def fRevI (fe : List Sl → R) : List Sl → RL := fun δ => RL.to2 (fe δ) revD
theorem di_rev (hm : X.mg "reversed" = none) (he : DE X W e te fe) (hg : Gl X "reversed" := by rfl) (hs : starEach [e] X.env = (false, eval e X.env) :: starEach [] X.env := by rfl) : DI X W tg (.Call (.Name "reversed" p) [e] [] pos) (RT.iRevA X.K te) (fRevI fe) := ⟨RT.pi_revA hg hm he.pe hs, fun H0 G H σ δ Q S q => by
  refine he.sem H0 G H σ δ _ S (to2_q q fun d v G1 H1 e1 r1 q1 => ?_)
  unfold revD at q1
  split at q1
  · obtain ⟨a, xs, rfl, h1, r2⟩ := r1
    exact ⟨a, xs, rfl, .inl ⟨.inl (.inl (e1.s _ _ h1)), IQ.here e1.s q1 (gives_rev h1 r2)⟩⟩
  · obtain ⟨a, xs, rfl, h1, r2⟩ := r1
    exact ⟨a, xs, rfl, .inr ⟨TupAt.sq (TupAt.mono e1.s h1), IQ.here e1.s q1 (gives_revT h1 r2)⟩⟩
  · exact q1.elim⟩
end
end DL
set_option Elab.async false
set_option linter.all false
set_option maxRecDepth 100000
set_option maxHeartbeats 4000000
namespace DL
open PySem PySem.Spec PyProof.Rows L2
variable {K : PySem.W.Frag}

/-! ### targets -/
def SemG (K : PySem.W.Frag) (g : TG) (set : D → List Sl → Option (List Sl)) : Prop := ∀ H0 G H σ δ v d (Q : L2.St → Hp → Prop), St K H0 G H σ δ → Rep K G d v → (∀ δ' σ', set d δ = some δ' → St K H0 G H σ' δ' → Q σ' H) → (set d δ ≠ none) → g v σ H Q
structure DG (X : Cx) (tg : Expr) (g : TG) (set : D → List Sl → Option (List Sl)) : Prop where
  pg : PG X tg g
  sem : SemG X.K g set
def setN (i : Nat) : D → List Sl → Option (List Sl) := fun d δ => some (δ.set i (.v d))
theorem get_set {α : Type} {l : List α} {i j : Nat} {x y : α} (h : (l.set i x)[j]? = some y) : (i = j ∧ y = x ∧ i < l.length) ∨ (i ≠ j ∧ l[j]? = some y) := by
  by_cases e : i = j
  · subst e
    by_cases hi : i < l.length
    · rw [List.getElem?_set_self hi] at h
      cases h
      exact .inl ⟨rfl, rfl, hi⟩
    · rw [List.getElem?_eq_none (by simpa using hi)] at h
      cases h
  · rw [List.getElem?_set_ne e] at h
    exact .inr ⟨e, h⟩
theorem St.setv {H0 G H : Hp} {σ : L2.St} {δ : List Sl} {i : Nat} {v : V} {d : D} (S : St K H0 G H σ δ) (r : Rep K G d v) : St K H0 G H (σ.set i (some v)) (δ.set i (.v d)) :=
  ⟨S.s, S.b, by rw [List.length_set, List.length_set]; exact S.l, fun j s o h1 h2 => by
    rcases get_set h1 with ⟨rfl, rfl, _⟩ | ⟨n1, h1⟩
    · rcases get_set h2 with ⟨_, rfl, _⟩ | ⟨n2, _⟩
      · exact ⟨v, rfl, r⟩
      · exact absurd rfl n2
    · rcases get_set h2 with ⟨e, _, _⟩ | ⟨n2, h2⟩
      · exact absurd e n1
      · exact S.r j s o h1 h2, fun j k ds es p njk h1 h2 h3 h4 => by
    rcases get_set h1 with ⟨_, e, _⟩ | ⟨n1, h1⟩
    · cases e
    · rcases get_set h2 with ⟨_, e, _⟩ | ⟨n2, h2⟩
      · cases e
      · rcases get_set h3 with ⟨e, _, _⟩ | ⟨_, h3⟩
        · exact n1 e
        · rcases get_set h4 with ⟨e, _, _⟩ | ⟨_, h4⟩
          · exact n2 e
          · exact S.ap j k ds es p njk h1 h2 h3 h4⟩
theorem St.setun {H0 G H : Hp} {σ : L2.St} {δ : List Sl} {i : Nat} {o' : Option V} (S : St K H0 G H σ δ) : St K H0 G H (σ.set i o') (δ.set i .un) :=
  ⟨S.s, S.b, by rw [List.length_set, List.length_set]; exact S.l, fun j s o h1 h2 => by
    rcases get_set h1 with ⟨rfl, rfl, _⟩ | ⟨n1, h1⟩
    · trivial
    · rcases get_set h2 with ⟨e, _, _⟩ | ⟨n2, h2⟩
      · exact absurd e n1
      · exact S.r j s o h1 h2, fun j k ds es p njk h1 h2 h3 h4 => by
    rcases get_set h1 with ⟨_, e, _⟩ | ⟨n1, h1⟩
    · cases e
    · rcases get_set h2 with ⟨_, e, _⟩ | ⟨n2, h2⟩
      · cases e
      · rcases get_set h3 with ⟨e, _, _⟩ | ⟨_, h3⟩
        · exact n1 e
        · rcases get_set h4 with ⟨e, _, _⟩ | ⟨_, h4⟩
          · exact n2 e
          · exact S.ap j k ds es p njk h1 h2 h3 h4⟩
section
variable {X : Cx} {W : WX} {mg : Str → Option Value} {e : Expr} {pos : Pos}
theorem dg_name (i : Nat) {x : Str} (hN : X.N.Nodup) (hi : X.N[i]? = some x := by rfl) (hx : Loc X.env.scope x := by first | exact .inl rfl | exact .inr rfl) (hf : X.fn x = true ∨ X.env.scope.names.lookup x = some .local := by first | exact .inl rfl | exact .inr rfl) : DG X (.Name x pos) (gName i) (setN i) :=
  ⟨pg_name hN hi hx hf, fun H0 G H σ δ v d Q S r q _ => q _ _ rfl (S.setv r)⟩
/-- a, b, .. = a tuple of that length: names in their order -/
def setNs : List Nat → List D → List Sl → Option (List Sl)
  | [], [], δ => some δ
  | i :: is, d :: ds, δ => setNs is ds (δ.set i (.v d))
  | _, _, _ => none
def gNames : List Nat → TGs
  | [] => gNil
  | i :: is => gCons (gName i) (gNames is)
structure DGs (X : Cx) (es : List Expr) (is : List Nat) : Prop where
  pgs : PGs X es (gNames is)
theorem dgs_nil : DGs X [] [] := ⟨pgs_nil⟩
theorem dgs_cons (i : Nat) {x : Str} {es : List Expr} {is : List Nat} (hN : X.N.Nodup) (h : DGs X es is) (hi : X.N[i]? = some x := by rfl) (hx : Loc X.env.scope x := by first | exact .inl rfl | exact .inr rfl) (hf : X.fn x = true ∨ X.env.scope.names.lookup x = some .local := by first | exact .inl rfl | exact .inr rfl)
    (hs : (assignEach (.Name x pos :: es) X.env).map (·.2) = assign (.Name x pos) X.env :: (assignEach es X.env).map (·.2) := by rfl) : DGs X (.Name x pos :: es) (i :: is) := ⟨pgs_cons (pg_name hN hi hx hf) h.pgs hs⟩
theorem gNames_sem {H0 G H : Hp} : ∀ {is : List Nat} {ds : List D} {vs : List V} {σ : L2.St} {δ : List Sl} {Q : L2.St → Hp → Prop}, St K H0 G H σ δ → RepL K G ds vs → (∀ δ' σ', setNs is ds δ = some δ' → St K H0 G H σ' δ' → Q σ' H) → setNs is ds δ ≠ none → gNames is vs σ H Q
  | [], [], _, _, _, _, S, r, q, _ => by cases r; exact ⟨rfl, q _ _ rfl S⟩
  | [], _ :: _, _, _, _, _, _, _, _, h => absurd rfl h
  | _ :: _, [], _, _, _, _, _, _, _, h => absurd rfl h
  | i :: is, d :: ds, _, σ, δ, Q, S, r, q, h => by
    obtain ⟨x, t, rfl, r1, r2⟩ := r
    exact ⟨x, t, rfl, gNames_sem (S.setv r1) r2 q h⟩
theorem setNs_len : ∀ {is : List Nat} {ds : List D} {δ : List Sl}, setNs is ds δ ≠ none → ds.length = is.length
  | [], [], _, _ => rfl
  | [], _ :: _, _, h => absurd rfl h
  | _ :: _, [], _, h => absurd rfl h
  | _ :: is, _ :: ds, _, h => by rw [List.length_cons, List.length_cons, setNs_len (is := is) (ds := ds) h]
def setT (is : List Nat) : D → List Sl → Option (List Sl)
  | .tuple ds, δ => setNs is ds δ
  | _, _ => none
theorem dg_tup {es : List Expr} {kk : Nat} {is : List Nat} (hc : X.calm = true) (h : DGs X es is) (hn : (assignEach es X.env).length = is.length := by rfl) (hst : (assignEach es X.env).findIdx? (·.1) = none := by rfl) :
    DG X (.Tuple es kk pos) (gTup X.K is.length (gNames is)) (setT is) := ⟨pg_tup hc h.pgs hn hst, fun H0 G H σ δ v d Q S r q hne => by
  cases d with
  | tuple ds =>
    obtain ⟨a, xs, rfl, h1, r2⟩ := r
    exact ⟨a, xs, rfl, TupAt.sq (TupAt.mono S.s h1), by rw [r2.length]; exact setNs_len hne, gNames_sem S r2 q hne⟩
  | _ => exact absurd rfl hne⟩

/-! ### list comprehensions -/
def wipeD (δ : List Sl) : List Nat → List Sl
  | [] => δ
  | v :: vs => (wipeD δ vs).set v .un
theorem St.wipe {H0 G H : Hp} {σ : L2.St} {δ : List Sl} (S : St K H0 G H σ δ) : ∀ vs, St K H0 G H (L2.wipe σ vs) (wipeD δ vs)
  | [] => S
  | v :: vs => (St.wipe S vs).setun
/-- the targets are among what is wiped -/
def SemGW (K : PySem.W.Frag) (g : TG) (set : D → List Sl → Option (List Sl)) (vs : List Nat) : Prop := ∀ H0 G H σ δ v d (Q : L2.St → Hp → Prop), St K H0 G H σ δ → Rep K G d v → (∀ δ' σ', set d δ = some δ' → St K H0 G H σ' δ' → L2.wipe σ' vs = L2.wipe σ vs → Q σ' H) → (set d δ ≠ none) → g v σ H Q
theorem set_set_at {α : Type} (l : List α) (i : Nat) (a b : α) : (l.set i a).set i b = l.set i b := by simp
theorem wipe_set {i : Nat} {o : Option V} : ∀ {vs : List Nat} {σ : L2.St}, i ∈ vs → L2.wipe (σ.set i o) vs = L2.wipe σ vs
  | [], _, h => by cases h
  | v :: vs, σ, h => by
    unfold L2.wipe
    by_cases hi : i ∈ vs
    · rw [wipe_set hi]
    · have e : i = v := by
        rcases List.mem_cons.mp h with e | e
        · exact e
        · exact absurd e hi
      subst e
      have w : ∀ (us : List Nat), i ∉ us → L2.wipe (σ.set i o) us = (L2.wipe σ us).set i o := by
        intro us
        induction us with
        | nil => intro _; rfl
        | cons u us ih =>
          intro hu
          unfold L2.wipe
          rw [ih fun z => hu (List.mem_cons_of_mem _ z), List.set_comm _ _ (fun z => hu (by rw [z]; exact List.mem_cons_self))]
      rw [w vs hi, set_set_at]
theorem gw_name {i : Nat} {vs : List Nat} (h : i ∈ vs) : SemGW K (gName i) (setN i) vs := fun H0 G H σ δ v d Q S r q _ => q _ _ rfl (S.setv r) (wipe_set h)
theorem gNames_w {H0 G H : Hp} {ws : List Nat} {σ0 : L2.St} : ∀ {is : List Nat} {ds : List D} {vs : List V} {σ : L2.St} {δ : List Sl} {Q : L2.St → Hp → Prop}, (∀ i ∈ is, i ∈ ws) → L2.wipe σ ws = L2.wipe σ0 ws → St K H0 G H σ δ → RepL K G ds vs → (∀ δ' σ', setNs is ds δ = some δ' → St K H0 G H σ' δ' → L2.wipe σ' ws = L2.wipe σ0 ws → Q σ' H) → setNs is ds δ ≠ none → gNames is vs σ H Q
  | [], [], _, _, _, _, _, e, S, r, q, _ => by cases r; exact ⟨rfl, q _ _ rfl S e⟩
  | [], _ :: _, _, _, _, _, _, _, _, _, _, h => absurd rfl h
  | _ :: _, [], _, _, _, _, _, _, _, _, _, h => absurd rfl h
  | i :: is, d :: ds, _, σ, δ, Q, hi, e, S, r, q, h => by
    obtain ⟨x, t, rfl, r1, r2⟩ := r
    exact ⟨x, t, rfl, gNames_w (fun j hj => hi j (List.mem_cons_of_mem _ hj)) ((wipe_set (hi i List.mem_cons_self)).trans e) (S.setv r1) r2 q h⟩
theorem gw_tup {K : PySem.W.Frag} {is vs : List Nat} (h : ∀ i ∈ is, i ∈ vs) : SemGW K (gTup K is.length (gNames is)) (setT is) vs := fun H0 G H σ δ v d Q S r q hne => by
  cases d with
  | tuple ds =>
    obtain ⟨a, xs, rfl, h1, r2⟩ := r
    exact ⟨a, xs, rfl, TupAt.sq (TupAt.mono S.s h1), by rw [r2.length]; exact setNs_len hne, gNames_w h rfl S r2 q hne⟩
  | _ => exact absurd rfl hne
def lcStep (set : D → List Sl → Option (List Sl)) (ft fe : List Sl → R) (δ : List Sl) (d : D) : Option (Option D) := match set d δ with
  | none => none
  | some δ' => match ft δ' with
    | .ok (.bool true) => (match fe δ' with
      | .ok y => some (some y)
      | .new ys => some (some (.list ys))
      | _ => none)
    | .ok (.bool false) => some none
    | _ => none
def lcGo (step : D → Option (Option D)) : List D → Option (List D)
  | [] => some []
  | d :: ds => match step d with
    | none => none
    | some none => lcGo step ds
    | some (some y) => (lcGo step ds).map (y :: ·)
theorem lcGo_len (step : D → Option (Option D)) : ∀ (ds r : List D), lcGo step ds = some r → r.length ≤ ds.length
  | [], r, h => by cases h; exact Nat.le_refl _
  | d :: ds, r, h => by
    unfold lcGo at h
    split at h
    · cases h
    · exact Nat.le_succ_of_le (lcGo_len step ds r h)
    · cases e : lcGo step ds with
      | none => rw [e] at h; cases h
      | some r' =>
        rw [e] at h
        cases h
        exact Nat.succ_le_succ (lcGo_len step ds r' e)
def fLc (fi : List Sl → RL) (set : D → List Sl → Option (List Sl)) (ft fe : List Sl → R) (vs : List Nat) : List Sl → R := fun δ => match fi δ with
  | .ok ds => (match lcGo (lcStep set ft fe (wipeD δ vs)) ds with
    | some r => if ds.length ≤ LIM then .new r else .bad
    | none => .bad)
  | .exc c => .exc c
  | .bad => .bad
abbrev W0 : WX := fun _ _ _ _ => False
def SemTs (K : PySem.W.Frag) (mg : Str → Option Value) (t : TT) (f : List Sl → R) : Prop := SemT K mg W0 t f
theorem sem_yes : SemT K mg W0 tYes (fC (.bool true)) := fun H0 G H σ δ Q S q => TQ.here S.s q
theorem sem_lc {wi : TI} {g : TG} {tt : TT} {te : TE} {vs : List Nat} {fi : List Sl → RL} {set : D → List Sl → Option (List Sl)} {ft fe : List Sl → R} (hi : SemI K mg W wi fi) (hg : SemGW K g set vs) (ht : SemT K mg W0 tt ft) (he : SemE K mg W0 te fe) :
    SemE K mg W (tLc wi g tt te vs) (fLc fi set ft fe vs) := fun H0 G H σ δ Q S q => by
  refine hi H0 G H σ δ _ S ?_
  unfold fLc at q
  split at q
  · rename_i ds hds
    rw [hds]
    intro J G1 H1 e1 gv
    split at q
    · rename_i r hr
      obtain ⟨hl, q⟩ := rq_if q
      have S1 := S.go e1
      intro Dl hD
      refine ⟨fun i m H' => i ≤ ds.length ∧ m = ds.length - i ∧ ∃ G2 acc ad rest, Ext G1 H1 G2 H' ∧ G2 Dl = none ∧ H' Dl = some (.lst acc) ∧ RepL K G2 ad acc ∧ lcGo (lcStep set ft fe (wipeD δ vs)) (ds.drop i) = some rest ∧ r = ad ++ rest ∧ ad.length ≤ i, ⟨_, Nat.zero_le _, rfl, G1, [], [], r, Ext.own e1.s hD, Same.free e1.s hD, upd_same, rfl, by rw [List.drop_zero]; exact hr, rfl, Nat.le_refl _⟩, ?_⟩
      rintro i m H' ⟨hle, rfl, G2, acc, ad, rest, e2, g2, hacc, ra, hrest, er, had⟩
      have S2 := S1.go e2
      by_cases hi : i < ds.length
      · refine .inr ⟨gv.go i H' (e2.g.trans e2.s) hi, _, fun H'' n => ⟨ds.length - (i + 1), by omega, n⟩, fun x H3 hy => ?_⟩
        have hd : ds[i]? = some ds[i] := List.getElem?_eq_getElem hi
        obtain ⟨G3, e3, rx⟩ := gv.yld i G2 H' x H3 _ e2.g e2.s hd hy
        have edrop : ds.drop i = ds[i] :: ds.drop (i + 1) := (List.getElem_cons_drop hi).symm
        rw [edrop] at hrest
        unfold lcGo at hrest
        have S3 := (S2.go e3).wipe vs
        cases hs : set ds[i] (wipeD δ vs) with
        | none =>
          have z : lcStep set ft fe (wipeD δ vs) ds[i] = none := by unfold lcStep; rw [hs]
          rw [z] at hrest; cases hrest
        | some δ' =>
          refine hg H0 G3 H3 _ (wipeD δ vs) x ds[i] _ S3 rx (fun δ'' σ' e' S4 hw => ?_) (by rw [hs]; exact fun z => nomatch z)
          rw [hs] at e'
          cases e'
          refine ⟨?_, ?_⟩
          · rw [hw]
            have ww : ∀ us : List Nat, (∀ u ∈ us, u ∈ vs) → L2.wipe (L2.wipe σ us) vs = L2.wipe σ vs := by
              intro us
              induction us with
              | nil => intro _; rfl
              | cons u us ih =>
                intro hu
                show L2.wipe ((L2.wipe σ us).set u none) vs = _
                rw [wipe_set (hu u List.mem_cons_self)]
                exact ih fun z hz => hu z (List.mem_cons_of_mem _ hz)
            exact ww vs fun _ h => h
          · have g3 : G3 Dl = none := e3.n Dl g2 (mut_lst hacc)
            have h3 : H3 Dl = some (.lst acc) := e3.h _ _ hacc
            refine ht H0 G3 H3 σ' δ' _ S4 ?_
            have hstep : lcStep set ft fe (wipeD δ vs) ds[i] = (match ft δ' with
              | .ok (.bool true) => (match fe δ' with
                | .ok y => some (some y)
                | .new ys => some (some (.list ys))
                | _ => none)
              | .ok (.bool false) => some none
              | _ => none) := by
              unfold lcStep
              rw [hs]
            rw [hstep] at hrest
            split at hrest
            · cases hrest
            · rename_i z
              split at z
              · split at z <;> cases z
              · rename_i hft
                rw [hft]
                intro G4 H4 e4
                refine iteF ⟨by omega, rfl, G4, acc, ad, rest, (e2.trans e3).trans e4, e4.n Dl g3 (mut_lst h3), e4.h _ _ h3, RepL.mono (e3.g.trans e4.g) _ _ ra, hrest, er, by omega⟩
              · cases z
            · rename_i y z
              split at z
              · rename_i hft
                rw [hft]
                intro G4 H4 e4
                refine iteT ?_
                have S5 := S4.go e4
                cases hr2 : lcGo (lcStep set ft fe (wipeD δ vs)) (ds.drop (i + 1)) with
                | none => rw [hr2] at hrest; cases hrest
                | some r2 =>
                  rw [hr2] at hrest
                  cases hrest
                  have fin : ∀ v G5 H5, Ext G4 H4 G5 H5 → Rep K G5 y v → ∃ acc, H5 Dl = some (.lst acc) ∧ acc.length < sizeLine ∧ (i + 1 ≤ ds.length ∧ ds.length - (i + 1) = ds.length - (i + 1) ∧ ∃ G2 acc_1 ad rest, Ext G1 H1 G2 (upd H5 Dl (.lst (acc ++ [v]))) ∧ G2 Dl = none ∧ (upd H5 Dl (.lst (acc ++ [v]))) Dl = some (.lst acc_1) ∧ RepL K G2 ad acc_1 ∧ lcGo (lcStep set ft fe (wipeD δ vs)) (ds.drop (i + 1)) = some rest ∧ r = ad ++ rest ∧ ad.length ≤ i + 1) := fun v G5 H5 e5 rv => by
                    have e45 := e4.trans e5
                    have h5 : H5 Dl = some (.lst acc) := e45.h _ _ h3
                    have g5 : G5 Dl = none := e45.n Dl g3 (mut_lst h3)
                    refine ⟨acc, h5, lt_line (by rw [ra.length]; omega), hi, rfl, G5, acc ++ [v], ad ++ [y], r2, ?_, g5, upd_same, RepL.append (RepL.mono (e3.g.trans e45.g) _ _ ra) (.one rv), hr2, ?_, ?_⟩
                    · have e15 := (e2.trans e3).trans e45
                      exact ⟨e15.g, fun b o q' => by rw [upd_ne (ne_of_none q' hD)]; exact e15.h b o q', fun b o q' => by rw [upd_ne (ne_of_none q' g5)]; exact e15.s b o q', e15.n⟩
                    · rw [er, List.append_assoc]; rfl
                    · rw [List.length_append]; show ad.length + 1 ≤ _; omega
                  refine he H0 G4 H4 σ' δ' _ S5 ?_
                  split at z
                  · rename_i y' hfe
                    cases z
                    rw [hfe]
                    exact fun v G5 H5 e5 rv => fin v G5 H5 e5 rv
                  · rename_i ys hfe
                    cases z
                    rw [hfe]
                    exact RQ.freeze fun v G5 H5 e5 rv => fin v G5 H5 e5 rv
                  · cases z
              · cases z
              · cases z
      · have e : i = ds.length := by omega
        subst e
        rw [List.drop_length] at hrest
        cases hrest
        rw [List.append_nil] at er
        subst er
        refine .inl ⟨gv.stop _ H' (e2.g.trans e2.s) rfl, ?_⟩
        exact q Dl acc G2 H' (e1.trans e2) (Same.free e1.h hD) g2 hacc ra
    · exact q.elim
  · rename_i c hc
    rw [hc]
    exact q
  · exact q.elim
end
end DL
set_option Elab.async false
set_option linter.all false
set_option maxRecDepth 100000
set_option maxHeartbeats 4000000
namespace DL
open PySem PySem.Spec PyProof.Rows L2
variable {K : PySem.W.Frag}

/-! ### statements -/
inductive Fl where
  | nx (δ : List Sl) | bk (δ : List Sl) | ct (δ : List Sl) | rt (d : D) | rn (ds : List D) | exc (c : Str) (δ : List Sl) | bad
def SSt (K : PySem.W.Frag) (G0 H0 H : Hp) (σ : L2.St) (δ : List Sl) : Prop := ∃ G, Ext G0 H0 G H ∧ St K H0 G H σ δ
def FQ (K : PySem.W.Frag) (mg : Str → Option Value) (W : WX) (D : Ends) (G0 H0 : Hp) : Fl → Prop
  | .nx δ => ∀ σ' H', SSt K G0 H0 H' σ' δ → D.nx σ' H'
  | .bk δ => ∀ σ' H', SSt K G0 H0 H' σ' δ → D.bk σ' H'
  | .ct δ => ∀ σ' H', SSt K G0 H0 H' σ' δ → D.ct σ' H'
  | .rt d => ∀ v G' H', Ext G0 H0 G' H' → Rep K G' d v → D.rt v H'
  | .rn ds => ∀ p xs G' H', Ext G0 H0 G' H' → H0 p = none → G' p = none → H' p = some (.lst xs) → RepL K G' ds xs → D.rt (.ref p) H'
  | .exc c δ => ∀ σ' H' C, SSt K G0 H0 H' σ' δ → mg c = some (.ref C) → W (.ref C) none σ' H'
  | .bad => False
def SemS (K : PySem.W.Frag) (mg : Str → Option Value) (W : WX) (t : TS) (F : List Sl → Fl) : Prop := ∀ G0 H0 D H σ δ, SSt K G0 H0 H σ δ → FQ K mg W D G0 H0 (F δ) → t D σ H
structure DS (X : Cx) (W : WX) (st : Stmt) (t : TS) (F : List Sl → Fl) : Prop where
  ps : PS X st t
  sem : SemS X.K X.mg W t F
structure DSs (X : Cx) (W : WX) (st : List Stmt) (t : TS) (F : List Sl → Fl) : Prop where
  pss : PSs X st t
  sem : SemS X.K X.mg W t F
def Fl.andThen : Fl → (List Sl → Fl) → Fl
  | .nx δ, k => k δ
  | f, _ => f
section
variable {X : Cx} {W : WX} {mg : Str → Option Value} {st : Stmt} {rest : List Stmt} {t u : TS} {F F2 : List Sl → Fl} {e : Expr} {te : TE} {fe : List Sl → R} {pos : Pos}
theorem dss_nil : DSs X W [] tNext .nx := ⟨pss_nil, fun G0 H0 D H σ δ S q => q _ _ S⟩
theorem sem_seq (h1 : SemS K mg W t F) (h2 : SemS K mg W u F2) : SemS K mg W (tSeq t u) (fun δ => (F δ).andThen F2) := fun G0 H0 D H σ δ S q => by
  refine h1 G0 H0 { D with nx := u D } H σ δ S ?_
  show FQ K mg W { D with nx := u D } G0 H0 (F δ)
  have q' : FQ K mg W D G0 H0 ((F δ).andThen F2) := q
  cases hf : F δ with
  | nx δ' =>
    rw [hf] at q'
    exact fun σ' H' S' => h2 G0 H0 D H' σ' δ' S' q'
  | bk δ' => rw [hf] at q'; exact q'
  | ct δ' => rw [hf] at q'; exact q'
  | rt d => rw [hf] at q'; exact q'
  | rn d => rw [hf] at q'; exact q'
  | exc c d => rw [hf] at q'; exact q'
  | bad => rw [hf] at q'; exact q'
theorem dss_cons (h1 : DS X W st t F) (h2 : DSs X W rest u F2) : DSs X W (st :: rest) (tSeq t u) (fun δ => (F δ).andThen F2) := ⟨pss_cons h1.ps h2.pss, sem_seq h1.sem h2.sem⟩
theorem dss_one (h1 : DS X W st t F) : DSs X W [st] t F := ⟨pss_one h1.ps, h1.sem⟩
theorem ds_pass : DS X W (.Pass pos) tNext .nx := ⟨ps_pass, fun G0 H0 D H σ δ S q => q _ _ S⟩
theorem ds_break : DS X W (.Break pos) tBreak .bk := ⟨ps_break, fun G0 H0 D H σ δ S q => q _ _ S⟩
theorem ds_continue : DS X W (.Continue pos) tCont .ct := ⟨ps_continue, fun G0 H0 D H σ δ S q => q _ _ S⟩
theorem ds_never : DS X W st tNever (fun _ => .bad) := ⟨ps_never, fun G0 H0 D H σ δ S q => q⟩
theorem dss_never : DSs X W rest tNever (fun _ => .bad) := ⟨pss_never, fun G0 H0 D H σ δ S q => q⟩

/-! ### heaps with the tuples of another -/
def tupsOf (G H' : Hp) : Hp := fun a => match H' a with
  | some (.tup xs) => some (.tup xs)
  | some (.frz o u) => some (.frz o u)
  | _ => G a
theorem tupsOf_ext {G H H' : Hp} (s : Same G H) (h : Same H H') : Ext G H (tupsOf G H') H' where
  g := fun a o e => by
    have e' := h a o (s a o e)
    unfold tupsOf
    cases o with
    | tup xs => simp only [e']
    | frz o u => simp only [e']
    | _ => simp only [e']; exact e
  h := h
  s := fun a o e => by
    unfold tupsOf at e
    split at e
    · rename_i xs hx
      cases e
      exact hx
    · rename_i ob u hx
      cases e
      exact hx
    · exact h a o (s a o e)
  n := fun a e m => by
    have e' := mut_at h m
    unfold tupsOf
    rw [e']
    cases hh : H a with
    | none => exact e
    | some o =>
      rw [hh] at m
      cases o with
      | tup xs => exact m.elim
      | frz o u => exact m.elim
      | _ => exact e
theorem tupsOf_tup {G G' H' : Hp} (s : Same G' H') (a : Addr) (xs : List V) (t : TupAt G' a xs) : TupAt (tupsOf G H') a xs := by
  rcases t with e | ⟨f, o, n, e⟩
  · have e' := s _ _ e
    refine .inl ?_
    unfold tupsOf
    simp only [e']
  · have e' := s _ _ e
    refine .inr ⟨f, o, n, ?_⟩
    unfold tupsOf
    simp only [e']

/-! ### the state as it goes on -/
theorem SSt.go {G0 H0 H H' : Hp} {σ : L2.St} {δ : List Sl} (S : SSt K G0 H0 H σ δ) (h : Same H H') : SSt K G0 H0 H' σ δ := by
  obtain ⟨G, e, S⟩ := S
  have e1 : Ext G H G H' := ⟨Same.refl _, h, S.s.trans h, fun _ z _ => z⟩
  exact ⟨G, e.trans e1, S.go e1⟩
theorem exc_q {E : XK} {G H : Hp} {Q : VK} {c : Str} {r : R} (hr : r = .exc c) (q : ∀ H' C, Same H H' → mg c = some (.ref C) → E (.ref C) none H') : RQ K mg E G H Q r := by
  rw [hr]
  exact fun G' H' C e h => q H' C e.h h
/-- an expression whose value is dropped -/
def fDrop (f : List Sl → R) : List Sl → Fl := fun δ => match f (thaw δ) with
  | .ok _ => .nx δ
  | .new _ => .nx δ
  | .exc c => .exc c δ
  | .bad => .bad
theorem ds_expr (he : DE X W e te fe) (hs : swapsWith e none pos.line X.env = pure false := by rfl) : DS X W (.Expr e pos) (tDrop te) (fDrop fe) := ⟨ps_expr he.pe hs, fun G0 H0 D H σ δ S q => by
  obtain ⟨G, e0, St0⟩ := id S
  refine he.sem H0 H H σ (thaw δ) _ St0.thaw ?_
  unfold fDrop at q
  split at q
  · rename_i d hd
    rw [hd]
    exact fun v G' H' e1 r1 => q _ _ (S.go e1.h)
  · rename_i d hd
    rw [hd]
    exact fun p xs G' H' e1 _ _ _ _ => q _ _ (S.go e1.h)
  · rename_i c hd
    exact exc_q hd fun H' C h hm => q _ _ C (S.go h) hm
  · exact q.elim⟩
/-- return -/
def fRet (f : List Sl → R) : List Sl → Fl := fun δ => match f δ with
  | .ok d => .rt d
  | .new ds => .rn ds
  | .exc c => .exc c δ
  | .bad => .bad
theorem ds_ret (he : DE X W e te fe) : DS X W (.Return (some e) pos) (tRet te) (fRet fe) := ⟨ps_ret he.pe, fun G0 H0 D H σ δ S q => by
  obtain ⟨G, e0, St0⟩ := id S
  refine he.sem H0 G H σ δ _ St0 ?_
  unfold fRet at q
  split at q
  · rename_i d hd
    rw [hd]
    exact fun v G' H' e1 r1 => q v G' H' (e0.trans e1) r1
  · rename_i d hd
    rw [hd]
    exact fun p xs G' H' e1 h1 h2 h3 h4 => q p xs G' H' (e0.trans e1) (Same.free e0.h h1) h2 h3 h4
  · rename_i c hd
    exact exc_q hd fun H' C h hm => q _ _ C (S.go h) hm
  · exact q.elim⟩
def fRetB (f : List Sl → R) : List Sl → Fl := fun δ => match f (thaw δ) with
  | .ok d => if flat d = true then .rt d else .bad
  | .new ds => if flatL ds = true then .rn ds else .bad
  | .exc c => .exc c δ
  | .bad => .bad
theorem fq_if {D : Ends} {G0 H0 : Hp} {c : Prop} [Decidable c] {r : Fl} (q : FQ K mg W D G0 H0 (if c then r else .bad)) : c ∧ FQ K mg W D G0 H0 r := by
  by_cases h : c
  · rw [if_pos h] at q; exact ⟨h, q⟩
  · rw [if_neg h] at q; exact q.elim
/-- behind a reading of all: what is flat may be told of -/
theorem back1 {G H G' H' : Hp} {d : D} {v : V} (s : Same G H) (e : Ext H H G' H') (f : flat d = true) (r : Rep K G' d v) : Ext G H (tupsOf G H') H' ∧ Rep K (tupsOf G H') d v :=
  ⟨tupsOf_ext s e.h, Rep.flatTo (tupsOf_tup e.s) d v f r⟩
theorem backL {G H G' H' : Hp} {ds : List D} {xs : List V} {p : Addr} (s : Same G H) (e : Ext H H G' H') (f : flatL ds = true) (h1 : H p = none) (h3 : H' p = some (.lst xs)) (r : RepL K G' ds xs) : Ext G H (tupsOf G H') H' ∧ tupsOf G H' p = none ∧ RepL K (tupsOf G H') ds xs := by
  refine ⟨tupsOf_ext s e.h, ?_, RepL.flatTo (tupsOf_tup e.s) ds xs f r⟩
  unfold tupsOf
  simp only [h3]
  exact Same.free s h1
theorem ds_retB (he : DE X W e te fe) : DS X W (.Return (some e) pos) (tRet te) (fRetB fe) := ⟨ps_ret he.pe, fun G0 H0 D H σ δ S q => by
  obtain ⟨G, e0, St0⟩ := id S
  refine he.sem H0 H H σ (thaw δ) _ St0.thaw ?_
  unfold fRetB at q
  split at q
  · rename_i d hd
    rw [hd]
    obtain ⟨hf, q⟩ := fq_if q
    exact fun v G' H' e1 r1 => by
      obtain ⟨e2, r2⟩ := back1 St0.s e1 hf r1
      exact q v _ H' (e0.trans e2) r2
  · rename_i d hd
    rw [hd]
    obtain ⟨hf, q⟩ := fq_if q
    exact fun p xs G' H' e1 h1 h2 h3 h4 => by
      obtain ⟨e2, r2, r3⟩ := backL St0.s e1 hf h1 h3 h4
      exact q p xs _ H' (e0.trans e2) (Same.free e0.h h1) r2 h3 r3
  · rename_i c hd
    exact exc_q hd fun H' C h hm => q _ _ C (S.go h) hm
  · exact q.elim⟩
/-- a name, its list moved -/
def fRetV (i : Nat) : List Sl → Fl := fun δ => match δ[i]? with
  | some (.v d) => .rt d
  | some (.own ds) => .rn ds
  | _ => .bad
theorem St.at {H0 G H : Hp} {σ : L2.St} {δ : List Sl} {i : Nat} {s : Sl} (S : St K H0 G H σ δ) (h : δ[i]? = some s) : ∃ o, σ[i]? = some o ∧ RepS K H0 G H s o := by
  have hi : i < δ.length := (List.getElem?_eq_some_iff.mp h).1
  have hs : i < σ.length := by rw [S.l]; exact hi
  exact ⟨_, List.getElem?_eq_getElem hs, S.r i _ _ h (List.getElem?_eq_getElem hs)⟩
theorem ds_retV (i : Nat) {x : Str} {pos' : Pos} (hN : X.N[i]? = some x := by rfl) (hv : Vis X.env.scope x := by first | exact Or.inl rfl | exact Or.inr (Or.inl rfl) | exact Or.inr (Or.inr rfl)) (hd : (x == ("__debug__" : Str)) = false := by decide)
    (hcd : (x == ("__classdict__" : Str)) = false := by decide) : DS X W (.Return (some (.Name x pos')) pos) (tRet (tVar i)) (fRetV i) := ⟨ps_ret (pv i hN hv hd hcd), fun G0 H0 D H σ δ S q => by
  obtain ⟨G, e0, St0⟩ := id S
  unfold fRetV at q
  split at q
  · rename_i d hd
    obtain ⟨o, e1, v, rfl, r⟩ := St0.at hd
    exact ⟨v, e1, q v G H e0 r⟩
  · rename_i ds hd
    obtain ⟨o, e1, p, xs, rfl, h1, h2, h3, h4⟩ := St0.at hd
    exact ⟨.ref p, e1, q p xs G H e0 h1 h2 h3 h4⟩
  · exact q.elim⟩
theorem ds_retN : DS X W (.Return none pos) tRetN (fun _ => .rt .none) := ⟨ps_retN, fun G0 H0 D H σ δ S q => by
  obtain ⟨G, e0, St0⟩ := id S
  exact q .non G H e0 rfl⟩

/-! ### storing names -/
theorem St.seto {H0 G H : Hp} {σ : L2.St} {δ : List Sl} {i : Nat} {p : Addr} {xs : List V} {ds : List D} (S : St K H0 G H σ δ) (h0 : ∀ (j : Nat) (es : List D), i ≠ j → δ[j]? = some (.own es) → σ[j]? ≠ some (some (.ref p))) (h1 : H0 p = none) (h2 : G p = none) (h3 : H p = some (.lst xs)) (h4 : RepL K G ds xs) : St K H0 G H (σ.set i (some (.ref p))) (δ.set i (.own ds)) :=
  ⟨S.s, S.b, by rw [List.length_set, List.length_set]; exact S.l, fun j s o e1 e2 => by
    rcases get_set e1 with ⟨rfl, rfl, _⟩ | ⟨n1, e1⟩
    · rcases get_set e2 with ⟨_, rfl, _⟩ | ⟨n2, _⟩
      · exact ⟨p, xs, rfl, h1, h2, h3, h4⟩
      · exact absurd rfl n2
    · rcases get_set e2 with ⟨e, _, _⟩ | ⟨n2, e2⟩
      · exact absurd e n1
      · exact S.r j s o e1 e2, fun j k ds' es p' njk e1 e2 e3 e4 => by
    rcases get_set e1 with ⟨rfl, _, _⟩ | ⟨n1, e1⟩
    · rcases get_set e3 with ⟨_, e, _⟩ | ⟨n3, _⟩
      · cases e
        rcases get_set e2 with ⟨e, _, _⟩ | ⟨n2, e2⟩
        · exact njk e
        · rcases get_set e4 with ⟨e, _, _⟩ | ⟨_, e4⟩
          · exact njk e
          · exact h0 k es njk e2 e4
      · exact n3 rfl
    · rcases get_set e3 with ⟨e, _, _⟩ | ⟨_, e3⟩
      · exact n1 e
      · rcases get_set e2 with ⟨rfl, _, _⟩ | ⟨n2, e2⟩
        · rcases get_set e4 with ⟨_, e, _⟩ | ⟨n4, _⟩
          · cases e
            exact h0 j ds' n1 e1 e3
          · exact n4 rfl
        · rcases get_set e4 with ⟨e, _, _⟩ | ⟨_, e4⟩
          · exact n2 e
          · exact S.ap j k ds' es p' njk e1 e2 e3 e4⟩
/-- a new list is no other's -/
theorem St.fresh {H0 G H : Hp} {σ : L2.St} {δ : List Sl} {i : Nat} {p : Addr} (S : St K H0 G H σ δ) (h : H p = none) (j : Nat) (es : List D) (_ : i ≠ j) (e : δ[j]? = some (.own es)) : σ[j]? ≠ some (some (.ref p)) := fun e2 => by
  obtain ⟨p', xs, e3, _, _, h3, _⟩ := S.r j _ _ e e2
  cases e3
  rw [h] at h3
  cases h3
def fSet (i : Nat) (f : List Sl → R) : List Sl → Fl := fun δ => match f δ with
  | .ok d => .nx (δ.set i (.v d))
  | .new ds => .nx (δ.set i (.v (.list ds)))
  | .exc c => .exc c δ
  | .bad => .bad
def fSetO (i : Nat) (f : List Sl → R) : List Sl → Fl := fun δ => match f δ with
  | .ok d => .nx (δ.set i (.v d))
  | .new ds => .nx (δ.set i (.own ds))
  | .exc c => .exc c δ
  | .bad => .bad
def fSetB (i : Nat) (f : List Sl → R) : List Sl → Fl := fun δ => match f (thaw δ) with
  | .ok d => if flat d = true then .nx (δ.set i (.v d)) else .bad
  | .new ds => if flatL ds = true then .nx (δ.set i (.v (.list ds))) else .bad
  | .exc c => .exc c δ
  | .bad => .bad
def fSetBO (i : Nat) (f : List Sl → R) : List Sl → Fl := fun δ => match f (thaw δ) with
  | .ok d => if flat d = true then .nx (δ.set i (.v d)) else .bad
  | .new ds => if flatL ds = true then .nx (δ.set i (.own ds)) else .bad
  | .exc c => .exc c δ
  | .bad => .bad
theorem sem_set {i : Nat} (he : SemE K mg W te fe) : SemS K mg W (tAsg te (gName i)) (fSet i fe) := fun G0 H0 D H σ δ S q => by
  obtain ⟨G, e0, St0⟩ := id S
  refine he H0 G H σ δ _ St0 ?_
  unfold fSet at q
  split at q
  · rename_i d hd
    rw [hd]
    exact fun v G' H' e1 r1 => q _ _ ⟨G', e0.trans e1, (St0.go e1).setv r1⟩
  · rename_i d hd
    rw [hd]
    exact RQ.freeze fun v G' H' e1 r1 => q _ _ ⟨G', e0.trans e1, (St0.go e1).setv r1⟩
  · rename_i c hd
    exact exc_q hd fun H' C h hm => q _ _ C (S.go h) hm
  · exact q.elim
theorem sem_setO {i : Nat} (he : SemE K mg W te fe) : SemS K mg W (tAsg te (gName i)) (fSetO i fe) := fun G0 H0 D H σ δ S q => by
  obtain ⟨G, e0, St0⟩ := id S
  refine he H0 G H σ δ _ St0 ?_
  unfold fSetO at q
  split at q
  · rename_i d hd
    rw [hd]
    exact fun v G' H' e1 r1 => q _ _ ⟨G', e0.trans e1, (St0.go e1).setv r1⟩
  · rename_i d hd
    rw [hd]
    exact fun p xs G' H' e1 h1 h2 h3 h4 => q _ _ ⟨G', e0.trans e1, (St0.go e1).seto (fun j es n e e2 => St0.fresh h1 j es n e e2) (Same.free St0.b h1) h2 h3 h4⟩
  · rename_i c hd
    exact exc_q hd fun H' C h hm => q _ _ C (S.go h) hm
  · exact q.elim
theorem sem_setB {i : Nat} (he : SemE K mg W te fe) : SemS K mg W (tAsg te (gName i)) (fSetB i fe) := fun G0 H0 D H σ δ S q => by
  obtain ⟨G, e0, St0⟩ := id S
  refine he H0 H H σ (thaw δ) _ St0.thaw ?_
  unfold fSetB at q
  split at q
  · rename_i d hd
    rw [hd]
    obtain ⟨hf, q⟩ := fq_if q
    exact fun v G' H' e1 r1 => by
      obtain ⟨e2, r2⟩ := back1 St0.s e1 hf r1
      exact q _ _ ⟨_, e0.trans e2, (St0.go e2).setv r2⟩
  · rename_i d hd
    rw [hd]
    obtain ⟨hf, q⟩ := fq_if q
    exact fun p xs G' H' e1 h1 h2 h3 h4 => by
      obtain ⟨e2, r2, r3⟩ := backL St0.s e1 hf h1 h3 h4
      obtain ⟨s1, s2, s3⟩ := rep_new e2.s r2 h3 r3
      exact q _ _ ⟨_, e0.trans (e2.freeze h1 r2 h3), (St0.go (e2.freeze h1 r2 h3)).setv s3⟩
  · rename_i c hd
    exact exc_q hd fun H' C h hm => q _ _ C (S.go h) hm
  · exact q.elim
theorem sem_setBO {i : Nat} (he : SemE K mg W te fe) : SemS K mg W (tAsg te (gName i)) (fSetBO i fe) := fun G0 H0 D H σ δ S q => by
  obtain ⟨G, e0, St0⟩ := id S
  refine he H0 H H σ (thaw δ) _ St0.thaw ?_
  unfold fSetBO at q
  split at q
  · rename_i d hd
    rw [hd]
    obtain ⟨hf, q⟩ := fq_if q
    exact fun v G' H' e1 r1 => by
      obtain ⟨e2, r2⟩ := back1 St0.s e1 hf r1
      exact q _ _ ⟨_, e0.trans e2, (St0.go e2).setv r2⟩
  · rename_i d hd
    rw [hd]
    obtain ⟨hf, q⟩ := fq_if q
    exact fun p xs G' H' e1 h1 h2 h3 h4 => by
      obtain ⟨e2, r2, r3⟩ := backL St0.s e1 hf h1 h3 h4
      exact q _ _ ⟨_, e0.trans e2, (St0.go e2).seto (fun j es n e e2 => St0.fresh h1 j es n e e2) (Same.free St0.b h1) r2 h3 r3⟩
  · rename_i c hd
    exact exc_q hd fun H' C h hm => q _ _ C (S.go h) hm
  · exact q.elim
variable {x : Str} {pos' : Pos}
theorem ds_set (i : Nat) (hN : X.N.Nodup) (he : DE X W e te fe) (hi : X.N[i]? = some x := by rfl) (hx : Loc X.env.scope x := by first | exact .inl rfl | exact .inr rfl) (hs : swapsWith e (some (.Name x pos')) pos.line X.env = pure false := by rfl) (hf : X.fn x = true ∨ X.env.scope.names.lookup x = some .local := by first | exact .inl rfl | exact .inr rfl) :
    DS X W (.Assign [.Name x pos'] e pos) (tAsg te (gName i)) (fSet i fe) := ⟨ps_set hN hi hx he.pe hs hf, sem_set he.sem⟩
theorem ds_setO (i : Nat) (hN : X.N.Nodup) (he : DE X W e te fe) (hi : X.N[i]? = some x := by rfl) (hx : Loc X.env.scope x := by first | exact .inl rfl | exact .inr rfl) (hs : swapsWith e (some (.Name x pos')) pos.line X.env = pure false := by rfl) (hf : X.fn x = true ∨ X.env.scope.names.lookup x = some .local := by first | exact .inl rfl | exact .inr rfl) :
    DS X W (.Assign [.Name x pos'] e pos) (tAsg te (gName i)) (fSetO i fe) := ⟨ps_set hN hi hx he.pe hs hf, sem_setO he.sem⟩
theorem ds_setB (i : Nat) (hN : X.N.Nodup) (he : DE X W e te fe) (hi : X.N[i]? = some x := by rfl) (hx : Loc X.env.scope x := by first | exact .inl rfl | exact .inr rfl) (hs : swapsWith e (some (.Name x pos')) pos.line X.env = pure false := by rfl) (hf : X.fn x = true ∨ X.env.scope.names.lookup x = some .local := by first | exact .inl rfl | exact .inr rfl) :
    DS X W (.Assign [.Name x pos'] e pos) (tAsg te (gName i)) (fSetB i fe) := ⟨ps_set hN hi hx he.pe hs hf, sem_setB he.sem⟩
theorem ds_setBO (i : Nat) (hN : X.N.Nodup) (he : DE X W e te fe) (hi : X.N[i]? = some x := by rfl) (hx : Loc X.env.scope x := by first | exact .inl rfl | exact .inr rfl) (hs : swapsWith e (some (.Name x pos')) pos.line X.env = pure false := by rfl) (hf : X.fn x = true ∨ X.env.scope.names.lookup x = some .local := by first | exact .inl rfl | exact .inr rfl) :
    DS X W (.Assign [.Name x pos'] e pos) (tAsg te (gName i)) (fSetBO i fe) := ⟨ps_set hN hi hx he.pe hs hf, sem_setBO he.sem⟩

/-! ### if -/
def fIfS (c : List Sl → R) (F1 F2 : List Sl → Fl) : List Sl → Fl := fun δ => match c (thaw δ) with
  | .ok (.bool true) => F1 δ
  | .ok (.bool false) => F2 δ
  | .exc c => .exc c δ
  | _ => .bad
theorem ds_if {c : Expr} {a b : List Stmt} {tc : TT} {fc : List Sl → R} {F1 : List Sl → Fl} (hc : DT X W c tc fc) (ha : DSs X W a t F1) (hb : DSs X W b u F2) : DS X W (.If c a b pos) (tIfS tc t u) (fIfS fc F1 F2) := ⟨ps_if hc.pt ha.pss hb.pss, fun G0 H0 D H σ δ S q => by
  obtain ⟨G, e0, St0⟩ := id S
  refine hc.sem H0 H H σ (thaw δ) _ St0.thaw ?_
  unfold fIfS at q
  split at q
  · rename_i hd
    rw [hd]
    exact fun G' H' e1 => iteT (ha.sem G0 H0 D H' σ δ (S.go e1.h) q)
  · rename_i hd
    rw [hd]
    exact fun G' H' e1 => iteF (hb.sem G0 H0 D H' σ δ (S.go e1.h) q)
  · rename_i c hd
    rw [hd]
    exact fun G' H' C e1 hm => q _ _ C (S.go e1.h) hm
  · exact q.elim⟩
end
end DL
set_option Elab.async false
set_option linter.all false
set_option maxRecDepth 100000
set_option maxHeartbeats 4000000
namespace DL
open PySem PySem.Spec PyProof.Rows L2
variable {K : PySem.W.Frag}

section
variable {X : Cx} {W : WX} {mg : Str → Option Value} {t u : TS} {F F2 : List Sl → Fl} {e : Expr} {te : TE} {fe : List Sl → R} {pos : Pos}
/-! ### for -/
def forGo (set : D → List Sl → Option (List Sl)) (body : List Sl → Fl) : List D → List Sl → Fl
  | [], δ => .nx δ
  | d :: ds, δ => match set d δ with
    | none => .bad
    | some δ' => match body δ' with
      | .nx δ2 => forGo set body ds δ2
      | .ct δ2 => forGo set body ds δ2
      | .bk δ2 => .nx δ2
      | f => f
def fFor (fi : List Sl → RL) (set : D → List Sl → Option (List Sl)) (body : List Sl → Fl) : List Sl → Fl := fun δ => match fi δ with
  | .ok ds => forGo set body ds δ
  | .exc c => .exc c δ
  | .bad => .bad
/-- the base goes on to what is walked, and back -/
theorem Ext.base {G0 H0 G1 H1 G H : Hp} (a : Ext G0 H0 G1 H1) (e : Ext G0 H0 G H) (g : Same G1 G) : Ext G1 H0 G H := ⟨g, e.h, e.s, fun c z m => e.n c (Same.free a.g z) m⟩
theorem Ext.unbase {G0 H0 G1 H1 G H : Hp} (a : Ext G0 H0 G1 H1) (e : Ext G1 H0 G H) : Ext G0 H0 G H := ⟨a.g.trans e.g, e.h, e.s, fun c z m => e.n c (a.n c z m) m⟩
theorem SSt.unbase {G0 H0 G1 H1 H : Hp} {σ : L2.St} {δ : List Sl} (a : Ext G0 H0 G1 H1) (S : SSt K G1 H0 H σ δ) : SSt K G0 H0 H σ δ := by
  obtain ⟨G, e, S⟩ := S
  exact ⟨G, a.unbase e, S⟩
theorem FQ.base {D : Ends} {G0 H0 G1 H1 : Hp} {f : Fl} (a : Ext G0 H0 G1 H1) (q : FQ K mg W D G0 H0 f) : FQ K mg W D G1 H0 f := by
  cases f with
  | nx δ => exact fun σ' H' S => q σ' H' (S.unbase a)
  | bk δ => exact fun σ' H' S => q σ' H' (S.unbase a)
  | ct δ => exact fun σ' H' S => q σ' H' (S.unbase a)
  | rt d => exact fun v G' H' e r => q v G' H' (a.unbase e) r
  | rn ds => exact fun p xs G' H' e h1 h2 h3 h4 => q p xs G' H' (a.unbase e) h1 h2 h3 h4
  | exc c δ => exact fun σ' H' C S hm => q σ' H' C (S.unbase a) hm
  | bad => exact q
theorem sem_for {wi : TI} {g : TG} {fi : List Sl → RL} {set : D → List Sl → Option (List Sl)} (hi : SemI K mg W wi fi) (hg : SemG K g set) (hb : SemS K mg W t F) : SemS K mg W (tFor wi g t) (fFor fi set F) := fun G0 H0 D H σ δ S q => by
  obtain ⟨G, e0, St0⟩ := id S
  refine hi H0 G H σ δ _ St0 ?_
  unfold fFor at q
  split at q
  · rename_i ds hds
    rw [hds]
    intro J G1 H1 e1 gv
    have a1 := e0.trans e1
    refine ⟨fun i m σ' H' => i ≤ ds.length ∧ m = ds.length - i ∧ ∃ δ', SSt K G1 H0 H' σ' δ' ∧ FQ K mg W D G0 H0 (forGo set F (ds.drop i) δ'), ⟨_, Nat.zero_le _, rfl, δ, ⟨G1, Ext.base a1 a1 (Same.refl _), St0.go e1⟩, by rw [List.drop_zero]; exact q⟩, ?_⟩
    rintro i m σ' H' ⟨hle, rfl, δ', ⟨G2, e2, St2⟩, q2⟩
    by_cases hlt : i < ds.length
    · refine .inr ⟨gv.go i H' (e2.g.trans e2.s) hlt, _, fun σ2 H2 n => ⟨ds.length - (i + 1), by omega, n⟩, fun x H3 hy => ?_⟩
      have hd : ds[i]? = some ds[i] := List.getElem?_eq_getElem hlt
      obtain ⟨G3, e3, rx⟩ := gv.yld i G2 H' x H3 _ e2.g e2.s hd hy
      have edrop : ds.drop i = ds[i] :: ds.drop (i + 1) := (List.getElem_cons_drop hlt).symm
      rw [edrop] at q2
      unfold forGo at q2
      refine hg H0 G3 H3 σ' δ' x ds[i] _ (St2.go e3) rx (fun δ2 σ2 hs S4 => ?_) (fun z => ?_)
      · rw [hs] at q2
        refine hb G1 H0 _ H3 σ2 δ2 ⟨G3, e2.trans e3, S4⟩ ?_
        have q3 : FQ K mg W D G0 H0 (match F δ2 with
          | .nx δ2 => forGo set F (ds.drop (i + 1)) δ2
          | .ct δ2 => forGo set F (ds.drop (i + 1)) δ2
          | .bk δ2 => .nx δ2
          | f => f) := q2
        cases hf : F δ2 with
        | nx δ3 =>
          rw [hf] at q3
          exact fun σ3 H4 S5 => ⟨hlt, rfl, δ3, S5, q3⟩
        | ct δ3 =>
          rw [hf] at q3
          exact fun σ3 H4 S5 => ⟨hlt, rfl, δ3, S5, q3⟩
        | bk δ3 =>
          rw [hf] at q3
          exact fun σ3 H4 S5 => q3 σ3 H4 (S5.unbase a1)
        | rt d =>
          rw [hf] at q3
          exact FQ.base a1 (f := .rt d) q3
        | rn d =>
          rw [hf] at q3
          exact FQ.base a1 (f := .rn d) q3
        | exc c d =>
          rw [hf] at q3
          exact FQ.base a1 (f := .exc c d) q3
        | bad =>
          rw [hf] at q3
          exact q3
      · rw [z] at q2
        exact q2
    · have e : i = ds.length := by omega
      subst e
      rw [List.drop_length] at q2
      exact .inl ⟨gv.stop _ H' (e2.g.trans e2.s) rfl, q2 σ' H' ⟨G2, a1.unbase e2, St2⟩⟩
  · rename_i c hc
    rw [hc]
    exact fun G' H' C e1 hm => q _ _ C (S.go e1.h) hm
  · exact q.elim
theorem ds_for {tg iter : Expr} {body : List Stmt} {wi : TI} {g : TG} {fi : List Sl → RL} {set : D → List Sl → Option (List Sl)} (hp : PassesOwn (model X.prog X.w) X.A X.env X.xe) (hc : X.calm = true) (hi : DI X W tg iter wi fi) (hg : DG X tg g set) (hb : DSs X W body t F)
    (hs : ∀ x, foldedSetIterable iter X.env x = pure x := by intro _; rfl) : DS X W (.For tg iter body [] pos) (tFor wi g t) (fFor fi set F) := ⟨ps_for hp hc hi.pi hg.pg hb.pss hs, sem_for hi.sem hg.sem hb.sem⟩
/-- ranges whose ends read lists of one's own -/
def fRgB (g : List D → RL) (fa : List Sl → RL) : List Sl → RL := fun δ => fRg g fa (thaw δ)
theorem same_ext {G H H' : Hp} (s : Same G H) (h : Same H H') : Ext G H G H' := ⟨Same.refl _, h, s.trans h, fun _ z _ => z⟩
theorem rgB_q {E : XK} {G H : Hp} {Q : It → Hp → Prop} {Q1 : List V → Hp → Prop} {r : RL} {k : List D → RL} (s : Same G H) (q : IQ K mg E G H Q (match r with | .ok ds => k ds | .exc c => .exc c | .bad => .bad)) (hk : ∀ ds vs G1 H1, Ext H H G1 H1 → RepL K G1 ds vs → (IQ K mg E G H1 Q (k ds)) → Q1 vs H1) : LQ K mg E H H Q1 r := by
  cases r with
  | ok ds => exact fun vs G' H' e r => hk ds vs G' H' e r (IQ.trans q (same_ext s e.h))
  | exc c => exact fun G' H' C e hm => q G H' C (same_ext s e.h) hm
  | bad => exact q.elim
variable {tg a b c : Expr} {ta : TA} {fa : List Sl → RL} {p : Pos}
theorem di_range1B (hm : X.mg "range" = none) (ha : DA X W [a] ta fa) (hg : Gl X "range" := by rfl) (hs : starEach [a] X.env = [(false, eval a X.env)] := by rfl) : DI X W tg (.Call (.Name "range" p) [a] [] pos) (iRng1 ta) (fRgB rg1 fa) := ⟨pi_range1 hg hm ha.pa hs, fun H0 G H σ δ Q S q => by
  refine ha.sem H0 H H σ (thaw δ) _ S.thaw (rgB_q S.s q fun ds vs G1 H1 e1 r1 q1 => ?_)
  have hb := BIG_lt
  unfold rg1 at q1
  split at q1
  · obtain ⟨x, rfl, rx⟩ := repL1 r1
    cases rx
    obtain ⟨hl, q1⟩ := iq_if q1
    exact ⟨_, rfl, by omega, by omega, IQ.here (S.s.trans e1.h) q1 gives_itr⟩
  · exact q1.elim⟩
theorem di_range2B (hm : X.mg "range" = none) (ha : DA X W [a, b] ta fa) (hg : Gl X "range" := by rfl) (hs : starEach [a, b] X.env = [(false, eval a X.env), (false, eval b X.env)] := by rfl) (hs2 : starEach [b] X.env = [(false, eval b X.env)] := by rfl) : DI X W tg (.Call (.Name "range" p) [a, b] [] pos) (iRng2 ta) (fRgB rg2 fa) := ⟨pi_range2 hg hm ha.pa hs hs2, fun H0 G H σ δ Q S q => by
  refine ha.sem H0 H H σ (thaw δ) _ S.thaw (rgB_q S.s q fun ds vs G1 H1 e1 r1 q1 => ?_)
  have hb := BIG_lt
  unfold rg2 at q1
  split at q1
  · obtain ⟨x, y, rfl, rx, ry⟩ := repL2 r1
    cases rx; cases ry
    obtain ⟨hl, q1⟩ := iq_if q1
    exact ⟨_, _, rfl, ⟨by omega, by omega, by omega, by omega⟩, IQ.here (S.s.trans e1.h) q1 gives_itr⟩
  · exact q1.elim⟩
theorem di_range3B (hm : X.mg "range" = none) (ha : DA X W [a, b, c] ta fa) (hg : Gl X "range" := by rfl) (hs : starEach [a, b, c] X.env = (false, eval a X.env) :: starEach [b, c] X.env := by rfl) (hpl : (backTo pos (starEach [b, c] X.env)).any (·.1) = false := by rfl) : DI X W tg (.Call (.Name "range" p) [a, b, c] [] pos) (iRng3 ta) (fRgB rg3 fa) := ⟨pi_range3 hg hm ha.pa hs hpl, fun H0 G H σ δ Q S q => by
  refine ha.sem H0 H H σ (thaw δ) _ S.thaw (rgB_q S.s q fun ds vs G1 H1 e1 r1 q1 => ?_)
  have hb := BIG_lt
  unfold rg3 at q1
  split at q1
  · obtain ⟨x, vs', rfl, rx, r2⟩ := r1
    obtain ⟨y, z, rfl, ry, rz⟩ := repL2 r2
    cases rx; cases ry; cases rz
    obtain ⟨⟨hc, hl⟩, q2⟩ := iq_if q1
    clear q1
    subst hc
    exact ⟨_, _, _, _, rfl, RgC.neg (by omega) (by omega) (by omega) (by omega), IQ.here (S.s.trans e1.h) q2 gives_itc⟩
  · exact q1.elim⟩

/-! ### while -/
def whGo (c : List Sl → R) (body : List Sl → Fl) : Nat → List Sl → Fl
  | 0, _ => .bad
  | n + 1, δ => match c (thaw δ) with
    | .ok (.bool true) => (match body δ with
      | .nx δ2 => whGo c body n δ2
      | .ct δ2 => whGo c body n δ2
      | .bk δ2 => .nx δ2
      | f => f)
    | .ok (.bool false) => .nx δ
    | .exc x => .exc x δ
    | _ => .bad
def fuel : Nat := 1000000
def fWhile (c : List Sl → R) (body : List Sl → Fl) : List Sl → Fl := fun δ => whGo c body fuel δ
theorem sem_while {tc : TT} {fc : List Sl → R} (hc : SemT K mg W tc fc) (hb : SemS K mg W t F) : SemS K mg W (tWhile tc t) (fWhile fc F) := fun G0 H0 D H σ δ S q => by
  refine ⟨fun m σ' H' => ∃ δ', SSt K G0 H0 H' σ' δ' ∧ FQ K mg W D G0 H0 (whGo fc F m δ'), ⟨fuel, δ, S, q⟩, ?_⟩
  rintro m σ' H' ⟨δ', S', q'⟩
  obtain ⟨G, e0, St0⟩ := id S'
  cases m with
  | zero => exact q'.elim
  | succ n =>
    refine hc H0 H' H' σ' (thaw δ') _ St0.thaw ?_
    unfold whGo at q'
    split at q'
    · rename_i hd
      rw [hd]
      intro G1 H1 e1
      refine iteT ⟨fun σ2 H2 => ∃ δ2, SSt K G0 H0 H2 σ2 δ2 ∧ FQ K mg W D G0 H0 (whGo fc F n δ2), fun σ2 H2 h => ⟨n, by omega, h⟩, hb G0 H0 _ H1 σ' δ' (S'.go e1.h) ?_⟩
      cases hf : F δ' with
      | nx δ3 => rw [hf] at q'; exact fun σ3 H4 S5 => ⟨δ3, S5, q'⟩
      | ct δ3 => rw [hf] at q'; exact fun σ3 H4 S5 => ⟨δ3, S5, q'⟩
      | bk δ3 => rw [hf] at q'; exact q'
      | rt d => rw [hf] at q'; exact q'
      | rn d => rw [hf] at q'; exact q'
      | exc c d => rw [hf] at q'; exact q'
      | bad => rw [hf] at q'; exact q'
    · rename_i hd
      rw [hd]
      exact fun G1 H1 e1 => iteF (q' _ _ (S'.go e1.h))
    · rename_i x hd
      rw [hd]
      exact fun G1 H1 C e1 hm => q' _ _ C (S'.go e1.h) hm
    · exact q'.elim
theorem ds_while {c : Expr} {body : List Stmt} {tc : TT} {fc : List Sl → R} (hp : PassesOwn (model X.prog X.w) X.A X.env X.xe) (hc : DT X W c tc fc) (hb : DSs X W body t F) : DS X W (.While c body [] pos) (tWhile tc t) (fWhile fc F) := ⟨ps_while hp hc.pt hb.pss, sem_while hc.sem hb.sem⟩

/-! ### lists of one's own that are written -/
theorem St.write {H0 G H : Hp} {σ : L2.St} {δ : List Sl} {i : Nat} {ds ds' : List D} {p : Addr} {xs' : List V} (S : St K H0 G H σ δ) (h : δ[i]? = some (.own ds)) (hσ : σ[i]? = some (some (.ref p))) (h0 : H0 p = none) (hG : G p = none) (r : RepL K G ds' xs') : St K H0 G (upd H p (.lst xs')) σ (δ.set i (.own ds')) :=
  ⟨fun b o e => by rw [upd_ne (ne_of_none e hG)]; exact S.s b o e, fun b o e => by rw [upd_ne (ne_of_none e h0)]; exact S.b b o e, by rw [List.length_set]; exact S.l, fun j s o e1 e2 => by
    rcases get_set e1 with ⟨rfl, rfl, _⟩ | ⟨n1, e1⟩
    · rw [hσ] at e2
      cases e2
      exact ⟨p, xs', rfl, h0, hG, upd_same, r⟩
    · have q := S.r j s o e1 e2
      cases s with
      | un => trivial
      | v d => exact q
      | own es =>
        obtain ⟨p', ys, rfl, a1, a2, a3, a4⟩ := q
        have hne : p' ≠ p := fun z => by
          subst z
          exact S.ap i j ds es p' n1 h e1 hσ e2
        exact ⟨p', ys, rfl, a1, a2, by rw [upd_ne hne]; exact a3, a4⟩
      | dct m =>
        obtain ⟨p', rfl, a1, a2, a3⟩ := q
        have hne : p' ≠ p := fun z => by
          subst z
          obtain ⟨z2, zs, z3, _, _, z4, _⟩ := S.r i _ _ h hσ
          cases z3
          rw [a3] at z4
          cases z4
        exact ⟨p', rfl, a1, a2, by rw [upd_ne hne]; exact a3⟩
      | rd m =>
        obtain ⟨p', rfl, a3⟩ := q
        have hne : p' ≠ p := fun z => by
          subst z
          obtain ⟨z2, zs, z3, _, _, z4, _⟩ := S.r i _ _ h hσ
          cases z3
          rw [a3] at z4
          cases z4
        exact ⟨p', rfl, by rw [upd_ne hne]; exact a3⟩
      | ob a => exact q
      | br p2 ds2 => exact q, fun j k ds1 es p' njk e1 e2 e3 e4 => by
    have old : ∀ (j : Nat) (es : List D), (δ.set i (.own ds'))[j]? = some (.own es) → ∃ es', δ[j]? = some (.own es') := fun j es e => by
      rcases get_set e with ⟨rfl, _, _⟩ | ⟨_, e⟩
      · exact ⟨ds, h⟩
      · exact ⟨es, e⟩
    obtain ⟨a, ha⟩ := old j ds1 e1
    obtain ⟨b, hb⟩ := old k es e2
    exact S.ap j k a b p' njk ha hb e3 e4⟩
theorem Ext.write {G0 H0 G H : Hp} {p : Addr} {o : HO} (e : Ext G0 H0 G H) (h0 : H0 p = none) (hG : G p = none) : Ext G0 H0 G (upd H p o) :=
  ⟨e.g, fun b u q => by rw [upd_ne (ne_of_none q h0)]; exact e.h b u q, fun b u q => by rw [upd_ne (ne_of_none q hG)]; exact e.s b u q, e.n⟩
def fApp (i : Nat) (f : List Sl → R) : List Sl → Fl := fun δ => match δ[i]? with
  | some (.own ds) => (match f δ with
    | .ok d => if ds.length < LIM then .nx (δ.set i (.own (ds ++ [d]))) else .bad
    | .new es => if ds.length < LIM then .nx (δ.set i (.own (ds ++ [.list es]))) else .bad
    | .exc c => .exc c δ
    | .bad => .bad)
  | _ => .bad
def fAppB (i : Nat) (f : List Sl → R) : List Sl → Fl := fun δ => match δ[i]? with
  | some (.own ds) => (match f (thaw δ) with
    | .ok d => if flat d = true ∧ ds.length < LIM then .nx (δ.set i (.own (ds ++ [d]))) else .bad
    | .new es => if flatL es = true ∧ ds.length < LIM then .nx (δ.set i (.own (ds ++ [.list es]))) else .bad
    | .exc c => .exc c δ
    | .bad => .bad)
  | _ => .bad
/-- what an append asks, from what is known of its list -/
theorem app_fin {G0 H0 G H : Hp} {σ : L2.St} {δ : List Sl} {i : Nat} {ds : List D} {p : Addr} {xs : List V} {d : D} {v : V} {D' : Ends} (e0 : Ext G0 H0 G H) (S : St K H0 G H σ δ) (h : δ[i]? = some (.own ds)) (hσ : σ[i]? = some (some (.ref p))) (h0 : H0 p = none) (hG : G p = none) (hH : H p = some (.lst xs)) (hr : RepL K G ds xs) (rv : Rep K G d v) (hl : ds.length < LIM)
    (q : FQ K mg W D' G0 H0 (.nx (δ.set i (.own (ds ++ [d]))))) : rAppend (.ref p) [v] H (fun _ H' => D'.nx σ H') :=
  ⟨p, xs, v, rfl, rfl, hH, lt_line (by rw [hr.length]; exact hl), q _ _ ⟨G, e0.write h0 hG, S.write h hσ h0 hG (hr.append (.one rv))⟩⟩
variable {x : Str} {o1 o2 : Pos}
theorem ds_app (i : Nat) {apos cpos : Pos} (he : DE X W e te fe) (hN : X.N[i]? = some x := by rfl) (hv : Vis X.env.scope x := by first | exact Or.inl rfl | exact Or.inr (Or.inl rfl) | exact Or.inr (Or.inr rfl)) (hd : (x == ("__debug__" : Str)) = false := by decide) (hcd : (x == ("__classdict__" : Str)) = false := by decide)
    (hs : swapsWith (.Call (.Attribute (.Name x o1) "append" apos) [e] [] cpos) none pos.line X.env = pure false := by rfl)
    (hbase : attributeBase (.Name x o1) "append" X.env (eval (.Name x o1) X.env) = eval (.Name x o1) X.env := by rfl)
    (hfew : ((backTo cpos (starEach [e] X.env)).all (fun x => !x.1) && (backToKw cpos (keywordEach [] X.env)).all (fun x => x.1.isSome)
      && decide ([e].length + ([] : List Keyword).length + (if ([] : List Keyword).isEmpty then 0 else 1) < 30)) = true := by rfl)
    (hline : (apos.endLine == cpos.line) = true := by rfl) (h1 : starEach [e] X.env = (false, eval e X.env) :: starEach [] X.env := by rfl) (hplain : (backTo cpos (starEach [] X.env)).any (·.1) = false := by rfl) :
    DS X W (.Expr (.Call (.Attribute (.Name x o1) "append" apos) [e] [] cpos) pos) (tDrop (tBM X.K "list" rAppend (tVar i) (tCons te tNil))) (fApp i fe) :=
  ⟨ps_expr (pe_bm PySem.F.plainAttrs_list PySem.F.slot_list_append PySem.F.type_list_append mt_append (pv i hN hv hd hcd) (pa_cons he.pe pa_nil h1) hbase hfew hline h1 hplain) hs, fun G0 H0 D H σ δ S q => by
  obtain ⟨G, e0, St0⟩ := id S
  unfold fApp at q
  split at q
  · rename_i ds hds
    obtain ⟨o, e1, p, xs, rfl, h0, hG, hH, hr⟩ := St0.at hds
    refine ⟨.ref p, e1, .inl ⟨rfl, xs, .inl (.inl hH)⟩, ?_⟩
    refine he.sem H0 G H σ δ _ St0 ?_
    have go : ∀ d, (ds.length < LIM ∧ FQ X.K X.mg W D G0 H0 (.nx (δ.set i (.own (ds ++ [d]))))) → ∀ v G' H', Ext G H G' H' → Rep X.K G' d v → rAppend (.ref p) [v] H' (fun _ H2 => D.nx σ H2) := fun d hq v G' H' e2 rv =>
      app_fin (e0.trans e2) (St0.go e2) hds e1 h0 (e2.n p hG (mut_lst hH)) (e2.h _ _ hH) (RepL.mono e2.g _ _ hr) rv hq.1 hq.2
    split at q
    · rename_i d hd
      rw [hd]
      exact fun v G' H' e2 rv => go d (fq_if q) v G' H' e2 rv
    · rename_i d hd
      rw [hd]
      exact RQ.freeze fun v G' H' e2 rv => go _ (fq_if q) v G' H' e2 rv
    · rename_i c hd
      exact exc_q hd fun H' C h hm => q _ _ C (S.go h) hm
    · exact q.elim
  · exact q.elim⟩
theorem ds_appB (i : Nat) {apos cpos : Pos} (he : DE X W e te fe) (hN : X.N[i]? = some x := by rfl) (hv : Vis X.env.scope x := by first | exact Or.inl rfl | exact Or.inr (Or.inl rfl) | exact Or.inr (Or.inr rfl)) (hd : (x == ("__debug__" : Str)) = false := by decide) (hcd : (x == ("__classdict__" : Str)) = false := by decide)
    (hs : swapsWith (.Call (.Attribute (.Name x o1) "append" apos) [e] [] cpos) none pos.line X.env = pure false := by rfl)
    (hbase : attributeBase (.Name x o1) "append" X.env (eval (.Name x o1) X.env) = eval (.Name x o1) X.env := by rfl)
    (hfew : ((backTo cpos (starEach [e] X.env)).all (fun x => !x.1) && (backToKw cpos (keywordEach [] X.env)).all (fun x => x.1.isSome)
      && decide ([e].length + ([] : List Keyword).length + (if ([] : List Keyword).isEmpty then 0 else 1) < 30)) = true := by rfl)
    (hline : (apos.endLine == cpos.line) = true := by rfl) (h1 : starEach [e] X.env = (false, eval e X.env) :: starEach [] X.env := by rfl) (hplain : (backTo cpos (starEach [] X.env)).any (·.1) = false := by rfl) :
    DS X W (.Expr (.Call (.Attribute (.Name x o1) "append" apos) [e] [] cpos) pos) (tDrop (tBM X.K "list" rAppend (tVar i) (tCons te tNil))) (fAppB i fe) :=
  ⟨ps_expr (pe_bm PySem.F.plainAttrs_list PySem.F.slot_list_append PySem.F.type_list_append mt_append (pv i hN hv hd hcd) (pa_cons he.pe pa_nil h1) hbase hfew hline h1 hplain) hs, fun G0 H0 D H σ δ S q => by
  obtain ⟨G, e0, St0⟩ := id S
  unfold fAppB at q
  split at q
  · rename_i ds hds
    obtain ⟨o, e1, p, xs, rfl, h0, hG, hH, hr⟩ := St0.at hds
    refine ⟨.ref p, e1, .inl ⟨rfl, xs, .inl (.inl hH)⟩, ?_⟩
    refine he.sem H0 H H σ (thaw δ) _ St0.thaw ?_
    have go : ∀ d, (ds.length < LIM ∧ FQ X.K X.mg W D G0 H0 (.nx (δ.set i (.own (ds ++ [d]))))) → ∀ v G' H', Ext G H G' H' → Rep X.K G' d v → rAppend (.ref p) [v] H' (fun _ H2 => D.nx σ H2) := fun d hq v G' H' e2 rv =>
      app_fin (e0.trans e2) (St0.go e2) hds e1 h0 (e2.n p hG (mut_lst hH)) (e2.h _ _ hH) (RepL.mono e2.g _ _ hr) rv hq.1 hq.2
    split at q
    · rename_i d hd
      rw [hd]
      obtain ⟨⟨hf, hl⟩, q⟩ := fq_if q
      exact fun v G' H' e2 rv => by
        obtain ⟨a1, a2⟩ := back1 St0.s e2 hf rv
        exact go d ⟨hl, q⟩ v _ H' a1 a2
    · rename_i d hd
      rw [hd]
      obtain ⟨⟨hf, hl⟩, q⟩ := fq_if q
      exact fun p xs G' H' e2 h1 h2 h3 h4 => by
        obtain ⟨a1, a2, a3⟩ := backL St0.s e2 hf h1 h3 h4
        obtain ⟨s1, s2, s3⟩ := rep_new a1.s a2 h3 a3
        exact go _ ⟨hl, q⟩ _ _ H' (a1.freeze h1 a2 h3) s3
    · rename_i c hd
      exact exc_q hd fun H' C h hm => q _ _ C (S.go h) hm
    · exact q.elim
  · exact q.elim⟩
/-- x[i] = e, by borrowed readings -/
def fPut (j : Nat) (fi fe : List Sl → R) : List Sl → Fl := fun δ => match δ[j]? with
  | some (.own ds) => (match fe (thaw δ), fi (thaw δ) with
    | .ok d, .ok (.int k) => (match ixN ds.length k with
      | some m => if flat d = true then .nx (δ.set j (.own (ds.set m d))) else .bad
      | none => .bad)
    | _, _ => .bad)
  | _ => .bad
theorem thaw_set {δ : List Sl} {j : Nat} {ds : List D} (h : (thaw δ)[j]? = some (.own ds)) : False := thaw_not_own h
theorem ds_put (j : Nat) {ie : Expr} {ti : TE} {fi : List Sl → R} {spos : Pos} (he : DE X W e te fe) (hi : DE X W ie ti fi) (hN : X.N[j]? = some x := by rfl) (hv : Vis X.env.scope x := by first | exact Or.inl rfl | exact Or.inr (Or.inl rfl) | exact Or.inr (Or.inr rfl)) (hd : (x == ("__debug__" : Str)) = false := by decide) (hcd : (x == ("__classdict__" : Str)) = false := by decide)
    (ha : ∀ v, assign (.Subscript (.Name x o1) ie spos) X.env v = (do
      let ov ← holding [v] (eval (.Name x o1) X.env)
      let iv ← holding [v, ov] (eval ie X.env)
      standAt spos
      holding [v, ov, iv] (setItem ov iv v)
      release [v, ov, iv] []) := by intro _; rfl)
    (hs : swapsWithSole [.Subscript (.Name x o1) ie spos] e pos.line X.env = pure false := by rfl) (hw : swappedStores [.Subscript (.Name x o1) ie spos] e X.env = pure none := by rfl)
    (h1 : (assignEach [.Subscript (.Name x o1) ie spos] X.env).map (·.2) = [assign (.Subscript (.Name x o1) ie spos) X.env] := by rfl) :
    DS X W (.Assign [.Subscript (.Name x o1) ie spos] e pos) (tAsg te (L2.gSub (tVar j) ti rSetL)) (fPut j fi fe) := ⟨ps_asg he.pe (pg_sub (pv j hN hv hd hcd) hi.pe set_list ha) hs hw h1, fun G0 H0 D H σ δ S q => by
  obtain ⟨G, e0, St0⟩ := id S
  unfold fPut at q
  split at q
  · rename_i ds hds
    obtain ⟨o, e1, p, xs, rfl, h0, hG, hH, hr⟩ := St0.at hds
    split at q
    · rename_i d k hd hk
      split at q
      · rename_i m hm
        obtain ⟨hf, q⟩ := fq_if q
        refine he.sem H0 H H σ (thaw δ) _ St0.thaw ?_
        rw [hd]
        intro v G1 H1 e2 rv
        obtain ⟨a1, a2⟩ := back1 St0.s e2 hf rv
        refine ⟨.ref p, e1, ?_⟩
        have S1 := St0.go a1
        refine hi.sem H0 H1 H1 σ (thaw δ) _ S1.thaw ?_
        rw [hk]
        intro iv G2 H2 e3 ri
        cases ri
        have b1 : Ext (tupsOf G H1) H1 (tupsOf G H1) H2 := same_ext a1.s e3.h
        have S2 := S1.go b1
        have hH2 : H2 p = some (.lst xs) := e3.h _ _ (e2.h _ _ hH)
        have hG2 : tupsOf G H1 p = none := a1.n p hG (mut_lst hH)
        refine ⟨p, xs, k, m, rfl, rfl, hH2, by rw [hr.length]; exact hm, q _ _ ⟨tupsOf G H1, ((e0.trans a1).trans b1).write h0 hG2, S2.write hds e1 h0 hG2 (RepL.set a2 m (RepL.mono a1.g _ _ hr))⟩⟩
      · exact q.elim
    · exact q.elim
  · exact q.elim⟩
/-- a, b, .. = a tuple -/
def fUnp (is : List Nat) (f : List Sl → R) : List Sl → Fl := fun δ => match f δ with
  | .ok d => (match setT is d δ with
    | some δ' => .nx δ'
    | none => .bad)
  | .exc c => .exc c δ
  | _ => .bad
theorem ds_unp {es : List Expr} {kk : Nat} {is : List Nat} {tp : Pos} (hc : X.calm = true) (he : DE X W e te fe) (h : DGs X es is) (hn : (assignEach es X.env).length = is.length := by rfl) (hst : (assignEach es X.env).findIdx? (·.1) = none := by rfl)
    (hs : swapsWithSole [.Tuple es kk tp] e pos.line X.env = pure false := by rfl) (hw : swappedStores [.Tuple es kk tp] e X.env = pure none := by rfl)
    (h1 : (assignEach [.Tuple es kk tp] X.env).map (·.2) = [assign (.Tuple es kk tp) X.env] := by rfl) : DS X W (.Assign [.Tuple es kk tp] e pos) (tAsg te (gTup X.K is.length (gNames is))) (fUnp is fe) := ⟨ps_asg he.pe (dg_tup hc h hn hst).pg hs hw h1, fun G0 H0 D H σ δ S q => by
  obtain ⟨G, e0, St0⟩ := id S
  refine he.sem H0 G H σ δ _ St0 ?_
  unfold fUnp at q
  split at q
  · rename_i d hd
    rw [hd]
    split at q
    · rename_i δ' hδ
      exact fun v G' H' e1 r1 => (dg_tup (pos := tp) (kk := kk) hc h hn hst).sem H0 G' H' σ δ v d _ (St0.go e1) r1 (fun δ2 σ2 hs2 S2 => by
        rw [hδ] at hs2
        cases hs2
        exact q _ _ ⟨G', e0.trans e1, S2⟩) (by rw [hδ]; exact fun z => nomatch z)
    · exact q.elim
  · rename_i c hd
    exact exc_q hd fun H' C h hm => q _ _ C (S.go h) hm
  · exact q.elim⟩
/-! ### raise -/
structure Ecls (K : PySem.W.Frag) (mg : Str → Option Value) (x : Str) : Prop where
  ex : ∃ C, mg x = some (.ref C) ∧ PySem.W.excIn K C [.type "ValueError", .type "Exception", .type "BaseException", .type "object"] "ValueError.__new__" = true ∧ PySem.W.keepIn K (.ref C) = true ∧ PySem.W.subIn K (.ref C) (.type "BaseException") = some true ∧ PySem.W.typeIn K (.ref C) = some (.type "type")
theorem ds_raise {m : Str} {j : Nat} {p2 cpos : Pos} (C : Ecls X.K X.mg x) (tk : L2N.Takes X W) (hc : X.calm = true) (hg : Gl X x := by rfl) (hdb : (x == ("__debug__" : Str)) = false := by decide) :
    ∃ t, DS X W (.Raise (some (.Call (.Name x o1) [.Constant (.str m) j p2] [] cpos)) none pos) t (fun δ => .exc x δ) := by
  obtain ⟨C, gC, xC, kC, bC, tC⟩ := C
  exact ⟨_, L2N.ps_raise hc tk (L2N.pmk_own PySem.F.excBase_ValueError xC gC kC (raises_own bC tC) hg hdb), fun G0 H0 D H σ δ S q => q σ H C S gC⟩
/-! ### a def -/
def Fl.toR : Fl → R
  | .nx _ => .ok .none
  | .rt d => .ok d
  | .rn ds => .new ds
  | .exc c _ => .exc c
  | _ => .bad
def slots0 (n : Nat) (ds : List D) : List Sl := ds.map Sl.v ++ List.replicate (n - ds.length) Sl.un
theorem st_start {G H : Hp} {N : List Str} {ds : List D} {vs : List V} (s : Same G H) (r : RepL K G ds vs) : St K H G H (L2.start N vs) (slots0 N.length ds) := by
  refine ⟨s, Same.refl _, by unfold L2.start slots0; simp [r.length], fun i sl o h1 h2 => ?_, fun i j es fs p _ h1 _ => ?_⟩
  · unfold slots0 at h1
    unfold L2.start at h2
    by_cases hi : i < ds.length
    · rw [List.getElem?_append_left (by simpa using hi), List.getElem?_map, List.getElem?_eq_getElem hi] at h1
      cases h1
      obtain ⟨x, e, rx⟩ := r.get (List.getElem?_eq_getElem hi)
      rw [List.getElem?_append_left (by simp [r.length]; exact hi), List.getElem?_map, e] at h2
      cases h2
      exact ⟨x, rfl, rx⟩
    · rw [List.getElem?_append_right (by simpa using hi), List.getElem?_replicate] at h1
      split at h1
      · cases h1
        trivial
      · cases h1
  · exfalso
    unfold slots0 at h1
    by_cases hi : i < ds.length
    · rw [List.getElem?_append_left (by simpa using hi), List.getElem?_map, List.getElem?_eq_getElem hi] at h1
      cases h1
    · rw [List.getElem?_append_right (by simpa using hi), List.getElem?_replicate] at h1
      split at h1 <;> cases h1
abbrev WD (E : XK) : WX := fun cls d _ H => E cls d H
/-- a def given by its program's text -/
theorem okC {CX : CXT} {P : Program} {w : World} {K : PySem.W.Frag} {base : Heap} {x qual : Str} {st : Stmt} {f : Addr} {fd : FuncData} {N ps : List Str} {k : Nat} {sp : Sp} (F : Fun K x qual st f fd) (S : FnScope N ps (defScope st)) (len : ∀ vs H Q E, sp vs H Q E → vs.length = ps.length)
    (hbody : ∀ (cdv : Value) (A : Around) (outer : List Env) (s : Shared) (H : Hp) (vs : List V) (Q : VK) (E : XK), Room k (A.deeper (envOfC qual (defScope st) s.heap.objs.size f cdv)) → sp vs H Q E →
      ∃ t, PSs (cxOf CX P w K mg base N qual (defScope st) f cdv A outer s H E) (defBody st) t ∧ t { nx := fun _ H' => Q .non H', rt := Q } (L2.start N vs) H) : FnOk P w K mg base CX (k + 1) f fd ps sp := by
  obtain ⟨oc, od, kV, doc, pm, an, cdv, ct, osl, rfl, lk, hcd⟩ := F.ex
  exact fn_of lk hcd S len fun A outer s H vs Q E hr hsp => hbody cdv A outer s H vs Q E hr hsp
section
variable {P : Program} {w : World} {K : PySem.W.Frag} {base : Heap}
theorem fnD {x y qual : Str} {st : Stmt} {f : Addr} {fd : FuncData} {N ps : List Str} {k n : Nat} {fs : List D → R} (Fn : Fun K y qual st f fd) (S : FnScope N ps (defScope st)) (hn : ps.length = n) (b : Binds K fd ps []) (g : mg x = some (.ref f)) (len : ∀ ds, fs ds ≠ .bad → ds.length = n)
    (hb : ∀ (cdv : Value) (A : Around) (outer : List Env) (s : Shared) (H : Hp) (E : XK), Room k (A.deeper (envOfC qual (defScope st) s.heap.objs.size f cdv)) →
      ∃ t Fb, DSs (cxOf (L2N.CX P w) P w K mg base N qual (defScope st) f cdv A outer s H E) (WD E) (defBody st) t Fb ∧ ∀ ds, fs ds ≠ .bad → (Fb (slots0 N.length ds)).toR = fs ds) : Cal P w K mg base (k + 1) x n fs :=
  ⟨⟨f, fd, ps, hn, okC Fn S (fun vs H Q E h => by rw [hn]; exact h.1) (fun cdv A outer s H vs Q E hr h => by
    obtain ⟨hl, G, ds, sm, r, q⟩ := h
    obtain ⟨t, Fb, d, hf⟩ := hb cdv A outer s H E hr
    have hne : fs ds ≠ .bad := fun z => by rw [z] at q; exact q
    refine ⟨t, d.pss, d.sem G H _ H _ (slots0 N.length ds) ⟨G, Ext.refl sm, st_start sm r⟩ ?_⟩
    have q' : RQ K mg E G H Q (Fb (slots0 N.length ds)).toR := by rw [hf ds hne]; exact q
    cases hF : Fb (slots0 N.length ds) with
    | nx δ =>
      rw [hF] at q'
      exact fun σ' H' S' => by
        obtain ⟨G', e', _⟩ := S'
        exact q' .non G' H' e' rfl
    | rt d => rw [hF] at q'; exact q'
    | rn ds => rw [hF] at q'; exact q'
    | exc c δ =>
      rw [hF] at q'
      exact fun σ' H' C S' hm => by
        obtain ⟨G', e', _⟩ := S'
        exact q' G' H' C e' hm
    | bk δ => rw [hF] at q'; exact q'.elim
    | ct δ => rw [hF] at q'; exact q'.elim
    | bad => rw [hF] at q'; exact q'.elim), g, Fn.kp, b⟩, len⟩
end
end
end DL
set_option Elab.async false
set_option linter.all false
set_option maxRecDepth 100000
set_option maxHeartbeats 4000000
namespace DL
open PySem PySem.Spec PyProof.Rows L2
variable {K : PySem.W.Frag}
section
variable {X : Cx} {W : WX} {mg : Str → Option Value} {t u : TS} {F F2 : List Sl → Fl} {e : Expr} {te : TE} {fe : List Sl → R} {pos : Pos} {x : Str} {o1 : Pos}
/-! ### comprehensions in a def's text -/
structure DTs (X : Cx) (W : WX) (ifs : List Expr) (t : TT) (f : List Sl → R) : Prop where
  pts : PTs X ifs t
  sem : SemT X.K X.mg W t f
theorem dts_nil : DTs X W0 [] tYes (fC (.bool true)) := ⟨pts_nil, sem_yes⟩
theorem dts_one {c : Expr} {tc : TT} {fc : List Sl → R} (h : DT X W c tc fc) : DTs X W [c] tc fc := ⟨pts_one h.pt, h.sem⟩
/-- the targets of a comprehension -/
structure DGw (X : Cx) (tg : Expr) (g : TG) (set : D → List Sl → Option (List Sl)) (vs : List Nat) : Prop where
  pg : PG X tg g
  sem : SemGW X.K g set vs
theorem dgw_name (i : Nat) {vs : List Nat} (hN : X.N.Nodup) (hv : i ∈ vs := by decide) (hi : X.N[i]? = some x := by rfl) (hx : Loc X.env.scope x := by first | exact .inl rfl | exact .inr rfl) (hf : X.fn x = true ∨ X.env.scope.names.lookup x = some .local := by first | exact .inl rfl | exact .inr rfl) : DGw X (.Name x pos) (gName i) (setN i) vs :=
  ⟨pg_name hN hi hx hf, gw_name hv⟩
theorem dgw_tup {es : List Expr} {kk : Nat} {is vs : List Nat} (hc : X.calm = true) (h : DGs X es is) (hv : ∀ i ∈ is, i ∈ vs := by decide) (hn : (assignEach es X.env).length = is.length := by rfl) (hst : (assignEach es X.env).findIdx? (·.1) = none := by rfl) :
    DGw X (.Tuple es kk pos) (gTup X.K is.length (gNames is)) (setT is) vs := ⟨pg_tup hc h.pgs hn hst, gw_tup hv⟩
variable {elt tg iter : Expr} {ifs : List Expr} {scope : Scope} {own : List (Str × Nat)} {wi : TI} {g : TG} {tt : TT} {fi : List Sl → RL} {set : D → List Sl → Option (List Sl)} {ft : List Sl → R} {vs : List Nat}
theorem de_lc (hc : X.calm = true) (hN : X.N.Nodup) (hi : DI X W tg iter wi fi) (ok : BlkOk X.N X.env.scope scope own)
    (hg : ∀ (s : Shared) (H : Hp) (C : Addr) (cl : List (Str × Addr)) (fp : List Addr), DGw (X.blk s H scope (compEnvC scope cl C X.env) fp) tg g set vs) (ht : ∀ (s : Shared) (H : Hp) (C : Addr) (cl : List (Str × Addr)) (fp : List Addr), DTs (X.blk s H scope (compEnvC scope cl C X.env) fp) W0 ifs tt ft)
    (he : ∀ (s : Shared) (H : Hp) (C : Addr) (cl : List (Str × Addr)) (fp : List Addr), DE (X.blk s H scope (compEnvC scope cl C X.env) fp) W0 elt te fe) (hv : vs = own.map (·.2) := by rfl) (hs : ∀ x, foldedSetIterable iter X.env x = pure x := by intro _; rfl) :
    DE X W (.ListComp elt [⟨tg, iter, ifs, 0⟩] scope pos) (tLc wi g tt te vs) (fLc fi set ft fe vs) := by
  subst hv
  have d : Shared := {}
  exact ⟨pe_lc hc hN hi.pi ok (fun s H C cl fp => (hg s H C cl fp).pg) (fun s H C cl fp => (ht s H C cl fp).pts) (fun s H C cl fp => (he s H C cl fp).pe) hs,
    sem_lc hi.sem (hg d (fun _ => none) 0 [] []).sem (ht d (fun _ => none) 0 [] []).sem (he d (fun _ => none) 0 [] []).sem⟩
/-- x = [..] on one line, x a local -/
theorem lc_ps (i : Nat) {y : Str} {py spos : Pos} (hc : X.calm = true) (hN : X.N.Nodup) (hi : DI X W tg iter wi fi) (ok : BlkOk X.N X.env.scope scope own)
    (hg : ∀ (s : Shared) (H : Hp) (C : Addr) (cl : List (Str × Addr)) (fp : List Addr), DGw (X.blk s H scope (compEnvC scope cl C X.env) fp) tg g set vs) (ht : ∀ (s : Shared) (H : Hp) (C : Addr) (cl : List (Str × Addr)) (fp : List Addr), DTs (X.blk s H scope (compEnvC scope cl C X.env) fp) W0 ifs tt ft)
    (he : ∀ (s : Shared) (H : Hp) (C : Addr) (cl : List (Str × Addr)) (fp : List Addr), DE (X.blk s H scope (compEnvC scope cl C X.env) fp) W0 elt te fe) (hv : vs = own.map (·.2)) (hs : ∀ x, foldedSetIterable iter X.env x = pure x) (hy : X.N[i]? = some y) (hyl : X.env.scope.names.lookup y = some .local)
    (hsw : swapsWith (.ListComp elt [⟨tg, iter, ifs, 0⟩] scope pos) (some (.Name y py)) spos.line X.env = pure true) :
    PS X (.Assign [.Name y py] (.ListComp elt [⟨tg, iter, ifs, 0⟩] scope pos) spos) (tAsg (tLc wi g tt te vs) (gName i)) ∧ SemE X.K X.mg W (tLc wi g tt te vs) (fLc fi set ft fe vs) := by
  subst hv
  have d : Shared := {}
  exact ⟨ps_setLc hc hN hy hyl hsw hi.pi ok (fun s H C cl fp => (hg s H C cl fp).pg) (fun s H C cl fp => (ht s H C cl fp).pts) (fun s H C cl fp => (he s H C cl fp).pe) hs,
    sem_lc hi.sem (hg d (fun _ => none) 0 [] []).sem (ht d (fun _ => none) 0 [] []).sem (he d (fun _ => none) 0 [] []).sem⟩
theorem ds_setLc (i : Nat) {y : Str} {py spos : Pos} (hc : X.calm = true) (hN : X.N.Nodup) (hi : DI X W tg iter wi fi) (ok : BlkOk X.N X.env.scope scope own)
    (hg : ∀ (s : Shared) (H : Hp) (C : Addr) (cl : List (Str × Addr)) (fp : List Addr), DGw (X.blk s H scope (compEnvC scope cl C X.env) fp) tg g set vs) (ht : ∀ (s : Shared) (H : Hp) (C : Addr) (cl : List (Str × Addr)) (fp : List Addr), DTs (X.blk s H scope (compEnvC scope cl C X.env) fp) W0 ifs tt ft)
    (he : ∀ (s : Shared) (H : Hp) (C : Addr) (cl : List (Str × Addr)) (fp : List Addr), DE (X.blk s H scope (compEnvC scope cl C X.env) fp) W0 elt te fe) (hv : vs = own.map (·.2) := by rfl) (hs : ∀ x, foldedSetIterable iter X.env x = pure x := by intro _; rfl) (hy : X.N[i]? = some y := by rfl) (hyl : X.env.scope.names.lookup y = some .local := by rfl)
    (hsw : swapsWith (.ListComp elt [⟨tg, iter, ifs, 0⟩] scope pos) (some (.Name y py)) spos.line X.env = pure true := by exact sw_true rfl rfl rfl (by decide +kernel)) :
    DS X W (.Assign [.Name y py] (.ListComp elt [⟨tg, iter, ifs, 0⟩] scope pos) spos) (tAsg (tLc wi g tt te vs) (gName i)) (fSet i (fLc fi set ft fe vs)) :=
  let h := lc_ps i hc hN hi ok hg ht he hv hs hy hyl hsw
  ⟨h.1, sem_set h.2⟩
theorem ds_setOLc (i : Nat) {y : Str} {py spos : Pos} (hc : X.calm = true) (hN : X.N.Nodup) (hi : DI X W tg iter wi fi) (ok : BlkOk X.N X.env.scope scope own)
    (hg : ∀ (s : Shared) (H : Hp) (C : Addr) (cl : List (Str × Addr)) (fp : List Addr), DGw (X.blk s H scope (compEnvC scope cl C X.env) fp) tg g set vs) (ht : ∀ (s : Shared) (H : Hp) (C : Addr) (cl : List (Str × Addr)) (fp : List Addr), DTs (X.blk s H scope (compEnvC scope cl C X.env) fp) W0 ifs tt ft)
    (he : ∀ (s : Shared) (H : Hp) (C : Addr) (cl : List (Str × Addr)) (fp : List Addr), DE (X.blk s H scope (compEnvC scope cl C X.env) fp) W0 elt te fe) (hv : vs = own.map (·.2) := by rfl) (hs : ∀ x, foldedSetIterable iter X.env x = pure x := by intro _; rfl) (hy : X.N[i]? = some y := by rfl) (hyl : X.env.scope.names.lookup y = some .local := by rfl)
    (hsw : swapsWith (.ListComp elt [⟨tg, iter, ifs, 0⟩] scope pos) (some (.Name y py)) spos.line X.env = pure true := by exact sw_true rfl rfl rfl (by decide +kernel)) :
    DS X W (.Assign [.Name y py] (.ListComp elt [⟨tg, iter, ifs, 0⟩] scope pos) spos) (tAsg (tLc wi g tt te vs) (gName i)) (fSetO i (fLc fi set ft fe vs)) :=
  let h := lc_ps i hc hN hi ok hg ht he hv hs hy hyl hsw
  ⟨h.1, sem_setO h.2⟩
theorem ds_setBLc (i : Nat) {y : Str} {py spos : Pos} (hc : X.calm = true) (hN : X.N.Nodup) (hi : DI X W tg iter wi fi) (ok : BlkOk X.N X.env.scope scope own)
    (hg : ∀ (s : Shared) (H : Hp) (C : Addr) (cl : List (Str × Addr)) (fp : List Addr), DGw (X.blk s H scope (compEnvC scope cl C X.env) fp) tg g set vs) (ht : ∀ (s : Shared) (H : Hp) (C : Addr) (cl : List (Str × Addr)) (fp : List Addr), DTs (X.blk s H scope (compEnvC scope cl C X.env) fp) W0 ifs tt ft)
    (he : ∀ (s : Shared) (H : Hp) (C : Addr) (cl : List (Str × Addr)) (fp : List Addr), DE (X.blk s H scope (compEnvC scope cl C X.env) fp) W0 elt te fe) (hv : vs = own.map (·.2) := by rfl) (hs : ∀ x, foldedSetIterable iter X.env x = pure x := by intro _; rfl) (hy : X.N[i]? = some y := by rfl) (hyl : X.env.scope.names.lookup y = some .local := by rfl)
    (hsw : swapsWith (.ListComp elt [⟨tg, iter, ifs, 0⟩] scope pos) (some (.Name y py)) spos.line X.env = pure true := by exact sw_true rfl rfl rfl (by decide +kernel)) :
    DS X W (.Assign [.Name y py] (.ListComp elt [⟨tg, iter, ifs, 0⟩] scope pos) spos) (tAsg (tLc wi g tt te vs) (gName i)) (fSetB i (fLc fi set ft fe vs)) :=
  let h := lc_ps i hc hN hi ok hg ht he hv hs hy hyl hsw
  ⟨h.1, sem_setB h.2⟩
theorem ds_setBOLc (i : Nat) {y : Str} {py spos : Pos} (hc : X.calm = true) (hN : X.N.Nodup) (hi : DI X W tg iter wi fi) (ok : BlkOk X.N X.env.scope scope own)
    (hg : ∀ (s : Shared) (H : Hp) (C : Addr) (cl : List (Str × Addr)) (fp : List Addr), DGw (X.blk s H scope (compEnvC scope cl C X.env) fp) tg g set vs) (ht : ∀ (s : Shared) (H : Hp) (C : Addr) (cl : List (Str × Addr)) (fp : List Addr), DTs (X.blk s H scope (compEnvC scope cl C X.env) fp) W0 ifs tt ft)
    (he : ∀ (s : Shared) (H : Hp) (C : Addr) (cl : List (Str × Addr)) (fp : List Addr), DE (X.blk s H scope (compEnvC scope cl C X.env) fp) W0 elt te fe) (hv : vs = own.map (·.2) := by rfl) (hs : ∀ x, foldedSetIterable iter X.env x = pure x := by intro _; rfl) (hy : X.N[i]? = some y := by rfl) (hyl : X.env.scope.names.lookup y = some .local := by rfl)
    (hsw : swapsWith (.ListComp elt [⟨tg, iter, ifs, 0⟩] scope pos) (some (.Name y py)) spos.line X.env = pure true := by exact sw_true rfl rfl rfl (by decide +kernel)) :
    DS X W (.Assign [.Name y py] (.ListComp elt [⟨tg, iter, ifs, 0⟩] scope pos) spos) (tAsg (tLc wi g tt te vs) (gName i)) (fSetBO i (fLc fi set ft fe vs)) :=
  let h := lc_ps i hc hN hi ok hg ht he hv hs hy hyl hsw
  ⟨h.1, sem_setBO h.2⟩
/-! ### raise, by name -/
def tRz (mg : Str → Option Value) (W : WX) (x : Str) : TS := fun _ σ H => ∀ C, mg x = some (.ref C) → W (.ref C) none σ H
theorem ds_rz {m : Str} {j : Nat} {p2 cpos : Pos} (C : Ecls X.K X.mg x) (tk : L2N.Takes X W) (hc : X.calm = true) (hg : Gl X x := by rfl) (hdb : (x == ("__debug__" : Str)) = false := by decide) :
    DS X W (.Raise (some (.Call (.Name x o1) [.Constant (.str m) j p2] [] cpos)) none pos) (tRz X.mg W x) (fun δ => .exc x δ) := by
  obtain ⟨C, gC, xC, kC, bC, tC⟩ := C
  exact ⟨⟨fun pins s σ H D I h => (L2N.ps_raise hc tk (L2N.pmk_own PySem.F.excBase_ValueError xC gC kC (raises_own bC tC) hg hdb)).run pins s σ H D I (h C gC)⟩, fun G0 H0 D H σ δ S q C hm => q σ H C S hm⟩
/-! ### a def, its context given -/
section
variable {P : Program} {w : World} {K : PySem.W.Frag} {base : Heap}
theorem fnE {x y qual : Str} {st : Stmt} {f : Addr} {fd : FuncData} {N ps : List Str} {k n : Nat} {fs : List D → R} (Fn : Fun K y qual st f fd) (S : FnScope N ps (defScope st)) (hn : ps.length = n) (b : Binds K fd ps []) (g : mg x = some (.ref f)) (len : ∀ ds, fs ds ≠ .bad → ds.length = n) (Fb : List Sl → Fl) (hf : ∀ ds, fs ds ≠ .bad → (Fb (slots0 N.length ds)).toR = fs ds)
    (hb : ∀ (cdv : Value) (A : Around) (outer : List Env) (s : Shared) (H : Hp) (E : XK) (X : Cx), X = cxOf (L2N.CX P w) P w K mg base N qual (defScope st) f cdv A outer s H E → Room k X.A → L2N.Takes X (WD E) → PassesOwn (model X.prog X.w) X.A X.env X.xe →
      ∃ t, DSs (cxOf (L2N.CX P w) P w K mg base N qual (defScope st) f cdv A outer s H E) (WD E) (defBody st) t Fb) : Cal P w K mg base (k + 1) x n fs :=
  fnD Fn S hn b g len fun cdv A outer s H E hr => by
    obtain ⟨t, d⟩ := hb cdv A outer s H E _ rfl hr (L2N.takes_of rfl rfl rfl rfl) (passes_of rfl)
    exact ⟨t, Fb, d, hf⟩
end
end
end DL
set_option Elab.async false
set_option linter.all false
set_option maxRecDepth 100000
set_option maxHeartbeats 4000000
namespace DL
open PySem PySem.Spec PyProof.Rows L2
variable {K : PySem.W.Frag}
def fSeq (F1 F2 : List Sl → Fl) : List Sl → Fl := fun δ => (F1 δ).andThen F2
/-- a def's answer: its body's, at its arguments -/
def run (n m : Nat) (F : List Sl → Fl) : List D → R := fun ds => if ds.length = n then (F (slots0 m ds)).toR else .bad
theorem run_len {n m : Nat} {F : List Sl → Fl} (ds : List D) (h : run n m F ds ≠ .bad) : ds.length = n := by
  unfold run at h
  by_cases e : ds.length = n
  · exact e
  · rw [if_neg e] at h; exact absurd rfl h
section
variable {mg : Str → Option Value} {P : Program} {w : World} {base : Heap} {x y qual : Str} {st : Stmt} {f : Addr} {fd : FuncData} {N ps : List Str} {k n : Nat}
/-- a def, its context given -/
theorem fnG (Fn : Fun K y qual st f fd) (S : FnScope N ps (defScope st)) (hn : ps.length = n) (b : Binds K fd ps []) (g : mg x = some (.ref f)) (Fb : List Sl → Fl)
    (hb : ∀ (cdv : Value) (A : Around) (outer : List Env) (s : Shared) (H : Hp) (E : XK) (X : Cx), X = cxOf (L2N.CX P w) P w K mg base N qual (defScope st) f cdv A outer s H E → Room k (A.deeper (envOfC qual (defScope st) s.heap.objs.size f cdv)) → L2N.Takes X (WD E) → PassesOwn (model X.prog X.w) X.A X.env X.xe →
      ∃ t F', DSs (cxOf (L2N.CX P w) P w K mg base N qual (defScope st) f cdv A outer s H E) (WD E) (defBody st) t F' ∧ F' = Fb) : Cal P w K mg base (k + 1) x n (run n N.length Fb) :=
  fnE Fn S hn b g run_len Fb (fun ds h => by
    have e := run_len ds h
    unfold run
    rw [if_pos e]) fun cdv A outer s H E X h1 h2 h3 h4 => by
    obtain ⟨t, F', d, e⟩ := hb cdv A outer s H E X h1 (by subst h1; exact h2) h3 h4
    exact ⟨t, e ▸ d⟩
/-- the law's own promise -/
def spL (K : PySem.W.Frag) : Sp := fun vs H Q _ => ∃ (a : Addr) (ns : List Int), vs = [.ref a] ∧ SqL K H a (ns.map V.int) ∧ ns.length ≤ 63 ∧ ∀ H', Q (.bl true) H'
theorem fnL (Fn : Fun K y qual st f fd) (S : FnScope N ps (defScope st)) (hn : ps.length = 1) (Fb : List Sl → Fl) (hl : ∀ ns : List Int, ns.length ≤ 63 → run 1 N.length Fb [scr ns] = .ok (.bool true))
    (hb : ∀ (cdv : Value) (A : Around) (outer : List Env) (s : Shared) (H : Hp) (E : XK) (X : Cx), X = cxOf (L2N.CX P w) P w K mg base N qual (defScope st) f cdv A outer s H E → Room k (A.deeper (envOfC qual (defScope st) s.heap.objs.size f cdv)) → L2N.Takes X (WD E) → PassesOwn (model X.prog X.w) X.A X.env X.xe →
      ∃ t F', DSs (cxOf (L2N.CX P w) P w K mg base N qual (defScope st) f cdv A outer s H E) (WD E) (defBody st) t F' ∧ F' = Fb) : FnOk P w K mg base (L2N.CX P w) (k + 1) f fd ps (spL K) :=
  okC Fn S (fun vs H Q E h => by
    obtain ⟨a, ns, rfl, _⟩ := h
    rw [hn]; rfl) (fun cdv A outer s H vs Q E hr h => by
    obtain ⟨a, ns, rfl, hS, h63, q⟩ := h
    obtain ⟨t, F', d, eF⟩ := hb cdv A outer s H E _ rfl hr (L2N.takes_of rfl rfl rfl rfl) (passes_of rfl)
    subst eF
    have r : RepL K H [scr ns] [.ref a] := ⟨.ref a, [], rfl, .inr (.inl ⟨ns, a, rfl, rfl, hS⟩), rfl⟩
    have e : (F' (slots0 N.length [scr ns])).toR = .ok (.bool true) := by
      have := hl ns h63
      unfold run at this
      rw [if_pos (show [scr ns].length = 1 from rfl)] at this
      exact this
    refine ⟨t, d.pss, d.sem H H _ H _ (slots0 N.length [scr ns]) ⟨H, Ext.refl (Same.refl _), st_start (Same.refl _) r⟩ ?_⟩
    cases hF : F' (slots0 N.length [scr ns]) with
    | nx δ => rw [hF] at e; cases e
    | rt d =>
      rw [hF] at e
      cases e
      exact fun v G' H' _ r => by cases r; exact q H'
    | rn ds => rw [hF] at e; cases e
    | exc c δ => rw [hF] at e; cases e
    | bk δ => rw [hF] at e; cases e
    | ct δ => rw [hF] at e; cases e
    | bad => rw [hF] at e; cases e)
theorem takesN {X : Cx} : L2N.Takes X (fun _ _ _ _ => False) := fun _ _ x => by
  obtain ⟨_, _, _, _, _, _, _, _, _, _, _, _, _, _, _, _, z⟩ := x
  exact z.elim
theorem noCX {P : Program} (w : World) (H : Hp) (s : Shared) (e : Value) (s' : Shared) (h : L2N.CX P w [] H s (fun _ _ _ => False) e s') : False := by
  obtain ⟨_, _, _, _, _, _, _, _, _, _, _, _, z⟩ := h
  exact z.elim
end

/-! ### the rules whose readings name the written part, that part told -/
section
variable {X : Cx} {W : WX} {e : Expr} {es : List Expr} {te : TE} {fe : List Sl → R} {t : TA} {fa : List Sl → RL} {pos p p2 : Pos} {tg : Expr}
theorem k_add (K : PySem.W.Frag) (hK : X.K = K := by rfl) : OpR X (binaryOp .Add) (rAddA K) ∧ OpSem X.K (rAddA K) gAdd := by subst hK; exact o_add
theorem k_mul (K : PySem.W.Frag) (hK : X.K = K := by rfl) : OpR X (binaryOp .Mult) (rMulA K) ∧ OpSem X.K (rMulA K) gMul := by subst hK; exact o_mul
theorem k_eq (K : PySem.W.Frag) (hu : X.A.units + 64 < cLine) (hK : X.K = K := by rfl) : OpR X (compareOp .Eq) (rEqP K) ∧ OpSem X.K (rEqP K) gEq := by subst hK; exact o_eq hu
theorem k_ne (K : PySem.W.Frag) (hu : X.A.units + 64 < cLine) (hK : X.K = K := by rfl) : OpR X (compareOp .NotEq) (rNeP K) ∧ OpSem X.K (rNeP K) gNe := by subst hK; exact o_ne hu
theorem k_in (K : PySem.W.Frag) (hu : X.A.units + 64 < cLine) (hK : X.K = K := by rfl) : OpR X (compareOp .In) (rInA K) ∧ OpSem X.K (rInA K) (gIn false) := by subst hK; exact o_in hu
theorem k_ni (K : PySem.W.Frag) (hu : X.A.units + 64 < cLine) (hK : X.K = K := by rfl) : OpR X (compareOp .NotIn) (rNiA K) ∧ OpSem X.K (rNiA K) (gIn true) := by subst hK; exact o_ni hu
theorem k_ix (K : PySem.W.Frag) (hK : X.K = K := by rfl) : IxR X (rIx K) ∧ OpSem X.K (rIx K) gIx := by subst hK; exact o_ix
theorem k_slice (K : PySem.W.Frag) {lo hi : Option Expr} {tl th : TO} {fl fh : List Sl → RO} (he : DE X W e te fe) (hl : DO X W lo tl fl) (hh : DO X W hi th fh) (hK : X.K = K := by rfl) :
    DE X W (.Subscript e (.Slice lo hi none p2) pos) (tSl (rSlAny K) te tl th) (fSl fe fl fh) := by subst hK; exact de_slice he hl hh
theorem k_len (K : PySem.W.Frag) (hK : X.K = K := by rfl) : CallR X (.builtin "len") (fun xs H Q => ∃ x n, xs = [x] ∧ LenV K x H n ∧ Q (.int n) H) ∧ CallSem X.K (fun xs H Q => ∃ x n, xs = [x] ∧ LenV K x H n ∧ Q (.int n) H) gLen := by subst hK; exact c_len
theorem k_tuple (K : PySem.W.Frag) (hK : X.K = K := by rfl) : CallR X (.type "tuple") (fun xs H Q => ∃ p ys, xs = [.ref p] ∧ ((SqL K H p ys ∧ ∀ l, H l = none → Q (.ref l) (upd H l (.tup ys))) ∨ (SqT K H p ys ∧ Q (.ref p) H))) ∧ CallSem X.K (fun xs H Q => ∃ p ys, xs = [.ref p] ∧ ((SqL K H p ys ∧ ∀ l, H l = none → Q (.ref l) (upd H l (.tup ys))) ∨ (SqT K H p ys ∧ Q (.ref p) H))) gTuple := by subst hK; exact c_tuple
theorem k_list (K : PySem.W.Frag) (hK : X.K = K := by rfl) : CallR X (.type "list") (fun xs H Q => ∃ p ys, xs = [.ref p] ∧ (SqL K H p ys ∨ SqT K H p ys) ∧ ∀ l, H l = none → Q (.ref l) (upd H l (.lst ys))) ∧ CallSem X.K (fun xs H Q => ∃ p ys, xs = [.ref p] ∧ (SqL K H p ys ∨ SqT K H p ys) ∧ ∀ l, H l = none → Q (.ref l) (upd H l (.lst ys))) gList := by subst hK; exact c_list
theorem k_isi (K : PySem.W.Frag) {y : Str} (he : DE X W e te fe) (hm : X.mg "isinstance" = none) (hmy : X.mg y = none) (T : String) (hK : X.K = K := by rfl) (hv : bootBuiltins y = some (.type T) := by first | rfl | decide +kernel) (hT : T = "int" ∨ T = "bool" ∨ T = "str" ∨ T = "tuple" ∨ T = "list" := by decide)
    (hg : Gl X "isinstance" := by rfl) (hgy : Gl X y := by rfl) (hvi : bootBuiltins "isinstance" = some (.builtin "isinstance") := by first | rfl | decide +kernel) (hny : y ≠ "__name__" := by decide) (hdy : (y == ("__debug__" : Str)) = false := by decide)
    (h1 : starEach [e, .Name y p2] X.env = (false, eval e X.env) :: starEach [.Name y p2] X.env := by rfl) (h2 : starEach [.Name y p2] X.env = (false, eval (.Name y p2) X.env) :: starEach [] X.env := by rfl) (hpl : (backTo pos (starEach [.Name y p2] X.env)).any (·.1) = false := by rfl) :
    DE X W (.Call (.Name "isinstance" p) [e, .Name y p2] [] pos) (tCB (rIsiD K) (tCons te (tCons (tC (.ty T)) tNil))) (fIsi T fe) := by subst hK; exact de_isi he hm hmy T hv hT hg hgy hvi hny hdy h1 h2 hpl
theorem k_seq (K : PySem.W.Frag) (he : DE X W e te fe) (hK : X.K = K := by rfl) : DI X W tg e (iSeqB K te) (fSeqI fe) := by subst hK; exact di_seq he
theorem k_rev (K : PySem.W.Frag) (hm : X.mg "reversed" = none) (he : DE X W e te fe) (hK : X.K = K := by rfl) (hg : Gl X "reversed" := by rfl) (hs : starEach [e] X.env = (false, eval e X.env) :: starEach [] X.env := by rfl) : DI X W tg (.Call (.Name "reversed" p) [e] [] pos) (RT.iRevA K te) (fRevI fe) := by subst hK; exact di_rev hm he hg hs
theorem kg_tup (K : PySem.W.Frag) {kk : Nat} {is : List Nat} (hc : X.calm = true) (h : DGs X es is) (hK : X.K = K := by rfl) (hn : (assignEach es X.env).length = is.length := by rfl) (hst : (assignEach es X.env).findIdx? (·.1) = none := by rfl) :
    DG X (.Tuple es kk pos) (gTup K is.length (gNames is)) (setT is) := by subst hK; exact dg_tup hc h hn hst
theorem kw_tup (K : PySem.W.Frag) {kk : Nat} {is vs : List Nat} (hc : X.calm = true) (h : DGs X es is) (hK : X.K = K := by rfl) (hv : ∀ i ∈ is, i ∈ vs := by decide) (hn : (assignEach es X.env).length = is.length := by rfl) (hst : (assignEach es X.env).findIdx? (·.1) = none := by rfl) :
    DGw X (.Tuple es kk pos) (gTup K is.length (gNames is)) (setT is) vs := by subst hK; exact dgw_tup hc h hv hn hst
theorem k_call {P : Program} {w : World} {K : PySem.W.Frag} {mg : Str → Option Value} {base : Heap} {k n j : Nat} {x : Str} {f : List D → R} (C : Cal P w K mg base j x n f) (hr : Room k X.A) (hj : j ≤ k) (tk : L2N.Takes X W) (ha : DA X W (e :: es) t fa) (hP : X.prog = P := by rfl) (hw : X.w = w := by rfl) (hK : X.K = K := by rfl) (hm : X.mg = mg := by rfl) (hb : X.base = base := by rfl) (hg : Gl X x := by rfl) (hdb : (x == ("__debug__" : Str)) = false := by decide)
    (he : starEach (e :: es) X.env = (false, eval e X.env) :: starEach es X.env := by rfl) (hpl : (backTo pos (starEach es X.env)).any (·.1) = false := by rfl) : DE X W (.Call (.Name x p) (e :: es) [] pos) (tCallS (spD K mg n f) (WE W) t) (fCall f fa) := by
  subst hP hw hK hm hb
  exact de_call C (hr.mono hj) tk ha hg hdb he hpl
end
end DL
set_option Elab.async false
set_option linter.all false
set_option maxRecDepth 100000
set_option maxHeartbeats 4000000
/-! zip of a list and a tuple in any mixture, enumerate, reversed(range(..)), freezing of own lists -/
namespace DL
open PySem PySem.Spec PyProof.Rows L2
/-! ### one side of a zip: true a list, false a tuple -/
def SqB (K : PySem.W.Frag) (b : Bool) (H : Hp) (a : Addr) (xs : List V) : Prop := match b with
  | true => SqL K H a xs
  | false => SqT K H a xs
def ItB (b : Bool) (h : Heap) (it a : Addr) (i : Nat) : Prop := match b with
  | true => h.IsListIter it a i
  | false => h.IsTupleIter it a i
def IsB (b : Bool) (h : Heap) (a : Addr) (its : Array Value) : Prop := match b with
  | true => h.IsList a its
  | false => h.IsTuple a its
def obB (b : Bool) (a : Addr) : Obj := match b with
  | true => { cls := .type "list_iterator", data := .fields #[.ref a, .int 0 0] }
  | false => { cls := .type "tuple_iterator", data := .fields #[.ref a, .int 0 0] }
section
variable {X : Cx} {pins : List (Addr × Obj)} {σ : L2.St} {H : Hp} {s : Shared} {b : Bool} {a : Addr} {xs ys : List V}
theorem sqB_in (I : Inv X pins σ H s) (h : SqB X.K b H a xs) : ∃ its : List Value, Vals xs its ∧ IsB b s.heap a its.toArray ∧ a < s.heap.objs.size := by
  cases b
  · obtain ⟨its, r, p, _⟩ := I.tuple h
    obtain ⟨o, ho, q⟩ := id p
    exact ⟨its, r, ⟨o, ho, q⟩, Heap.lt_size ho⟩
  · obtain ⟨its, r, p, _⟩ := I.list h
    exact ⟨its, r, p.isList, p.lt⟩
theorem sqB_inj (I : Inv X pins σ H s) (h1 : SqB X.K b H a xs) (h2 : SqB X.K b H a ys) : xs = ys := by
  cases b
  · exact I.tuple_inj h1 h2
  · exact I.list_inj h1 h2
theorem itB_obj {h : Heap} {it : Addr} {i : Nat} (x : ItB b h it a i) : ∃ o, h.get? it = some o ∧ ∀ v, o.data ≠ .cell v := by
  cases b
  · obtain ⟨o, e, _, d⟩ := x
    exact ⟨o, e, fun v q => by rw [d] at q; cases q⟩
  · obtain ⟨o, e, _, d⟩ := x
    exact ⟨o, e, fun v q => by rw [d] at q; cases q⟩
theorem itB_at {h h' : Heap} {it : Addr} {i : Nat} (x : ItB b h it a i) (k : ∀ o, h.get? it = some o → h'.get? it = some o) : ItB b h' it a i := by
  cases b
  · exact Heap.IsTupleIter.at x fun o q => k o q
  · exact Heap.IsListIter.at x fun o q => k o q
theorem drawsB {P : Program} {w : World} {A : Around} (hh : A.handled = none) (b : Bool) (it l : Addr) (hne : l ≠ it) (items : Array Value) :
    Draws P w A it [it, l] items.size (fun i v => items[i]? = some v) (fun i h => ItB b h it l i ∧ IsB b h l items) := by
  cases b
  · exact Draws.tuple hh it l hne items
  · exact Draws.list hh it l hne items
theorem beginsB (b : Bool) (a : Addr) (items : Array Value) : Begins (.ref a) (obB b a) fun h => IsB b h a items := by
  cases b
  · exact begins_tuple a items
  · exact begins_list a items
theorem itB_new {h : Heap} {it : Addr} (e : h.get? it = some (obB b a)) : ItB b h it a 0 := by
  cases b
  · exact ⟨_, e, rfl, rfl⟩
  · exact ⟨_, e, rfl, rfl⟩
end
/-- what is walked: the pairs -/
def ItzB (K : PySem.W.Frag) (c d : Bool) (a b : Addr) : It :=
  ⟨fun i H => ∃ xs ys x y, SqB K c H a xs ∧ SqB K d H b ys ∧ xs[i]? = some x ∧ ys[i]? = some y,
    fun i H v H' => ∃ T x y, v = V.ref T ∧ H T = none ∧ H' = upd H T (.tup [x, y]) ∧ (∀ xs, SqB K c H a xs → xs[i]? = some x) ∧ (∀ ys, SqB K d H b ys → ys[i]? = some y),
    fun i H => ∃ xs ys, SqB K c H a xs ∧ SqB K d H b ys ∧ (i = xs.length ∧ i ≤ ys.length ∨ i = ys.length ∧ i ≤ xs.length)⟩
structure Apart5 (z TI TO i1 i2 a b : Addr) : Prop where
  sep : ZipSep2 z TI TO i1 i2 [i1, a] [i2, b]
  n1 : a ≠ i1
  n2 : b ≠ i2
theorem mem5 {c z TI TO i1 i2 : Addr} (h : c ∈ [z, TI, TO, i1, i2]) : c = z ∨ c = TI ∨ c = TO ∨ c = i1 ∨ c = i2 := by simpa using h
theorem not5 {c z TI TO i1 i2 : Addr} (h : c ∉ [z, TI, TO, i1, i2]) : c ≠ z ∧ c ≠ TI ∧ c ≠ TO ∧ c ≠ i1 ∧ c ≠ i2 := by
  refine ⟨?_, ?_, ?_, ?_, ?_⟩ <;> (rintro rfl; exact h (by simp))
def TnB (c d : Bool) (a b z TI TO i1 i2 : Addr) (i : Nat) (h : Heap) : Prop :=
  IsZip h z TI TO .none ∧ IsTupOf2 h TI (.ref i1) (.ref i2) ∧ (∃ x y, IsTupOf2 h TO x y) ∧ ItB c h i1 a i ∧ ItB d h i2 b i
theorem tnB_obj {c d : Bool} {a b z TI TO i1 i2 x : Addr} {i : Nat} {h : Heap} (t : TnB c d a b z TI TO i1 i2 i h) (hx : x ∈ [z, TI, TO, i1, i2]) : ∃ o, h.get? x = some o ∧ ∀ v, o.data ≠ .cell v := by
  obtain ⟨t1, t2, ⟨u, v, t3⟩, t4, t5⟩ := t
  rcases mem5 hx with rfl | rfl | rfl | rfl | rfl
  · exact ⟨_, t1, fun _ q => nomatch q⟩
  · exact ⟨_, t2, fun _ q => nomatch q⟩
  · exact ⟨_, t3, fun _ q => nomatch q⟩
  · exact itB_obj t4
  · exact itB_obj t5
theorem tnB_keep {c d : Bool} {a b z TI TO i1 i2 : Addr} {i : Nat} {h h' : Heap} (t : TnB c d a b z TI TO i1 i2 i h) (k : ∀ x ∈ [z, TI, TO, i1, i2], ∀ o, h.get? x = some o → h'.get? x = some o) : TnB c d a b z TI TO i1 i2 i h' := by
  obtain ⟨t1, t2, ⟨u, v, t3⟩, t4, t5⟩ := t
  exact ⟨k z (by simp) _ t1, k TI (by simp) _ t2, ⟨u, v, k TO (by simp) _ t3⟩, itB_at t4 (k i1 (by simp)), itB_at t5 (k i2 (by simp))⟩
theorem turn_zipB {P : Program} {w : World} {K : PySem.W.Frag} {elts : List Expr} {kk : Nat} {tpos : Pos} {c d : Bool} {a b z TI TO i1 i2 : Addr} (D : Apart5 z TI TO i1 i2 a b) :
    Turn P w K (.Tuple elts kk tpos) (ItzB K c d a b) [z, TI, TO, i1, i2] z (TnB c d a b z TI TO i1 i2) where
  mem := by simp
  obj := fun i h t x hx => tnB_obj t hx
  keep := fun i h h' t k => tnB_keep t k
  item := by
    rintro X rfl rfl rfl hc i pins s σ H E I hf t ⟨xs, ys, x, y, qx, qy, ex, ey⟩
    obtain ⟨v1, r1, p1, _⟩ := sqB_in I qx
    obtain ⟨v2, r2, p2, _⟩ := sqB_in I qy
    have D1 := drawsB (P := X.prog) (w := X.w) (A := X.A.in1) (I.ok.hd hc) c i1 a D.n1 v1.toArray
    have D2 := drawsB (P := X.prog) (w := X.w) (A := X.A.in1) (I.ok.hd hc) d i2 b D.n2 v2.toArray
    obtain ⟨u1, e1, ru1⟩ := r1.get ex
    obtain ⟨u2, e2, ru2⟩ := r2.get ey
    obtain ⟨t1, t2, ⟨w1, w2, t3⟩, t4, t5⟩ := id t
    have l1 : i < v1.toArray.size := by simpa using (List.getElem?_eq_some_iff.mp e1).1
    have l2 : i < v2.toArray.size := by simpa using (List.getElem?_eq_some_iff.mp e2).1
    refine wpAny_pyNext_zipD2_item D.sep D1 D2 t1 t2 t3 ⟨t4, p1⟩ ⟨t5, p2⟩ l1 l2 fun g1 g2 h' tk f1 f2 z' nTO s1 s2 nT hsz hk => ?_
    have eg1 : g1 = u1 := by
      have f1' : v1.toArray[i]? = some g1 := f1
      rw [List.getElem?_toArray, e1] at f1'
      exact (Option.some.inj f1').symm
    have eg2 : g2 = u2 := by
      have f2' : v2.toArray[i]? = some g2 := f2
      rw [List.getElem?_toArray, e2] at f2'
      exact (Option.some.inj f2').symm
    subst eg1 eg2
    have zlt := Heap.lt_size t1
    refine ⟨_, rfl, wpAny_letOwnedTupleGo_zip (s := { s with heap := h', toks := tk }) z' fun h2 z2 sb => ?_⟩
    have sep := D.sep
    have go : ∀ m o, m ≠ z → h'.get? m = some o → h2.get? m = some o := fun m o hm q => (sb.2 _ hm).trans q
    have nT2 := go _ _ (Nat.ne_of_gt zlt) nT
    have nw : ObjOk X.prog X.w (upd H s.heap.objs.size (.tup [x, y])) h2 s.heap.objs.size (.tup [x, y]) :=
      ⟨by rw [sizeLine_eq]; show 2 ≤ _; decide, [g1, g2], .cons ru1 (.cons ru2 .nil), _, nT2, rfl, _, rfl⟩
    have up : ∀ m o, m ∉ [z, TI, TO, i1, i2] → s.heap.get? m = some o → h2.get? m = some o := fun m o hm q =>
      let ⟨a1, _, a3, a4, a5⟩ := not5 hm
      go m o a1 (hk m o a1 a3 a4 a5 q)
    refine ⟨.ref s.heap.objs.size, _, I.turnedNew (t' := tk) up hf (Nat.le_refl _) nw, rfl, ⟨_, x, y, rfl, I.hok.fresh (Nat.le_refl _), rfl, fun l hl => by rw [sqB_inj I hl qx]; exact ex, fun l hl => by rw [sqB_inj I hl qy]; exact ey⟩, ⟨z2, ?_, ⟨g1, g2, ?_⟩, ?_, ?_⟩, fun m hm => ?_⟩
    · exact go _ _ sep.TIz (hk _ _ sep.TIz sep.TITO sep.TIi1 sep.TIi2 t2)
    · exact go _ _ sep.TOz nTO
    · exact itB_at s1.1 fun o q => go _ o sep.zi1.symm q
    · exact itB_at s2.1 fun o q => go _ o sep.zi2.symm q
    · obtain ⟨o, eo, _⟩ := tnB_obj t hm
      rw [upd_ne (Nat.ne_of_lt (Heap.lt_size eo))]
      exact (hf m hm).1
  done := by
    rintro X rfl rfl rfl hc i pins s σ H E I hf t ⟨xs, ys, qx, qy, hend⟩
    obtain ⟨v1, r1, p1, _⟩ := sqB_in I qx
    obtain ⟨v2, r2, p2, _⟩ := sqB_in I qy
    have D1 := drawsB (P := X.prog) (w := X.w) (A := X.A.in1) (I.ok.hd hc) c i1 a D.n1 v1.toArray
    have D2 := drawsB (P := X.prog) (w := X.w) (A := X.A.in1) (I.ok.hd hc) d i2 b D.n2 v2.toArray
    obtain ⟨t1, t2, ⟨w1, w2, t3⟩, t4, t5⟩ := id t
    have l1 := r1.length
    have l2 := r2.length
    have s1 : v1.toArray.size = v1.length := List.size_toArray ..
    have s2 : v2.toArray.size = v2.length := List.size_toArray ..
    refine wpAny_pyNext_zipD2_end D.sep D1 D2 t1 t2 t3 ⟨t4, p1⟩ ⟨t5, p2⟩ (by omega) (by omega) (by omega) fun h' tk hk => ⟨rfl, I.turnedL (t' := tk) (fun m o hm q => ?_) hf⟩
    obtain ⟨a1, _, a3, a4, a5⟩ := not5 hm
    exact hk m o a1 a3 a4 a5 q
  self := fun A i s Q E t h => wpAny_pyIter_zip t.1 h
theorem neq_of {a b : Nat} (h : a < b ∨ b < a) : ¬ (a = b) := by omega
theorem apart_new (n a b : Nat) (ha : a < n) (hb : b < n) : Apart5 (n + 4) (n + 2) (n + 3) n (n + 1) a b := by
  refine ⟨?_, Nat.ne_of_lt ha, Nat.ne_of_lt (Nat.lt_succ_of_lt hb)⟩
  constructor <;> simp only [List.mem_cons, List.not_mem_nil, or_false, true_or, not_or, ne_eq] <;> (first | exact neq_of (by omega) | exact ⟨neq_of (by omega), neq_of (by omega)⟩)
def iZipB (K : PySem.W.Frag) (ta : TA) : TI := fun σ H R => ta σ H fun vs H1 => ∃ (c d : Bool) (a b : Addr) (xs ys : List V), vs = [.ref a, .ref b] ∧ SqB K c H1 a xs ∧ SqB K d H1 b ys ∧ R (ItzB K c d a b) H1
theorem pi_zipB {X : Cx} {e e2 : Expr} {ta : TA} {p pos tpos : Pos} {elts : List Expr} {kk : Nat} (hg : Gl X "zip") (hm : X.mg "zip" = none) (ha : PA X [e, e2] ta)
    (hs : starEach [e, e2] X.env = (false, eval e X.env) :: starEach [e2] X.env := by rfl) (hpl : (backTo pos (starEach [e2] X.env)).any (·.1) = false := by rfl) :
    PI X (.Tuple elts kk tpos) (.Call (.Name "zip" p) [e, e2] [] pos) (iZipB X.K ta) := ⟨fun pins s σ H R I h => by
  have run := ha.run pos pins s σ H _ I h
  refine Call_ (ld_blt I hg hm PyProof.Rows.boot_zip (PyProof.Rows.callWith_type1 (thn run fun us s1 got => ?_) hs hpl))
  obtain ⟨vs, H1, I1, rvs, c, d, a, b, xs, ys, rfl, qx, qy, q⟩ := got
  obtain ⟨u1, us2, rfl, rel1, rvs2⟩ : ∃ u1 us2, us = u1 :: us2 ∧ RelV (.ref a) u1 ∧ Vals [.ref b] us2 := by
    cases rvs with
    | cons r1 r2 => exact ⟨_, _, rfl, r1, r2⟩
  obtain ⟨u2, rfl, rel2⟩ := vals1 rvs2
  cases rel1
  cases rel2
  obtain ⟨v1, r1, p1, lt1⟩ := sqB_in I1 qx
  obtain ⟨v2, r2, p2, lt2⟩ := sqB_in I1 qy
  have nf : ∀ m, m ∈ [s1.heap.objs.size + 4, s1.heap.objs.size + 2, s1.heap.objs.size + 3, s1.heap.objs.size, s1.heap.objs.size + 1] → FpOk X pins H1 m := fun m hm => by
    have le : s1.heap.objs.size ≤ m := by rcases mem5 hm with e | e | e | e | e <;> rw [e] <;> omega
    exact I1.fpOk le (I1.hok.fresh le)
  refine zip_begins2 (beginsB c a v1.toArray) (beginsB d b v2.toArray) p1 p2 fun h' z1 z2 z3 z4 z5 _ hk => wpAny_pyIter_zip z1 ?_
  exact ⟨_, _, _, _, H1, rfl, I1.kept (t' := s1.toks) hk, turn_zipB (apart_new _ a b lt1 lt2), ⟨z1, z2, ⟨_, _, z3⟩, itB_new z4, itB_new z5⟩, nf, q⟩⟩
section
variable {K : PySem.W.Frag} {G : Hp} {a b : Addr} {xs ys : List V} {ds es : List D}
def tupHO (b : Bool) (xs : List V) : HO := match b with
  | true => .lst xs
  | false => .tup xs
def SqA (c : Bool) (G : Hp) (a : Addr) (xs : List V) : Prop := match c with
  | true => G a = some (.lst xs)
  | false => TupAt G a xs
theorem SqA.mono {c : Bool} {G G' : Hp} (s : Same G G') (h : SqA c G a xs) : SqA c G' a xs := by
  cases c
  · exact TupAt.mono s h
  · exact s _ _ h
theorem sqB_mk {c : Bool} {H : Hp} (h : SqA c H a xs) : SqB K c H a xs := by
  cases c
  · exact TupAt.sq h
  · exact sq_inj h
def prD (x y : D) : D := .tuple [x, y]
theorem rep_pair {G1 H : Hp} {T : Addr} {x y : V} {d e : D} (s : Same G1 H) (hT : H T = none) (rx : Rep K G1 d x) (ry : Rep K G1 e y) : ∃ G2, Ext G1 H G2 (upd H T (.tup [x, y])) ∧ Rep K G2 (prD d e) (.ref T) := by
  have up : Same G1 (upd G1 T (.tup [x, y])) := same_new (Same.free s hT)
  exact ⟨_, Ext.laid s hT, T, [x, y], rfl, .inl upd_same, x, [y], rfl, Rep.mono up _ _ rx, RepL.one (Rep.mono up _ _ ry)⟩
theorem gives_zip {c d : Bool} (h1 : SqA c G a xs) (h2 : SqA d G b ys) (r1 : RepL K G ds xs) (r2 : RepL K G es ys) : Gives K (ItzB K c d a b) G (List.zipWith prD ds es) where
  stop := fun i H s hi => by
    rw [List.length_zipWith] at hi
    have l1 := r1.length
    have l2 := r2.length
    exact ⟨xs, ys, sqB_mk (SqA.mono s h1), sqB_mk (SqA.mono s h2), by omega⟩
  go := fun i H s hi => by
    rw [List.length_zipWith] at hi
    have l1 := r1.length
    have l2 := r2.length
    exact ⟨xs, ys, xs[i]'(by omega), ys[i]'(by omega), sqB_mk (SqA.mono s h1), sqB_mk (SqA.mono s h2), List.getElem?_eq_getElem _, List.getElem?_eq_getElem _⟩
  yld := fun i G1 H v H' d s1 s2 hd hy => by
    obtain ⟨T, x, y, rfl, hT, rfl, y1, y2⟩ := hy
    rw [List.getElem?_zipWith] at hd
    obtain ⟨dx, ex, rx⟩ := r1.getV (y1 xs (sqB_mk (SqA.mono s2 (SqA.mono s1 h1))))
    obtain ⟨dy, ey, ry⟩ := r2.getV (y2 ys (sqB_mk (SqA.mono s2 (SqA.mono s1 h2))))
    rw [ex, ey] at hd
    cases hd
    exact rep_pair s2 hT (Rep.mono s1 _ _ rx) (Rep.mono s1 _ _ ry)
theorem gives_enum (h1 : G a = some (.lst xs)) (r1 : RepL K G ds xs) : Gives K (Ite K a) G (ds.zipIdx.map fun p => prD (.int (p.2 : Nat)) p.1) where
  stop := fun i H s hi => by
    rw [List.length_map, List.length_zipIdx] at hi
    exact ⟨xs, sq_inj (s _ _ h1), by rw [r1.length]; omega⟩
  go := fun i H s hi => by
    rw [List.length_map, List.length_zipIdx, ← r1.length] at hi
    exact ⟨xs, xs[i], sq_inj (s _ _ h1), List.getElem?_eq_getElem hi⟩
  yld := fun i G1 H v H' d s1 s2 hd hy => by
    obtain ⟨T, x, rfl, hT, rfl, y1⟩ := hy
    rw [List.getElem?_map, List.getElem?_zipIdx] at hd
    obtain ⟨dx, ex, rx⟩ := r1.getV (y1 xs (sq_inj (s2 _ _ (s1 _ _ h1))))
    rw [ex] at hd
    cases hd
    rw [Nat.zero_add]
    exact rep_pair s2 hT rfl (Rep.mono s1 _ _ rx)
end
def sqD : D → Option (Bool × List D)
  | .list ds => some (true, ds)
  | .tuple ds => some (false, ds)
  | _ => none
theorem sqD_rep {K : PySem.W.Frag} {G : Hp} {d : D} {v : V} {c : Bool} {ds : List D} (e : sqD d = some (c, ds)) (r : Rep K G d v) : ∃ a xs, v = .ref a ∧ SqA c G a xs ∧ RepL K G ds xs := by
  cases d with
  | list l => cases e; exact r
  | tuple l => cases e; exact r
  | _ => cases e
def zipD : List D → RL
  | [a, b] => match sqD a, sqD b with
    | some (_, xs), some (_, ys) => .ok (List.zipWith prD xs ys)
    | _, _ => .bad
  | _ => .bad
def enumD : List D → RL
  | [.list ds] => .ok (ds.zipIdx.map fun p => prD (.int (p.2 : Nat)) p.1)
  | _ => .bad
section
variable {X : Cx} {W : WX} {e e2 : Expr} {ta : TA} {fa : List Sl → RL} {p p2 pos pos2 tpos : Pos} {elts : List Expr} {kk : Nat}
theorem di_zip (K : PySem.W.Frag) (hm : X.mg "zip" = none) (ha : DA X W [e, e2] ta fa) (hK : X.K = K := by rfl) (hg : Gl X "zip" := by rfl)
    (hs : starEach [e, e2] X.env = (false, eval e X.env) :: starEach [e2] X.env := by rfl) (hpl : (backTo pos (starEach [e2] X.env)).any (·.1) = false := by rfl) :
    DI X W (.Tuple elts kk tpos) (.Call (.Name "zip" p) [e, e2] [] pos) (iZipB K ta) (fRg zipD fa) := by
  subst hK
  refine ⟨pi_zipB hg hm ha.pa hs hpl, fun H0 G H σ δ Q S q => ha.sem H0 G H σ δ _ S (to_i q fun ds vs G1 H1 e1 r1 q1 => ?_)⟩
  unfold zipD at q1
  split at q1
  · rename_i d1 d2
    obtain ⟨x, y, rfl, rx, ry⟩ := repL2 r1
    split at q1
    · rename_i c xs d ys ex ey
      obtain ⟨a, us, rfl, h1, k1⟩ := sqD_rep ex rx
      obtain ⟨b, ws, rfl, h2, k2⟩ := sqD_rep ey ry
      exact ⟨c, d, a, b, us, ws, rfl, sqB_mk (SqA.mono e1.s h1), sqB_mk (SqA.mono e1.s h2), IQ.here e1.s q1 (gives_zip h1 h2 k1 k2)⟩
    · exact q1.elim
  · exact q1.elim
theorem di_enum (K : PySem.W.Frag) (hm : X.mg "enumerate" = none) (ha : DA X W [e] ta fa) (hK : X.K = K := by rfl) (hg : Gl X "enumerate" := by rfl) (hs : starEach [e] X.env = [(false, eval e X.env)] := by rfl) :
    DI X W (.Tuple elts kk tpos) (.Call (.Name "enumerate" p) [e] [] pos) (iEnum K ta) (fRg enumD fa) := by
  subst hK
  refine ⟨pi_enum hg hm ha.pa hs, fun H0 G H σ δ Q S q => ha.sem H0 G H σ δ _ S (to_i q fun ds vs G1 H1 e1 r1 q1 => ?_)⟩
  unfold enumD at q1
  split at q1
  · obtain ⟨x, rfl, a, xs, rfl, h1, k1⟩ := repL1 r1
    exact ⟨a, xs, rfl, sq_inj (e1.s _ _ h1), IQ.here e1.s q1 (gives_enum h1 k1)⟩
  · exact q1.elim
/-- reversed(range(n)) -/
def rgr1 : D → RL
  | .int j => if 0 ≤ j ∧ j ≤ BIG then .ok (rgD (j - 1) (-1) j.toNat) else .bad
  | _ => .bad
def fRv1 (fe : List Sl → R) : List Sl → RL := fun δ => RL.to2 (fe δ) rgr1
theorem di_revRg1 {te : TE} {fe : List Sl → R} {tg : Expr} (hm : X.mg "reversed" = none) (hm2 : X.mg "range" = none) (he : DE X W e te fe) (hg : Gl X "reversed" := by rfl) (hg2 : Gl X "range" := by rfl)
    (hs : starEach [Expr.Call (.Name "range" p2) [e] [] pos2] X.env = (false, eval (.Call (.Name "range" p2) [e] [] pos2) X.env) :: starEach [] X.env := by rfl) (na : starEach [e] X.env = (false, eval e X.env) :: starEach [] X.env := by rfl) :
    DI X W tg (.Call (.Name "reversed" p) [.Call (.Name "range" p2) [e] [] pos2] [] pos) (L2.iRevR (L2.tRg1 te)) (fRv1 fe) := by
  refine ⟨L2.pi_revR hg hm (L2.prg_1 hg2 hm2 he.pe na) hs, fun H0 G H σ δ Q S q => he.sem H0 G H σ δ _ S (to2_q q fun d v G1 H1 e1 r1 q1 => ?_)⟩
  unfold rgr1 at q1
  split at q1
  · cases r1
    rename_i j
    obtain ⟨⟨h0, h1⟩, q1⟩ := iq_if q1
    have hb := BIG_lt
    have e : (0 : Int) + (((j - 0).toNat : Nat) : Int) - 1 = j - 1 := by omega
    have e2 : (j - 0).toNat = j.toNat := by omega
    exact ⟨j, rfl, by omega, by omega, by omega, by omega, by rw [e, e2]; exact IQ.here e1.s q1 gives_itc⟩
  · exact q1.elim
end
/-! ### an own list is told of from here on -/
section
variable {K : PySem.W.Frag} {X : Cx} {W : WX} {mg : Str → Option Value} {st : Stmt} {t : TS} {F : List Sl → Fl}
def fFrz (j : Nat) (F : List Sl → Fl) : List Sl → Fl := fun δ => match δ[j]? with
  | some (.own ds) => F (δ.set j (.v (.list ds)))
  | _ => F δ
theorem SSt.frz {G0 H0 H : Hp} {σ : L2.St} {δ : List Sl} {j : Nat} {ds : List D} (S : SSt K G0 H0 H σ δ) (h : δ[j]? = some (.own ds)) : SSt K G0 H0 H σ (δ.set j (.v (.list ds))) := by
  obtain ⟨G, e, S⟩ := S
  have hj : j < σ.length := by rw [S.l]; exact (List.getElem?_eq_some_iff.mp h).1
  obtain ⟨p, xs, hp, h1, h2, h3, r⟩ := S.r j _ _ h (List.getElem?_eq_getElem hj)
  have n := rep_new S.s h2 h3 r
  refine ⟨_, e.freeze h1 h2 h3, n.2.1, S.b, by rw [S.l, List.length_set], fun i s o a b => ?_, fun i k us ws q hik a b => ?_⟩
  · by_cases hi : i = j
    · subst hi
      rw [List.getElem?_set_self (by rw [← S.l]; exact hj)] at a
      cases a
      rw [List.getElem?_eq_getElem hj, hp] at b
      cases b
      exact ⟨_, rfl, n.2.2⟩
    · rw [List.getElem?_set_ne (Ne.symm hi)] at a
      have old := S.r i s o a b
      cases s with
      | un => trivial
      | v d =>
        obtain ⟨x, e1, rx⟩ := old
        exact ⟨x, e1, Rep.mono n.1 _ _ rx⟩
      | own us =>
        obtain ⟨q, ys, e1, e2, e3, e4, rq⟩ := old
        refine ⟨q, ys, e1, e2, ?_, e4, RepL.mono n.1 _ _ rq⟩
        have ne : q ≠ p := fun z => by
          subst z
          exact S.ap i j us ds q hi a h (by rw [← e1]; exact b) (by rw [List.getElem?_eq_getElem hj, hp])
        rw [upd_ne ne]
        exact e3
      | dct m =>
        obtain ⟨q, e1, e2, e3, e4⟩ := old
        have ne : q ≠ p := fun z => by
          subst z
          rw [h3] at e4
          cases e4
        exact ⟨q, e1, e2, by rw [upd_ne ne]; exact e3, e4⟩
      | rd m => exact old
      | ob a => exact old
      | br p2 ds2 =>
        obtain ⟨e1, e2, ys, e3, rq⟩ := old
        have ne : p2 ≠ p := fun z => by
          subst z
          rw [h1] at e3
          cases e3
        exact ⟨e1, by rw [upd_ne ne]; exact e2, ys, e3, RepL.mono n.1 _ _ rq⟩
  · have hi : i ≠ j := fun z => by
      subst z
      rw [List.getElem?_set_self (by rw [← S.l]; exact hj)] at a
      cases a
    have hk : k ≠ j := fun z => by
      subst z
      rw [List.getElem?_set_self (by rw [← S.l]; exact hj)] at b
      cases b
    rw [List.getElem?_set_ne (Ne.symm hi)] at a
    rw [List.getElem?_set_ne (Ne.symm hk)] at b
    exact S.ap i k us ws q hik a b
theorem ds_frz (j : Nat) (h : DS X W st t F) : DS X W st t (fFrz j F) := ⟨h.ps, fun G0 H0 D H σ δ S q => by
  unfold fFrz at q
  split at q
  · rename_i ds e
    exact h.sem G0 H0 D H σ _ (S.frz e) q
  · exact h.sem G0 H0 D H σ δ S q⟩
end
end DL
set_option Elab.async false
set_option linter.all false
set_option maxRecDepth 100000
set_option maxHeartbeats 4000000
/-! sorted, and stubs for what is not yet covered -/
namespace DL
open PySem PySem.Spec PyProof.Rows L2
def intsOf : List D → Option (List Int)
  | [] => some []
  | .int i :: r => (intsOf r).map (i :: ·)
  | _ => none
def gIndex : D → D → R
  | .dict [(.bool true, .tuple ds)], .int k => match intsOf ds with
    | some ns => if k ∈ ns then .ok (.int (ns.idxOf k : Nat)) else .bad
    | none => .bad
  | _, _ => .bad
/-- sorted: two numbers at most -/
def gSorted : List D → R
  | [.list ds] => match intsOf ds with
    | some [] => .new []
    | some [x] => .new [.int x]
    | some [x, y] => .new (if y < x then [.int y, .int x] else [.int x, .int y])
    | _ => .bad
  | _ => .bad
def strsOf : List D → Option (List Str)
  | [] => some []
  | .str x :: r => (strsOf r).map (x :: ·)
  | _ => none
/-- s.join(list of texts) -/
def gJoin : D → D → R
  | .str a, .list ds => match strsOf ds with
    | some ys => if (ys.map (·.length)).sum + ys.length * a.length ≤ 16777216 then .ok (.str (Txt.join a ys)) else .bad
    | none => .bad
  | _, _ => .bad
def gMax1 : List D → R := fun _ => .bad
/-- str(number) -/
def gStr : List D → R
  | [.int i] => if i.natAbs < 1000000 then .ok (.str (toString i)) else .bad
  | _ => .bad
/-- list(text) -/
def gListS : List D → R
  | [.str z] => if z.length ≤ LIM then .new (signs z) else .bad
  | _ => .bad
/-- zip(text, list) -/
def zipS : List D → RL
  | [.str z, .list ys] => .ok (List.zipWith (fun x y => .tuple [x, y]) (signs z) ys)
  | _ => .bad
def gSum : List D → R := fun _ => .bad
end DL
set_option Elab.async false
set_option linter.all false
set_option maxRecDepth 100000
set_option maxHeartbeats 4000000
/-! list(reversed(a list)), remove -/
namespace DL
open PySem PySem.Spec PyProof.Rows L2
section
variable {prog : Program} {w : World} {A : Around} {E : Value → Shared → Prop} {s : Shared}
theorem extend_rev {it l S : Addr} {items : Array Value} {c0 : Nat} {Rq : Except Value Flow → Shared → Prop} {g : Heap} {tk0 : Nat} (hh : A.handled = none) (hit : g.IsRevIter it l ((items.size : Int) - 1)) (hl : g.IsList l items) (hne : l ≠ it) (hSi : S ≠ it) (hSl : S ≠ l) (hn : items.size ≤ sizeLine)
    (hS : g.get? S = some { cls := .type "list", data := .seq #[] c0 })
    (hQ : ∀ (h' : Heap) (tk : Nat) (acc : Array Value) (c : Nat), (∀ b o, b ≠ it → b ≠ S → g.get? b = some o → h'.get? b = some o) → h'.get? S = some { cls := .type "list", dict := none, data := .seq acc c, slots := #[] } → ItemsOf (fun i v => items[items.size - 1 - i]? = some v) acc items.size → Rq (.ok (.ret .none)) { s with heap := h', toks := tk }) :
    wpAny (model prog w) A.in1 (Builtin.List.listExtendWith (.ref S) (.ref it) .none)
      (fun fin s' => match fin with | .done f => Rq (.ok f) s' | .again c' => c'.quiet = true ∧ codeAny (model prog w) A c' Rq s') (fun e s' => Rq (.error e) s') { s with heap := g, toks := tk0 } := by
  have Wk := (Walks.listRev (prog := prog) (w := w) (A := A.in1) hh it l hne items).toS
  have out : S ∉ [it, l] := by simp [hSi, hSl]
  have ty : ({ s with heap := g, toks := tk0 } : Shared).TypeIs (.ref it) "list_reverseiterator" := Heap.IsRevIter.typeIs (s := { s with heap := g, toks := tk0 }) hit
  have ns : Builtin.List.listSameRef (.ref S) (.ref it) = false := by simp [Builtin.List.listSameRef, hSi]
  unfold Builtin.List.listExtendWith
  refine wpAny_bind (wpAny_typeOf ty ?_)
  rw [if_neg (by rw [ns]; decide)]
  refine wpAny_bind (wpAny_pyIter_revIter (s := { s with heap := g, toks := tk0 }) hit (wpAny_bind (wpAny_holding ?_)))
  unfold Builtin.List.listLengthHint
  refine wpAny_bind (wpAny_specialOf ty RT.nolen_lri ?_)
  show wpAny _ A.in1 ((specialOf (Value.ref it) (Str.ofString "__length_hint__")).bind _) _ _ _
  refine wpAny_bind (wpAny_specialOf ty RT.hint_lri ?_)
  generalize nm : ("list_reverseiterator.__length_hint__" : String) = nm0
  wp_delta
  have sp : splitId nm0 = some ("list_reverseiterator", "__length_hint__") := by subst nm; decide +kernel
  rw [sp]
  subst nm
  have sb : isSubtype (.type "list_reverseiterator") (.type "list_reverseiterator") = pure true := by rw [isSubtype_type]; kernel_rfl
  refine wpAny_bind (wpAny_isInstance (b := true) ty sb (wpAny_pure ?_))
  rw [if_neg (by decide)]
  have z0 : ((items.size : Nat) : Int) - 1 - ((0 : Nat) : Int) = (items.size : Int) - 1 := by omega
  refine wpAny_pure ⟨plainId_quiet F.plain_extend_loop _, codeAny_extend_loopS Wk hn _ out _ items.size 0 _ _ _ rfl (Nat.zero_le _) ⟨Nat.zero_le _, by rw [z0]; exact hit, hl⟩ hS (ItemsOf.nil _) fun s' acc' c' hm hS' hacc => ?_⟩
  rw [Moved.eq_with hm] at hS' ⊢
  refine hQ s'.heap s'.toks acc' c' (fun b o h1 h2 e => hm.heap b o (fun hmem => ?_) e) hS' hacc
  have hm' : b = S ∨ b = it := by simpa using hmem
  rcases hm' with q | q
  · exact h2 q
  · exact h1 q
theorem call_list_rev {it l : Addr} {items : Array Value} {Q : Value → Shared → Prop} (hh : A.handled = none) (hit : s.heap.IsRevIter it l ((items.size : Int) - 1)) (hl : s.heap.IsList l items) (hne : l ≠ it) (hn : items.size ≤ sizeLine)
    (hQ : ∀ (h' : Heap) (tk : Nat) (acc : Array Value) (c : Nat), (∀ b o, b ≠ it → s.heap.get? b = some o → h'.get? b = some o) → h'.get? s.heap.objs.size = some { cls := .type "list", dict := none, data := .seq acc c, slots := #[] } → ItemsOf (fun i v => items[items.size - 1 - i]? = some v) acc items.size → Q (.ref s.heap.objs.size) { s with heap := h', toks := tk }) :
    wpAny (model prog w) A (call (.type "list") [.ref it]) Q E s := by
  obtain ⟨o1, g1, _⟩ := id hit
  obtain ⟨o2, g2, _⟩ := id hl
  have n1 := Nat.ne_of_gt (Heap.lt_size g1)
  have n2 := Nat.ne_of_gt (Heap.lt_size g2)
  refine callType_codes (Q₁ := fun ob z => ob = .ref s.heap.objs.size ∧ z = { s with heap := s.heap.push { cls := .type "list", data := .seq #[] } }) F.called_list (F.typeCall_list_1 _) F.entry_list_init (code_list_new _ ⟨rfl, rfl⟩) fun ob z hz => ?_
  obtain ⟨rfl, rfl⟩ := hz
  have at0 : (s.heap.push { cls := .type "list", data := .seq #[] }).get? s.heap.objs.size = some { cls := .type "list", data := .seq #[] } := Heap.get?_push_size _ rfl
  refine ⟨⟨_, at0, rfl⟩, F.args_list_init_2 _ _, ?_⟩
  show wpAny _ A.in1.in1 (Builtin.List.listItems (.ref s.heap.objs.size) >>= fun old => Builtin.List.listUpdate (.ref s.heap.objs.size) (fun _ => #[]) >>= fun _ => letGo old.toList.reverse >>= fun _ => Builtin.List.listExtendWith (.ref s.heap.objs.size) (.ref it) .none) _ _ _
  refine wpAny_bind ?_
  unfold Builtin.List.listItems
  refine wpAny_bind (wpAny_seqItems at0 rfl (wpAny_pure (wpAny_bind ?_)))
  show wpAny _ A.in1.in1 (updateSeq s.heap.objs.size (fun _ => #[])) _ _ _
  refine wpAny_updateSeq at0 rfl ?_
  have at1 := Heap.get?_update_self (Obj.mapSeq (fun _ => (#[] : Array Value))) at0 rfl
  have up : ∀ b o, b ≠ s.heap.objs.size → s.heap.get? b = some o → ((s.heap.push { cls := .type "list", data := .seq #[] }).update s.heap.objs.size (Obj.mapSeq fun _ => #[])).get? b = some o :=
    fun b o hb e => (Heap.get?_update_other _ _ (Ne.symm hb)).trans (Heap.get?_push_of_some _ e)
  refine wpAny_bind (wpAny_letGo ?_)
  refine extend_rev (s := s) (A := A.in1) (g := (s.heap.push { cls := .type "list", data := .seq #[] }).update s.heap.objs.size (Obj.mapSeq fun _ => #[])) (tk0 := s.toks) hh (hit.at fun o e => up it o n1.symm e) (hl.at fun o e => up l o n2.symm e) hne n1 n2 hn at1 fun h' tk acc c k1 k2 k3 => ⟨rfl, ?_⟩
  exact hQ h' tk acc c (fun b o hb e => k1 b o hb (Nat.ne_of_lt (Heap.lt_size e)) (up b o (Nat.ne_of_lt (Heap.lt_size e)) e)) k2 k3
end
section
variable {X : Cx} {W : WX} {e : Expr} {te : TE} {fe : List Sl → R} {p p2 pos pos2 : Pos} {mg : Str → Option Value}
/-- list(reversed(xs)), xs a list -/
def tLstRev (K : PySem.W.Frag) (te : TE) : TE := fun σ H Q => te σ H fun v H1 => ∃ (a : Addr) (xs : List V), v = .ref a ∧ SqL K H1 a xs ∧ ∀ q, H1 q = none → Q (.ref q) (upd H1 q (.lst xs.reverse))
theorem pe_lstRev (hc : X.calm = true) (hg : Gl X "list") (hm : X.mg "list" = none) (hg2 : Gl X "reversed") (hm2 : X.mg "reversed" = none) (he : PE X e te)
    (h1 : starEach [e] X.env = (false, eval e X.env) :: starEach [] X.env := by rfl)
    (h2 : starEach [Expr.Call (.Name "reversed" p2) [e] [] pos2] X.env = (false, eval (.Call (.Name "reversed" p2) [e] [] pos2) X.env) :: starEach [] X.env := by rfl) :
    PE X (.Call (.Name "list" p) [.Call (.Name "reversed" p2) [e] [] pos2] [] pos) (tLstRev X.K te) := by
  constructor
  intro pins s σ H Q I h
  refine Call_ (ld_blt I hg hm PyProof.Rows.boot_list (PyProof.Rows.callWith_type1 (args_cons (Call_ (ld_blt I hg2 hm2 PyProof.Rows.boot_reversed (PyProof.Rows.callWith_type1 (args_cons (thn (he.run pins s σ H _ I h) fun u s1 got => args_nil ?_) h1) h1 rfl))) h2) h2 rfl))
  obtain ⟨v, H1, I1, r1, a, xs, rfl, hq, q⟩ := got
  cases r1
  obtain ⟨its, rv, isl, hz⟩ := I1.list hq
  refine call_reversed_list isl.isList (args_nil ?_)
  let ro := revObj a ((its.toArray.size : Int) - 1)
  have up : ∀ b o, s1.heap.get? b = some o → (s1.heap.push ro).get? b = some o := fun b o e => Heap.get?_push_of_some _ e
  have I2 : Inv X pins σ H1 { s1 with heap := s1.heap.push ro } := I1.kept (t' := s1.toks) up
  obtain ⟨f0, f1, f2, f3, f4, f5⟩ := I1.fpOk (H' := H1) (b := s1.heap.objs.size) (Nat.le_refl _) (I1.hok.fresh (Nat.le_refl _))
  obtain ⟨ol, gl, _⟩ := id isl.isList
  have hsz : its.toArray.size ≤ sizeLine := by rw [List.size_toArray, ← rv.length]; exact hz
  refine call_list_rev (s := { s1 with heap := s1.heap.push ro }) (I1.ok.hd hc) ⟨_, Heap.get?_push_size _ rfl, rfl, rfl⟩ (isl.isList.push _) (Nat.ne_of_lt (Heap.lt_size gl)) hsz fun h' tk acc c k1 k2 k3 => ?_
  have fr : H1 (s1.heap.push ro).objs.size = none := I2.hok.fresh (Nat.le_refl _)
  have nw : ObjOk X.prog X.w (upd H1 (s1.heap.push ro).objs.size (.lst xs.reverse)) h' (s1.heap.push ro).objs.size (.lst xs.reverse) :=
    ⟨by rw [List.length_reverse]; exact hz, acc.toList, c, RT.vals_rev rv k3, by rw [Array.toArray_toList]; exact k2⟩
  have le : s1.heap.objs.size ≤ (s1.heap.push ro).objs.size := by rw [Heap.size_push]; exact Nat.le_succ _
  exact ⟨.ref (s1.heap.push ro).objs.size, _, I1.laid (t' := tk) (fun b u e => k1 b u (Nat.ne_of_lt (Heap.lt_size e)) (up b u e)) le nw, rfl, q _ fr⟩
/-- list(reversed(xs)) -/
def fLstRev (fe : List Sl → R) : List Sl → R := fun δ => (fe δ).bind fun d => match d with
  | .list ds => .new ds.reverse
  | _ => .bad
theorem de_lstRev (K : PySem.W.Frag) (hc : X.calm = true) (hm : X.mg "list" = none) (hm2 : X.mg "reversed" = none) (he : DE X W e te fe) (hK : X.K = K := by rfl) (hg : Gl X "list" := by rfl) (hg2 : Gl X "reversed" := by rfl)
    (h1 : starEach [e] X.env = (false, eval e X.env) :: starEach [] X.env := by rfl)
    (h2 : starEach [Expr.Call (.Name "reversed" p2) [e] [] pos2] X.env = (false, eval (.Call (.Name "reversed" p2) [e] [] pos2) X.env) :: starEach [] X.env := by rfl) :
    DE X W (.Call (.Name "list" p) [.Call (.Name "reversed" p2) [e] [] pos2] [] pos) (tLstRev K te) (fLstRev fe) := by
  subst hK
  refine ⟨pe_lstRev hc hg hm hg2 hm2 he.pe h1 h2, fun H0 G H σ δ Q S q => he.sem H0 G H σ δ _ S (RQ.bind q fun d v G1 H1 e1 r1 q1 => ?_)⟩
  cases d with
  | list ds =>
    obtain ⟨a, xs, rfl, h3, r2⟩ := r1
    exact ⟨a, xs, rfl, sq_inj (e1.s _ _ h3), fun l hl => rq_new e1.s (RepL.reverse r2) q1 hl⟩
  | _ => exact q1.elim
end
/-! ### xs.remove(k), xs an own list of numbers, k in it -/
section
variable {X : Cx} {W : WX} {e : Expr} {te : TE} {fe : List Sl → R} {pos : Pos} {mg : Str → Option Value} {x : Str} {o1 : Pos}
theorem ints_of : ∀ {ds : List D} {ns : List Int}, intsOf ds = some ns → ds = ns.map PyData.int
  | [], ns, h => by cases h; rfl
  | .int i :: r, ns, h => by
    rw [intsOf] at h
    cases hr : intsOf r with
    | none => rw [hr] at h; cases h
    | some ms =>
      rw [hr] at h
      cases h
      rw [ints_of hr]
      rfl
  | .none :: _, _, h => by cases h
  | .bool _ :: _, _, h => by cases h
  | .str _ :: _, _, h => by cases h
  | .list _ :: _, _, h => by cases h
  | .tuple _ :: _, _, h => by cases h
  | .dict _ :: _, _, h => by cases h
def fRem (i : Nat) (f : List Sl → R) : List Sl → Fl := fun δ => match δ[i]? with
  | some (.own ds) => (match f δ with
    | .ok (.int k) => (match intsOf ds with
      | some ns => if k ∈ ns then .nx (δ.set i (.own ((ns.erase k).map .int))) else .bad
      | none => .bad)
    | _ => .bad)
  | _ => .bad
theorem ds_rem (i : Nat) {apos cpos : Pos} (hc : X.calm = true) (_ : L2N.Takes X W) (he : DE X W e te fe) (hN : X.N[i]? = some x := by rfl) (hv : Vis X.env.scope x := by first | exact Or.inl rfl | exact Or.inr (Or.inl rfl) | exact Or.inr (Or.inr rfl)) (hd : (x == ("__debug__" : Str)) = false := by decide) (hcd : (x == ("__classdict__" : Str)) = false := by decide)
    (hs : swapsWith (.Call (.Attribute (.Name x o1) "remove" apos) [e] [] cpos) none pos.line X.env = pure false := by rfl)
    (hbase : attributeBase (.Name x o1) "remove" X.env (eval (.Name x o1) X.env) = eval (.Name x o1) X.env := by rfl)
    (hfew : ((backTo cpos (starEach [e] X.env)).all (fun x => !x.1) && (backToKw cpos (keywordEach [] X.env)).all (fun x => x.1.isSome)
      && decide (([e] : List Expr).length + ([] : List Keyword).length + (if ([] : List Keyword).isEmpty then 0 else 1) < 30)) = true := by rfl)
    (hline : (apos.endLine == cpos.line) = true := by rfl) (h1 : starEach [e] X.env = (false, eval e X.env) :: starEach [] X.env := by rfl) (hplain : (backTo cpos (starEach [] X.env)).any (·.1) = false := by rfl) :
    DS X W (.Expr (.Call (.Attribute (.Name x o1) "remove" apos) [e] [] cpos) pos) (tDrop (tRemX X.K (fun _ _ _ _ => False) (tVar i) te)) (fRem i fe) :=
  ⟨ps_expr (pe_remX hc takes0 (pv i hN hv hd hcd) he.pe hbase hfew hline h1 hplain) hs, fun G0 H0 D H σ δ S q => by
  obtain ⟨G, e0, St0⟩ := id S
  unfold fRem at q
  split at q
  · rename_i ds hds
    obtain ⟨o, e1, p, xs, rfl, h0, hG, hH, hr⟩ := St0.at hds
    refine ⟨.ref p, e1, .inl ⟨rfl, xs, .inl (.inl hH)⟩, ?_⟩
    refine he.sem H0 G H σ δ _ St0 ?_
    split at q
    · rename_i k hk
      rw [hk]
      split at q
      · rename_i ns hns
        have ed := ints_of hns
        subst ed
        have ex := hr.ints
        subst ex
        obtain ⟨hm, q⟩ := fq_if q
        intro v G' H' e2 rv
        cases rv
        refine ⟨p, ns, k, rfl, rfl, e2.h _ _ hH, fun _ => ?_, fun hn => absurd hm hn⟩
        exact q _ _ ⟨G', (e0.trans e2).write h0 (e2.n p hG (mut_lst hH)), (St0.go e2).write hds e1 h0 (e2.n p hG (mut_lst hH)) (RepL.of_ints _)⟩
      · exact q.elim
    · exact q.elim
  · exact q.elim⟩
end
end DL
set_option Elab.async false
set_option linter.all false
set_option maxRecDepth 100000
set_option maxHeartbeats 4000000
/-! dicts of one's own, with tuples of numbers as keys -/
namespace DL
open PySem PySem.Spec PyProof.Rows L2
def Dm.has (m : Dm) (k : List Int) : Bool := m.any fun p => decide (p.1 = k)
theorem inl_inj : ∀ {a b : List Int}, a.map (Sum.inl (β := Str)) = b.map Sum.inl → a = b
  | [], [], _ => rfl
  | [], _ :: _, h => by cases h
  | _ :: _, [], h => by cases h
  | x :: a, y :: b, h => by
    rw [List.map_cons, List.map_cons] at h
    have h1 := List.head_eq_of_cons_eq h
    have h2 := List.tail_eq_of_cons_eq h
    cases h1
    rw [inl_inj h2]
theorem has_any (k : List Int) : ∀ m : Dm, (m.w.any fun kv => decide (kv.1 = k.map Sum.inl)) = m.has k
  | [] => rfl
  | p :: m => by
    have ih := has_any k m
    unfold Dm.w Dm.has at ih ⊢
    rw [List.map_cons, List.any_cons, List.any_cons, ih]
    congr 1
    by_cases e : p.1 = k
    · simp [e]
    · have : ¬ p.1.map (Sum.inl (β := Str)) = k.map Sum.inl := fun h => e (inl_inj h)
      simp [e, this]
theorem val_has (m : Dm) (k : List Int) : (valV m.w (k.map Sum.inl)).isSome = m.has k := by
  rw [← has_any, valV_any]
theorem keyV (k : List Int) : (k.map (Sum.inl (β := Str))).map kV = k.map V.int := by
  rw [List.map_map]
  rfl
def Sl.cold : Sl → Bool
  | .dct _ => false
  | .rd _ => false
  | _ => true
def Sc.of : D → Option Sc
  | .int n => some (.i n)
  | .bool x => some (.b x)
  | _ => none
section
variable {K : PySem.W.Frag} {X : Cx} {W : WX} {mg : Str → Option Value} {e ie : Expr} {te ti : TE} {fe fi : List Sl → R} {pos o1 pos' spos : Pos} {x : Str}
/-- x = {} -/
def fNewD (i : Nat) : List Sl → Fl := fun δ => if (δ.set i .un).all Sl.cold then .nx (δ.set i (.dct [])) else .bad
theorem St.newd {H0 G H : Hp} {σ : L2.St} {δ : List Sl} {i : Nat} {p : Addr} (S : St K H0 G H σ δ) (h : H p = none) : St K H0 G (upd H p (.dT [])) (σ.set i (some (.ref p))) (δ.set i (.dct [])) := by
  have S2 := S.go (Ext.own (o := .dT []) S.s h)
  refine ⟨S2.s, S2.b, by rw [List.length_set, List.length_set]; exact S.l, fun j s o e1 e2 => ?_, fun j k ds es p' njk e1 e2 e3 e4 => ?_⟩
  · rcases get_set e1 with ⟨rfl, rfl, _⟩ | ⟨n1, e1⟩
    · rcases get_set e2 with ⟨_, rfl, _⟩ | ⟨n2, _⟩
      · exact ⟨p, rfl, Same.free S.b h, Same.free S.s h, upd_same⟩
      · exact absurd rfl n2
    · rcases get_set e2 with ⟨e, _, _⟩ | ⟨n2, e2⟩
      · exact absurd e n1
      · exact S2.r j s o e1 e2
  · rcases get_set e1 with ⟨rfl, e1, _⟩ | ⟨n1, e1⟩
    · cases e1
    · rcases get_set e2 with ⟨rfl, e2, _⟩ | ⟨n2, e2⟩
      · cases e2
      · rcases get_set e3 with ⟨e, _, _⟩ | ⟨_, e3⟩
        · exact n1 e
        · rcases get_set e4 with ⟨e, _, _⟩ | ⟨_, e4⟩
          · exact n2 e
          · exact S2.ap j k ds es p' njk e1 e2 e3 e4
theorem ds_newD (i : Nat) (hN : X.N.Nodup) (hi : X.N[i]? = some x := by rfl) (hx : Loc X.env.scope x := by first | exact .inl rfl | exact .inr rfl) (hs : swapsWith (.Dict [] [] o1) (some (.Name x pos')) pos.line X.env = pure false := by rfl) (hf : X.fn x = true ∨ X.env.scope.names.lookup x = some .local := by first | exact .inl rfl | exact .inr rfl) :
    DS X W (.Assign [.Name x pos'] (.Dict [] [] o1) pos) (tAsg tDNewT (gName i)) (fNewD i) := ⟨ps_set hN hi hx pe_dnewT hs hf, fun G0 H0 D H σ δ S q => by
  obtain ⟨G, e0, St0⟩ := id S
  unfold fNewD at q
  split at q
  · exact fun p hp => q _ _ ⟨G, e0.trans (Ext.own St0.s hp), St0.newd hp⟩
  · exact q.elim⟩
/-- e in x, x a dict -/
def fInV (neg : Bool) (i : Nat) (fe : List Sl → R) : List Sl → R := fun δ => (fe δ).bind fun d => match d with
  | .tuple ds => (match intsOf ds, δ[i]? with
    | some k, some (.dct m) => .ok (.bool (if neg then !m.has k else m.has k))
    | some k, some (.rd m) => .ok (.bool (if neg then !m.has k else m.has k))
    | _, _ => .bad)
  | _ => .bad
theorem inv_sem {neg : Bool} {i : Nat} {b : Bool → Bool} (hfx : fxOn = false) (hb : ∀ z, b z = if neg then !z else z) (he : SemE K mg W te fe) :
    SemE K mg W (fun σ H Q => te σ H fun y H1 => tVar i σ H1 fun x H2 => ∃ a o, x = .ref a ∧ DGet H2 a y o ∧ Q (.bl (b o.isSome)) H2) (fInV neg i fe) := fun H0 G H σ δ Q S q => by
  refine he H0 G H σ δ _ S (RQ.bind q fun d v G1 H1 e1 r1 q1 => ?_)
  have S1 := S.go e1
  split at q1
  · rename_i ds
    obtain ⟨p, xs, rfl, h1 | ⟨f, _⟩, r2⟩ := r1
    rotate_left
    · rw [hfx] at f; cases f
    have key : ∀ (k : List Int) (m : Dm) (a : Addr), intsOf ds = some k → H1 a = some (.dT m.w) → σ[i]? = some (some (.ref a)) → RQ K mg (WE W σ) G1 H1 Q (.ok (.bool (if neg then !m.has k else m.has k))) → tVar i σ H1 fun x H2 => ∃ a o, x = .ref a ∧ DGet H2 a (.ref p) o ∧ Q (.bl (b o.isSome)) H2 := fun k m a hk ha hσ q => by
      have ed := ints_of hk
      subst ed
      have ex := r2.ints
      subst ex
      have hkey : H1 p = some (.tup ((k.map Sum.inl).map kV)) := by rw [keyV]; exact e1.s _ _ h1
      refine ⟨.ref a, hσ, a, _, rfl, DGet.t ha hkey, ?_⟩
      rw [val_has, hb]
      exact RQ.here e1.s q rfl
    split at q1
    · rename_i k m hk hδ
      obtain ⟨o, ho, a, rfl, _, _, ha⟩ := S1.at hδ
      exact key k m a hk ha ho q1
    · rename_i k m hk hδ
      obtain ⟨o, ho, a, rfl, ha⟩ := S1.at hδ
      exact key k m a hk ha ho q1
    · exact q1.elim
  · exact q1.elim
theorem de_inV (i : Nat) (hu : X.A.units + 64 < cLine) (he : DE X W e te fe) (hN : X.N[i]? = some x := by rfl) (hv : Vis X.env.scope x := by first | exact Or.inl rfl | exact Or.inr (Or.inl rfl) | exact Or.inr (Or.inr rfl)) (hd : (x == ("__debug__" : Str)) = false := by decide) (hcd : (x == ("__classdict__" : Str)) = false := by decide) (hfx : fxOn = false := by rfl) :
    DE X W (.Compare e [.In] [.Name x o1] pos) (tDIn te (tVar i)) (fInV false i fe) := ⟨pe_cmp (pc_din (by omega) he.pe (pv i hN hv hd hcd)) rfl, inv_sem (b := fun z => z) hfx (fun _ => rfl) he.sem⟩
theorem de_niV (i : Nat) (hu : X.A.units + 64 < cLine) (he : DE X W e te fe) (hN : X.N[i]? = some x := by rfl) (hv : Vis X.env.scope x := by first | exact Or.inl rfl | exact Or.inr (Or.inl rfl) | exact Or.inr (Or.inr rfl)) (hd : (x == ("__debug__" : Str)) = false := by decide) (hcd : (x == ("__classdict__" : Str)) = false := by decide) (hfx : fxOn = false := by rfl) :
    DE X W (.Compare e [.NotIn] [.Name x o1] pos) (tDNotIn te (tVar i)) (fInV true i fe) := ⟨pe_cmp (pc_dnotin (by omega) he.pe (pv i hN hv hd hcd)) rfl, inv_sem (b := fun z => !z) hfx (fun _ => rfl) he.sem⟩
theorem dt_inV (i : Nat) (hu : X.A.units + 64 < cLine) (he : DE X W e te fe) (hN : X.N[i]? = some x := by rfl) (hv : Vis X.env.scope x := by first | exact Or.inl rfl | exact Or.inr (Or.inl rfl) | exact Or.inr (Or.inr rfl)) (hd : (x == ("__debug__" : Str)) = false := by decide) (hcd : (x == ("__classdict__" : Str)) = false := by decide) (hfx : fxOn = false := by rfl) :
    DT X W (.Compare e [.In] [.Name x o1] pos) (tB (tDIn te (tVar i))) (fTst (fInV false i fe)) := ⟨pt_cmp (pc_din (by omega) he.pe (pv i hN hv hd hcd)) rfl, sem_tB (inv_sem (b := fun z => z) hfx (fun _ => rfl) he.sem)⟩
theorem dt_niV (i : Nat) (hu : X.A.units + 64 < cLine) (he : DE X W e te fe) (hN : X.N[i]? = some x := by rfl) (hv : Vis X.env.scope x := by first | exact Or.inl rfl | exact Or.inr (Or.inl rfl) | exact Or.inr (Or.inr rfl)) (hd : (x == ("__debug__" : Str)) = false := by decide) (hcd : (x == ("__classdict__" : Str)) = false := by decide) (hfx : fxOn = false := by rfl) :
    DT X W (.Compare e [.NotIn] [.Name x o1] pos) (tB (tDNotIn te (tVar i))) (fTst (fInV true i fe)) := ⟨pt_cmp (pc_dnotin (by omega) he.pe (pv i hN hv hd hcd)) rfl, sem_tB (inv_sem (b := fun z => !z) hfx (fun _ => rfl) he.sem)⟩
/-- x[k] = e, k not in the dict x yet -/
def lone (j : Nat) (δ : List Sl) : Bool := (δ.set j .un).all Sl.cold
def fDPut (j : Nat) (fk fe : List Sl → R) : List Sl → Fl := fun δ => match δ[j]? with
  | some (.dct m) => (match fe (thaw δ), fk (thaw δ) with
    | .ok d, .ok (.tuple ds) => (match Sc.of d, intsOf ds with
      | some s, some k => if lone j δ = true ∧ m.has k = false ∧ m.length < LIM then .nx (δ.set j (.dct (m ++ [(k, s)]))) else .bad
      | _, _ => .bad)
    | _, _ => .bad)
  | _ => .bad
theorem lone_not {j k : Nat} {δ : List Sl} {s : Sl} (h : lone j δ = true) (n : j ≠ k) (e : δ[k]? = some s) : s.cold = true := by
  unfold lone at h
  rw [List.all_eq_true] at h
  refine h s ?_
  rw [List.mem_iff_getElem?]
  exact ⟨k, by rw [List.getElem?_set_ne n]; exact e⟩
theorem St.wdct {H0 G H : Hp} {σ : L2.St} {δ : List Sl} {i : Nat} {m m' : Dm} {p : Addr} (S : St K H0 G H σ δ) (hl : lone i δ = true) (h : δ[i]? = some (.dct m)) (hσ : σ[i]? = some (some (.ref p))) (h0 : H0 p = none) (hG : G p = none) (hH : H p = some (.dT m.w)) : St K H0 G (upd H p (.dT m'.w)) σ (δ.set i (.dct m')) :=
  ⟨fun b o e => by rw [upd_ne (ne_of_none e hG)]; exact S.s b o e, fun b o e => by rw [upd_ne (ne_of_none e h0)]; exact S.b b o e, by rw [List.length_set]; exact S.l, fun j s o e1 e2 => by
    rcases get_set e1 with ⟨rfl, rfl, _⟩ | ⟨n1, e1⟩
    · rw [hσ] at e2
      cases e2
      exact ⟨p, rfl, h0, hG, upd_same⟩
    · have q := S.r j s o e1 e2
      have hn := lone_not hl n1 e1
      cases s with
      | un => trivial
      | v d => exact q
      | own es =>
        obtain ⟨p', ys, rfl, a1, a2, a3, a4⟩ := q
        have hne : p' ≠ p := fun z => by
          subst z
          rw [hH] at a3
          cases a3
        exact ⟨p', ys, rfl, a1, a2, by rw [upd_ne hne]; exact a3, a4⟩
      | dct m => (cases hn)
      | rd m => (cases hn)
      | ob a => exact q
      | br p2 ds2 => exact q, fun j k ds1 es p' njk e1 e2 e3 e4 => by
    rcases get_set e1 with ⟨rfl, e1, _⟩ | ⟨_, e1⟩
    · cases e1
    · rcases get_set e2 with ⟨rfl, e2, _⟩ | ⟨_, e2⟩
      · cases e2
      · exact S.ap j k ds1 es p' njk e1 e2 e3 e4⟩
theorem sc_of {d : D} {s : Sc} (h : Sc.of d = some s) : flat d = true ∧ ∀ (G : Hp) (v : V), Rep K G d v → v = s.v := by
  cases d with
  | int n => cases h; exact ⟨by rw [flat], fun G v r => r⟩
  | bool x => cases h; exact ⟨by rw [flat], fun G v r => r⟩
  | _ => cases h
theorem put_snoc {m : Dm} {k : List Int} {s : Sc} (h : m.has k = false) : putK m.w (k.map Sum.inl) s.v = Dm.w (m ++ [(k, s)]) := by
  unfold putK
  rw [has_any, h]
  unfold Dm.w
  rw [List.map_append]
  rfl
theorem ds_dput (j : Nat) (hu : X.A.units + 64 < cLine) (he : DE X W e te fe) (hi : DE X W ie ti fi) (hN : X.N[j]? = some x := by rfl) (hv : Vis X.env.scope x := by first | exact Or.inl rfl | exact Or.inr (Or.inl rfl) | exact Or.inr (Or.inr rfl)) (hd : (x == ("__debug__" : Str)) = false := by decide) (hcd : (x == ("__classdict__" : Str)) = false := by decide)
    (hs : swapsWith e (some (.Subscript (.Name x o1) ie spos)) pos.line X.env = pure false := by rfl) (hfx : fxOn = false := by rfl) :
    DS X W (.Assign [.Subscript (.Name x o1) ie spos] e pos) (sDPut (tVar j) ti te) (fDPut j fi fe) := ⟨ps_dput (by omega) (pv j hN hv hd hcd) hi.pe he.pe hs, fun G0 H0 D H σ δ S q => by
  obtain ⟨G, e0, St0⟩ := id S
  unfold fDPut at q
  split at q
  · rename_i m hδ
    obtain ⟨o, e1, p, rfl, h0, hG, hH⟩ := St0.at hδ
    split at q
    · rename_i d ds hd hk
      split at q
      · rename_i s k hs hks
        obtain ⟨⟨hl, hn, hm⟩, q⟩ := fq_if q
        obtain ⟨hf, hsv⟩ := sc_of (K := X.K) hs
        refine he.sem H0 H H σ (thaw δ) _ St0.thaw ?_
        rw [hd]
        intro v G1 H1 e2 rv
        obtain ⟨a1, _⟩ := back1 St0.s e2 hf rv
        have ev := hsv _ _ rv
        refine ⟨.ref p, e1, ?_⟩
        have S1 := St0.go a1
        refine hi.sem H0 H1 H1 σ (thaw δ) _ S1.thaw ?_
        rw [hk]
        intro iv G2 H2 e3 ri
        obtain ⟨b, xs, rfl, hb | ⟨f, _⟩, r2⟩ := ri
        rotate_left
        · rw [hfx] at f; cases f
        have ed := ints_of hks
        subst ed
        have ex := r2.ints
        subst ex
        have b1 : Ext (tupsOf G H1) H1 (tupsOf G H1) H2 := same_ext a1.s e3.h
        have S2 := S1.go b1
        have hH2 : H2 p = some (.dT m.w) := e3.h _ _ (e2.h _ _ hH)
        have hG2 : tupsOf G H1 p = none := a1.n p hG (mut_dT hH)
        have hkey : H2 b = some (.tup ((k.map Sum.inl).map kV)) := by rw [keyV]; exact e3.s _ _ hb
        have hlen : m.w.length < sizeLine := by unfold Dm.w; rw [List.length_map]; exact lt_line hm
        have dp := DPut.t (v := v) hH2 hkey hlen
        rw [ev, put_snoc hn] at dp
        rw [ev]
        exact ⟨p, _, rfl, dp, q _ _ ⟨tupsOf G H1, ((e0.trans a1).trans b1).write h0 hG2, S2.wdct hl hδ e1 h0 hG2 hH2⟩⟩
      · exact q.elim
    · exact q.elim
  · exact q.elim⟩
end
end DL
set_option Elab.async false
set_option linter.all false
set_option maxRecDepth 100000
set_option maxHeartbeats 4000000
/-! tuples that are known to have no dict; index; sorted -/
namespace DL
open PySem PySem.Spec PyProof.Rows L2
abbrev ins_ (ns : List Int) : List D := ns.map PyData.int
theorem inj_ins : ∀ {a b : List Int}, ins_ a = ins_ b → a = b
  | [], [], _ => rfl
  | [], _ :: _, h => by cases h
  | _ :: _, [], h => by cases h
  | x :: a, y :: b, h => by
    have h1 := List.head_eq_of_cons_eq h
    have h2 := List.tail_eq_of_cons_eq h
    cases h1
    rw [inj_ins h2]
theorem fx_not {ds : List D} {m : Dm} (h : [(PyData.bool true, PyData.tuple ds)] = encD m) : False := by
  cases m with
  | nil => cases h
  | cons p m => unfold encD at h; rw [List.map_cons] at h; injection h with h _; injection h with h _; cases h
def ux : D → D
  | .dict [(.bool true, .tuple ds)] => .tuple ds
  | d => d
theorem ux_rep {K : PySem.W.Frag} {G : Hp} {d : D} {v : V} (r : Rep K G d v) : Rep K G (ux d) v := by
  unfold ux
  split
  · rcases r with ⟨e, _⟩ | ⟨_, _, e, _⟩ | ⟨f, ns, a, o, e, rfl, n, h⟩ | ⟨m, _, _, _, e, _⟩ | ⟨_, _, _, _, e, _⟩
    · cases e
    · cases e
    rotate_left
    · exact (fx_not e).elim
    · cases e
    · cases e
      exact ⟨a, _, rfl, .inr ⟨f, o, n, h⟩, RepL.of_ints ns⟩
  · exact r
def fUx (f : List Sl → R) : List Sl → R := fun δ => (f δ).bind fun d => .ok (ux d)
section
variable {K : PySem.W.Frag} {X : Cx} {W : WX} {mg : Str → Option Value} {o e : Expr} {te to : TE} {fe fo : List Sl → R} {pos apos cpos : Pos}
theorem de_ux (h : DE X W e te fe) : DE X W e te (fUx fe) := ⟨h.pe, fun H0 G H σ δ Q S q => h.sem H0 G H σ δ Q S (RQ.bind q fun d v G1 H1 e1 r1 q1 => RQ.here e1.s q1 (ux_rep r1))⟩
/-- tuple(a list of numbers): the object kept -/
def rTupF (K : PySem.W.Frag) : List V → Hp → VK → Prop := fun xs H Q => ∃ p ys, xs = [.ref p] ∧ SqL K H p ys ∧ ∀ l o, noDict o → H l = none → Q (.ref l) (upd H l (.frz o (.tup ys)))
theorem call_tupF : CallR X (.type "tuple") (rTupF X.K) := by
  intro pins s σ H xs us Q I r h
  obtain ⟨p, ys, rfl, hq, q⟩ := h
  obtain ⟨u, rfl, rx⟩ := vals1 r
  cases rx
  obtain ⟨its, rv, isl, hz⟩ := I.list hq
  have len := rv.length
  refine call_tuple_list isl.isList (fun g kp => ?_) (by simp only [List.size_toArray] <;> omega)
  have I1 : Inv X pins σ H { s with heap := g } := I.kept (t' := s.toks) kp
  have fr : H g.objs.size = none := I1.hok.fresh (Nat.le_refl _)
  have at0 : (g.push { cls := .type "tuple", data := .seq its.toArray }).get? g.objs.size = some { cls := .type "tuple", data := .seq its.toArray } := Heap.get?_push_size _ rfl
  refine ⟨.ref g.objs.size, _, I1.laid (a := g.objs.size) (o := .frz { cls := .type "tuple", data := .seq its.toArray } (.tup ys)) (t' := s.toks) (fun b u z => Heap.get?_push_of_some _ z) (Nat.le_refl _) ?_, rfl, q _ _ rfl fr⟩
  exact ⟨at0, hz, its, rv, _, at0, rfl, _, rfl⟩
def gTupleF : List D → R
  | [.list ds] => match intsOf ds with
    | some ns => .ok (fx (ns.map .int))
    | none => .bad
  | _ => .bad
theorem k_tupF (K : PySem.W.Frag) (hK : X.K = K := by rfl) (hf : fxOn = true := by rfl) : CallR X (.type "tuple") (rTupF K) ∧ CallSem X.K (rTupF K) gTupleF := by
  subst hK
  refine ⟨call_tupF, fun mg E G H ds vs Q s rs q => ?_⟩
  unfold gTupleF at q
  split at q
  · obtain ⟨x, rfl, a, xs, rfl, h1, r1⟩ := repL1 rs
    split at q
    · rename_i ns hns
      have ed := ints_of hns
      subst ed
      have ex := r1.ints
      subst ex
      exact ⟨a, _, rfl, .inl (.inl (s _ _ h1)), fun l o n hl => q _ _ _ (Ext.laid s hl) (.inr (.inr (.inl ⟨hf, ns, l, o, rfl, rfl, n, upd_same⟩)))⟩
    · exact q.elim
  · exact q.elim
/-- t.index(k) -/
def tyTF (x : V) (H : Hp) : Prop := ∃ a ob xs, x = .ref a ∧ noDict ob ∧ H a = some (.frz ob (.tup xs))
theorem ty_tf : TyOk X "tuple" tyTF := by
  intro pins σ H s x v I r t
  obtain ⟨a, ob, xs, rfl, n, h⟩ := t
  cases r
  obtain ⟨g, _, its, _, o2, g2, c2, _⟩ := I.hok a _ h
  rw [g] at g2
  cases g2
  exact ⟨⟨ob, g, c2⟩, fun b e => by cases e; exact ⟨ob, g, n⟩⟩
def rIdxT : V → List V → Hp → VK → Prop := fun x xs H Q => ∃ a ob ns k, x = .ref a ∧ xs = [.int k] ∧ H a = some (.frz ob (.tup (List.map V.int ns))) ∧ k ∈ ns ∧ Q (.int ((List.idxOf k ns : Nat) : Int)) H
theorem mt_idxT : MtR X "tuple.index" rIdxT := by
  intro pins s σ H x xs v us Q I rx rs h
  obtain ⟨a, ob, ns, k, rfl, rfl, h, hk, q⟩ := h
  cases rx
  obtain ⟨u, rfl, t, rfl⟩ := vals1 rs
  obtain ⟨its, rv, p, _⟩ := I.tuple (show SqT X.K H a (ns.map V.int) from .inl (.inr ⟨ob, h⟩))
  exact SeqAt.tuple_index_ints p (intsAre_of rv) hk ⟨.int (ns.idxOf k : Nat), H, I.tok _, ⟨_, rfl⟩, q⟩
def fIdx (fo fe : List Sl → R) : List Sl → R := fun δ => (fo δ).bind fun a => match a with
  | .dict [(.bool true, .tuple ds)] => (fe δ).bind fun b => gIndex (.dict [(.bool true, .tuple ds)]) b
  | _ => .bad
theorem de_index (ho : DE X W o to fo) (he : DE X W e te fe)
    (hbase : attributeBase o "index" X.env (eval o X.env) = eval o X.env := by rfl)
    (hfew : ((backTo cpos (starEach [e] X.env)).all (fun x => !x.1) && (backToKw cpos (keywordEach [] X.env)).all (fun x => x.1.isSome)
      && decide ([e].length + ([] : List Keyword).length + (if ([] : List Keyword).isEmpty then 0 else 1) < 30)) = true := by rfl)
    (hline : (apos.endLine == cpos.line) = true := by rfl) (h1 : starEach [e] X.env = (false, eval e X.env) :: starEach [] X.env := by rfl) (hplain : (backTo cpos (starEach [] X.env)).any (·.1) = false := by rfl) :
    DE X W (.Call (.Attribute o "index" apos) [e] [] cpos) (tMG tyTF rIdxT to (tCons te tNil)) (fIdx fo fe) := by
  refine ⟨pe_mG ty_tf PySem.F.plainAttrs_tuple PySem.F.slot_tuple_index PySem.F.type_tuple_index mt_idxT ho.pe (pa_cons he.pe pa_nil h1) hbase hfew hline h1 hplain, fun H0 G H σ δ Q S q => ?_⟩
  refine ho.sem H0 G H σ δ _ S (RQ.bind q fun d v G1 H1 e1 r1 q1 => ?_)
  split at q1
  · rename_i ds
    rcases r1 with ⟨e, _⟩ | ⟨_, _, e, _⟩ | ⟨_, ns, a, ob, e, rfl, n, h⟩ | ⟨m, _, _, _, e, _⟩ | ⟨_, _, _, _, e, _⟩
    · cases e
    · cases e
    rotate_left
    · exact (fx_not e).elim
    · cases e
    · cases e
      refine ⟨⟨a, ob, _, rfl, n, e1.s _ _ h⟩, ?_⟩
      refine he.sem H0 G1 H1 σ δ _ (S.go e1) (RQ.bind q1 fun b w G2 H2 e2 r2 q2 => ?_)
      unfold gIndex at q2
      split at q2
      · rename_i ds k hd
        cases hd
        cases r2
        split at q2
        · rename_i ns' hns
          have := ints_of hns
          have e' : ns' = ns := by
            have : ins_ ns' = ins_ ns := this.symm
            exact inj_ins this
          subst e'
          obtain ⟨hk, q2⟩ := rq_if q2
          exact ⟨a, ob, ns', k, rfl, rfl, e2.h _ _ (e1.s _ _ h), hk, RQ.here e2.s q2 rfl⟩
        · exact q2.elim
      · exact q2.elim
  · exact q1.elim
theorem k_sorted (K : PySem.W.Frag) (hK : X.K = K := by rfl) : CallR X (.builtin "sorted") (rSortedI K) ∧ CallSem X.K (rSortedI K) gSorted := by
  subst hK
  refine ⟨cr_sortedI, fun mg E G H ds vs Q s rs q => ?_⟩
  unfold gSorted at q
  split at q
  · rename_i l0
    obtain ⟨x, rfl, a, xs, rfl, h1, r1⟩ := repL1 rs
    have go : ∀ (ns ms : List Int), intsOf l0 = some ns → ms.Pairwise (· ≤ ·) → ms.Perm ns → RQ X.K mg E G H Q (.new (ms.map .int)) → rSortedI X.K [V.ref a] H Q := fun ns ms hns hp hm q => by
      have ed := ints_of hns
      subst ed
      have ex := r1.ints
      subst ex
      refine ⟨a, ns, rfl, .inl (.inl (s _ _ h1)), fun ns' p hp' hs hl => ?_⟩
      have e : ns' = ms := List.Perm.eq_of_pairwise (fun x y _ _ h1 h2 => Int.le_antisymm h1 h2) hs hp (hp'.trans hm.symm)
      subst e
      exact rq_new s (RepL.of_ints ns') q hl
    split at q
    · rename_i h; exact go [] [] h .nil (.refl _) q
    · rename_i x h; exact go [x] [x] h (List.pairwise_singleton _ _) (.refl _) q
    · rename_i x y h
      by_cases c : y < x
      · rw [if_pos c] at q
        exact go [x, y] [y, x] h (by simp; omega) (.swap _ _ _) q
      · rw [if_neg c] at q
        exact go [x, y] [x, y] h (by simp; omega) (.refl _) q
    · exact q.elim
  · exact q.elim
end
end DL
set_option Elab.async false
set_option linter.all false
set_option maxRecDepth 100000
set_option maxHeartbeats 4000000
/-! sorted of at most two pairs of numbers; texts: join -/
namespace DL
open PySem PySem.Spec PyProof.Rows L2
/-- sorted: two pairs of numbers at most -/
def pairOf : D → Option (Int × Int)
  | .tuple [.int a, .int b] => some (a, b)
  | _ => none
theorem pairOf_eq {d : D} {p : Int × Int} (h : pairOf d = some p) : d = .tuple [.int p.1, .int p.2] := by
  unfold pairOf at h
  split at h
  · cases h; rfl
  · cases h
def gSortedP : List D → R
  | [.list []] => .new []
  | [.list [x]] => match pairOf x with
    | some _ => .new [x]
    | none => .bad
  | [.list [x, y]] => match pairOf x, pairOf y with
    | some p, some q => .new (if SrtO.lexB q p = true then [y, x] else [x, y])
    | _, _ => .bad
  | _ => .bad
theorem perm2 {α : Type} {a b : α} {ys : List α} (h : ys.Perm [a, b]) : ys = [a, b] ∨ ys = [b, a] := by
  have hl := h.length_eq
  match ys, hl with
  | [x, y], _ =>
    have hx : x ∈ [a, b] := h.subset List.mem_cons_self
    rcases List.mem_cons.mp hx with rfl | hx
    · have q := (List.Perm.cons_inv h)
      have := List.perm_singleton.mp q
      exact .inl (by rw [this])
    · have e := List.mem_singleton.mp hx
      subst e
      have q : [x, y].Perm [x, a] := h.trans (.swap _ _ _)
      have := List.perm_singleton.mp (List.Perm.cons_inv q)
      exact .inr (by rw [this])
section
variable {X : Cx}
theorem pair_rep {K : PySem.W.Frag} {G : Hp} {p : Int × Int} {v : V} (r : Rep K G (.tuple [.int p.1, .int p.2]) v) : ∃ t, v = .ref t ∧ TupAt G t [.int p.1, .int p.2] := by
  obtain ⟨t, xs, rfl, h, r2⟩ := r
  obtain ⟨x, y, rfl, rx, ry⟩ := repL2 r2
  cases rx
  cases ry
  exact ⟨t, rfl, h⟩
theorem pair_inj {G : Hp} {t : Addr} {p q : Int × Int} (h : TupAt G t [.int p.1, .int p.2]) (g : TupAt G t [.int q.1, .int q.2]) : p = q := by
  have e : ([V.int p.1, V.int p.2] : List V) = [.int q.1, .int q.2] := by
    rcases h with h | ⟨_, o, _, h⟩ <;> rcases g with g | ⟨_, o', _, g⟩ <;> rw [h] at g <;> simp at g <;> simp [g]
  simp at e
  exact Prod.ext e.1 e.2
/-- sorted(pairs of numbers), kept either way -/
def rSortedPF (K : PySem.W.Frag) : List V → Hp → VK → Prop := fun vs H Q => ∃ (a : Addr) (xs : List V) (k : V → Int × Int), vs = [V.ref a] ∧ SqL K H a xs ∧ (∀ x ∈ xs, ∃ t, x = V.ref t ∧ SqT K H t [.int (k x).1, .int (k x).2]) ∧
  ∀ ys p, SrtO.Srtd (ltP k) ys → SrtO.Stb (ltP k) ys xs → H p = none → Q (.ref p) (upd H p (.lst ys))
theorem cr_sortedPF : CallR X (.builtin "sorted") (rSortedPF X.K) := by
  intro pins s σ H vs us Q I r h
  obtain ⟨a, xs, k, rfl, hs, hx, q⟩ := h
  obtain ⟨its, rv, hl, hz⟩ := I.list hs
  obtain ⟨u, rfl, ru⟩ := vals1 r
  cases ru
  obtain ⟨e1, e2⟩ := refs_back rv fun x m => (hx x m).imp fun t z => z.1
  refine SrtO.sorted_pairsO (k := fun u => k (backV u)) hl.isList (by rw [← rv.length]; exact hz) (fun v hv => ?_) fun h' d out h1 h2 kp hd hn => ?_
  · obtain ⟨t, rfl⟩ := e2 v hv
    obtain ⟨t', e, ht⟩ := hx (.ref t) (by rw [e1]; exact List.mem_map.mpr ⟨_, hv, rfl⟩)
    cases e
    obtain ⟨its2, r2, ⟨o, ho, hc, n, hd⟩, _⟩ := I.tuple ht
    obtain ⟨u1, u2, rfl, ⟨t1, rfl⟩, ⟨t2, rfl⟩⟩ := vals2 r2
    exact ⟨t, o, t1, t2, n, rfl, ho, hc, hd⟩
  · have h3 : ∀ u ∈ out, ∃ a, u = Value.ref a := fun u hu => e2 u (h2.perm.mem_iff.mp hu)
    obtain ⟨n, hn⟩ := hn
    have hb : SrtO.Stb (ltP k) (out.map backV) xs := by
      rw [e1]
      exact SrtO.Stb.map (ltP_swo k) backV h2
    refine ⟨.ref d, upd H d (.lst (out.map backV)), I.laid (t' := s.toks) kp hd ⟨?_, out, n, vals_back h3, hn⟩, rfl, q _ d (SrtO.srtd_map h1) hb (I.hok.fresh hd)⟩
    rw [hb.len]
    exact hz
theorem k_sortedP (K : PySem.W.Frag) (hK : X.K = K := by rfl) : CallR X (.builtin "sorted") (rSortedPF K) ∧ CallSem X.K (rSortedPF K) gSortedP := by
  subst hK
  refine ⟨cr_sortedPF, fun mg E G H ds vs Q s rs q => ?_⟩
  unfold gSortedP at q
  split at q
  · obtain ⟨x, rfl, a, xs, rfl, h1, r1⟩ := repL1 rs
    cases r1
    refine ⟨a, [], fun _ => (0, 0), rfl, .inl (.inl (s _ _ h1)), (fun x hx => by cases hx), fun ys p _ st hp => ?_⟩
    have e := List.perm_nil.mp st.perm
    subst e
    exact rq_new s (show RepL X.K G [] [] from rfl) q hp
  · rename_i d
    obtain ⟨x, rfl, a, xs, rfl, h1, r1⟩ := repL1 rs
    obtain ⟨v, rfl, rv⟩ := repL1 r1
    split at q
    · rename_i p hp
      have ed := pairOf_eq hp
      subst ed
      obtain ⟨t, rfl, ht⟩ := pair_rep rv
      refine ⟨a, [.ref t], fun _ => p, rfl, .inl (.inl (s _ _ h1)), fun x hx => by rw [List.mem_singleton.mp hx]; exact ⟨t, rfl, (ht.mono s).sq⟩, fun ys p' _ st hp' => ?_⟩
      have e := List.perm_singleton.mp st.perm
      subst e
      exact rq_new s r1 q hp'
    · exact q.elim
  · rename_i d1 d2
    obtain ⟨x, rfl, a, xs, rfl, h1, r1⟩ := repL1 rs
    obtain ⟨v1, v2, rfl, rv1, rv2⟩ := repL2 r1
    split at q
    · rename_i p1 p2 e1 e2
      have ed1 := pairOf_eq e1
      have ed2 := pairOf_eq e2
      subst ed1 ed2
      obtain ⟨t1, rfl, g1⟩ := pair_rep rv1
      obtain ⟨t2, rfl, g2⟩ := pair_rep rv2
      have key : ∃ k : V → Int × Int, k (.ref t1) = p1 ∧ k (.ref t2) = p2 := by
        refine ⟨fun v => if v = .ref t1 then p1 else p2, if_pos rfl, ?_⟩
        show (if V.ref t2 = V.ref t1 then p1 else p2) = p2
        by_cases c : V.ref t2 = V.ref t1
        · rw [if_pos c]
          cases c
          exact pair_inj g1 g2
        · rw [if_neg c]
      obtain ⟨k, k1, k2⟩ := key
      refine ⟨a, [.ref t1, .ref t2], k, rfl, .inl (.inl (s _ _ h1)), fun x hx => ?_, fun ys p' sd st hp' => ?_⟩
      · rcases List.mem_cons.mp hx with rfl | hx
        · exact ⟨t1, rfl, by rw [k1]; exact (g1.mono s).sq⟩
        · rw [List.mem_singleton.mp hx]
          exact ⟨t2, rfl, by rw [k2]; exact (g2.mono s).sq⟩
      · have sw : RepL X.K G [.tuple [.int p2.1, .int p2.2], .tuple [.int p1.1, .int p1.2]] [.ref t2, .ref t1] := ⟨.ref t2, _, rfl, rv2, RepL.one rv1⟩
        rcases perm2 st.perm with rfl | rfl
        · have h := (List.pairwise_cons.mp sd).1 _ List.mem_cons_self
          rw [show ltP k (.ref t2) (.ref t1) = SrtO.lexB (k (.ref t2)) (k (.ref t1)) from rfl, k1, k2] at h
          rw [if_neg (by rw [h]; decide)] at q
          exact rq_new s r1 q hp'
        · have h := (List.pairwise_cons.mp sd).1 _ List.mem_cons_self
          rw [show ltP k (.ref t1) (.ref t2) = SrtO.lexB (k (.ref t1)) (k (.ref t2)) from rfl, k1, k2] at h
          by_cases c : SrtO.lexB p2 p1 = true
          · rw [if_pos c] at q
            exact rq_new s sw q hp'
          · rw [if_neg c] at q
            have n1 : ¬ SrtO.lexB p1 p2 = true := by rw [h]; decide
            rw [SrtO.lexB_iff] at c n1
            have e : p1 = p2 := Prod.ext (by omega) (by omega)
            subst e
            exact rq_new s sw q hp'
    · exact q.elim
  · exact q.elim
end
end DL
set_option Elab.async false
set_option linter.all false
set_option maxRecDepth 100000
set_option maxHeartbeats 4000000
/-! zip while an exception is handled -/
namespace DL
open PySem PySem.Spec PyProof.Rows L2 HotX
section
variable {prog : Program} {w : World} {A : Around} {E : Value → Shared → Prop} {s : Shared}
/-- a list's iterator at its end, while x1 is handled -/
theorem next_list_end_hot {it l x1 : Addr} {i : Nat} {items : Array Value} {Q : Value → Shared → Prop} (hot : HotAt A x1 s.heap) (nx : x1 ≠ it)
    (hit : s.heap.IsListIter it l i) (hl : s.heap.IsList l items) (hx : items[i]? = none)
    (hE : ∀ g e, Heap.ExtBut it s.heap g → (∃ o, g.get? e = some o ∧ o.cls = .type "StopIteration") → E (.ref e) { s with heap := g }) :
    wpAny (model prog w) A (Builtin.SmallTypes.nextOf (.ref it)) Q E s := by
  obtain ⟨ob, g1, c1, d1⟩ := id hit
  obtain ⟨oL, gL, _, nL, dL⟩ := hl
  obtain ⟨hh, oX, vX, gX, dX, cX⟩ := hot
  unfold Builtin.SmallTypes.nextOf
  refine wpAny_bind (wpAny_callSpecial?_slot (name := Str.ofString "__next__") hit.typeIs slot_listiter_next (wpAny_call_entry slot_listiter_next hit.typeIs entry_listiter_next ?_ (args_listiter_next _)))
  show wpAny _ _ ((field (.ref it) 0).bind _) _ _ s
  refine wpAny_bind (wpAny_field g1 d1 (x := .ref l) rfl ?_)
  have nn : ¬ ((Value.ref l == Value.none) = true) := Bool.false_ne_true
  show wpAny _ _ (if (Value.ref l == Value.none) = true then _ else _) _ _ s
  rw [if_neg nn]
  show wpAny _ _ ((field (.ref it) 1).bind _) _ _ s
  refine wpAny_bind (wpAny_field g1 d1 (x := .int i 0) rfl ?_)
  show wpAny _ _ ((seqItems? (.ref l)).bind _) _ _ s
  refine wpAny_bind (wpAny_seqItems gL dL ?_)
  simp only [Int.toNat_natCast, hx]
  refine wpAny_bind (wpAny_rule (wpAny_bind (wpAny_setField g1 d1 (by simp) ?_)))
  show wpAny _ _ ((newExc (.type "StopIteration") []).bind _) _ _ _
  refine wpAny_bind ?_
  simp only [newExc, newTuple]
  refine wpAny_bind (wpAny_newObj_type ?_ (by size_fits))
  refine wpAny_bind (m := firstArgMember _ _) (wpAny_of_eq (a := Value.none) (by first | rfl | (simp only [firstArgMember]; rfl)) (wpAny_newObj_type ?_ (by size_fits)))
  have gX2 : (s.heap.update it (Obj.mapFields fun fs => fs.setIfInBounds 0 .none)).get? x1 = some oX := (Heap.get?_update_other _ _ nx.symm).trans gX
  refine raiseNew_hot ⟨hh, oX, vX, Heap.get?_push_of_some _ (Heap.get?_push_of_some _ gX2), dX, cX⟩ (Nat.ne_of_lt (Heap.lt_size (Heap.get?_push_of_some _ gX2))) (Heap.get?_push_size _ rfl) rfl (by first | (simp; done) | (simp; omega)) ?_
  refine hE _ _ (fun b o hb e => ?_) ⟨_, Heap.get?_update_self _ (Heap.get?_push_size _ rfl) rfl, rfl⟩
  have e1 : (s.heap.update it (Obj.mapFields fun fs => fs.setIfInBounds 0 .none)).get? b = some o := (Heap.get?_update_other _ _ (Ne.symm hb)).trans e
  rw [Heap.get?_update_other _ _ (Nat.ne_of_gt (Heap.lt_size (Heap.get?_push_of_some _ e1)))]
  exact Heap.get?_push_of_some _ (Heap.get?_push_of_some _ e1)
def HotO (x1 : Addr) (h : Heap) : Prop := ∃ (o : Obj) (vs : Array Value), h.get? x1 = some o ∧ o.data = .fields vs ∧ vs[2]? = some .none
theorem draws_hot {x1 : Addr} (hh : A.handled = some (.ref x1)) (it l : Addr) (ne : l ≠ it) (nx : x1 ≠ it) (items : Array Value) :
    Draws prog w A it [it, l, x1] items.size (fun i v => items[i]? = some v) (fun i h => h.IsListIter it l i ∧ h.IsList l items ∧ HotO x1 h) where
  live := fun _ _ st => let ⟨o, g, _⟩ := st.1; ⟨o, g⟩
  frame := fun i h h' st k => by
    obtain ⟨a, b, o, vs, g, r⟩ := st
    exact ⟨a.at fun o e => k it (by simp) o e, b.at fun o e => k l (by simp) o e, o, vs, k x1 (by simp) o g, r⟩
  item := fun i s Q E hi st hQ => by
    obtain ⟨a, b, o, vs, g, r⟩ := st
    refine wpAny_nextOf_list_item a b (x := items[i]) (by simp [hi]) fun h' a' sb => ?_
    exact hQ _ h' s.toks (by simp [hi]) ⟨a', b.extBut sb.extBut ne, o, vs, sb.extBut _ _ nx g, r⟩ sb
  done := fun s Q E st hE => next_list_end_hot ⟨hh, st.2.2⟩ nx st.1 st.2.1 (by simp) hE
end
theorem sep_hot {z TI TO i1 i2 a b x1 : Addr} (D : Apart5 z TI TO i1 i2 a b) (h : ∀ m ∈ [z, TI, TO, i1, i2], x1 ≠ m) : ZipSep2 z TI TO i1 i2 [i1, a, x1] [i2, b, x1] := by
  have S := D.sep
  have more : ∀ {m i c : Addr}, m ∉ [i, c] → x1 ≠ m → m ∉ [i, c, x1] := fun {m i c} h1 h2 => by
    simp only [List.mem_cons, List.not_mem_nil, or_false, not_or] at h1 ⊢
    exact ⟨h1.1, h1.2, Ne.symm h2⟩
  exact ⟨S.TIz, S.TOz, S.TITO, S.TIi1, by simp, more S.zf1 (h z (by simp)), more S.Tf1 (h TO (by simp)), S.TIi2, by simp, more S.zf2 (h z (by simp)), more S.Tf2 (h TO (by simp)), more S.sep1_2 (h i1 (by simp)), more S.sep2_1 (h i2 (by simp))⟩
/-- a walk's turn while x1 is handled (TurnH asks a pin; within a comprehension's block the object is kept by the base) -/
structure TurnA (x1 : Addr) (P : Program) (w : World) (K : PySem.W.Frag) (tg : Expr) (J : It) (fp : List Addr) (it : Addr) (tn : Nat → Heap → Prop) : Prop where
  mem : it ∈ fp
  obj : ∀ i h, tn i h → ∀ b ∈ fp, ∃ o, h.get? b = some o ∧ ∀ v, o.data ≠ .cell v
  keep : ∀ i h h', tn i h → (∀ b ∈ fp, ∀ o, h.get? b = some o → h'.get? b = some o) → tn i h'
  item : ∀ (X : Cx), X.prog = P → X.w = w → X.K = K → X.A.handled = some (.ref x1) → ∀ (i : Nat) (pins : List (Addr × Obj)) (s : Shared) (σ : L2.St) (H : Hp) (E : Value → Shared → Prop), HotO x1 s.heap → (∀ m ∈ fp, x1 ≠ m) → Inv X pins σ H s → (∀ b ∈ fp, FpOk X pins H b) → tn i s.heap → J.go i H →
    wpAny (model P w) X.A (pyNext (.ref it)) (fun r s1 => ∃ u, r = some u ∧
      wpAny (model P w) X.A (letOwnedTupleGo tg (.ref it) u) (fun _ s2 => ∃ x H', Inv X pins σ H' s2 ∧ RelV x u ∧ J.yld i H x H' ∧ tn (i + 1) s2.heap ∧ ∀ b ∈ fp, H' b = none) E s1) E s
  done : ∀ (X : Cx), X.prog = P → X.w = w → X.K = K → X.A.handled = some (.ref x1) → ∀ (i : Nat) (pins : List (Addr × Obj)) (s : Shared) (σ : L2.St) (H : Hp) (E : Value → Shared → Prop), HotO x1 s.heap → (∀ m ∈ fp, x1 ≠ m) → Inv X pins σ H s → (∀ b ∈ fp, FpOk X pins H b) → tn i s.heap → J.stop i H →
    wpAny (model P w) X.A (pyNext (.ref it)) (fun r s1 => r = none ∧ Inv X pins σ H s1) E s
  self : ∀ (A : Around) (i : Nat) (s : Shared) (Q : Value → Shared → Prop) (E : Value → Shared → Prop), tn i s.heap → Q (.ref it) s → wpAny (model P w) A (pyIter (.ref it)) Q E s
def PIXE (x1 : Addr) (X : Cx) (pins : List (Addr × Obj)) (σ : L2.St) (tg : Expr) (R : It → Hp → Prop) (itv : Value) (s2 : Shared) : Prop :=
  ∃ (it : Addr) (fp : List Addr) (tn : Nat → Heap → Prop) (J : It) (H' : Hp), itv = .ref it ∧ Inv X pins σ H' s2 ∧ TurnA x1 X.prog X.w X.K tg J fp it tn ∧ tn 0 s2.heap ∧ (∀ b ∈ fp, FpOk X pins H' b) ∧ R J H'
structure PIX (x1 : Addr) (X : Cx) (tg iter : Expr) (wi : TI) : Prop where
  run : ∀ (pins : List (Addr × Obj)) (s : Shared) (σ : L2.St) (H : Hp) (R : It → Hp → Prop), Inv X pins σ H s → wi σ H R →
    wpAny (model X.prog X.w) X.A (eval iter X.env) (fun v s1 => wpAny (model X.prog X.w) X.A (pyIter v) (PIXE x1 X pins σ tg R) X.xe s1) X.xe s
theorem turn_zipA {x1 : Addr} {P : Program} {w : World} {K : PySem.W.Frag} {elts : List Expr} {kk : Nat} {tpos : Pos} {a b z TI TO i1 i2 : Addr} (D : Apart5 z TI TO i1 i2 a b) :
    TurnA x1 P w K (.Tuple elts kk tpos) (ItzB K true true a b) [z, TI, TO, i1, i2] z (TnB true true a b z TI TO i1 i2) where
  mem := by simp
  obj := fun i h t x hx => tnB_obj t hx
  keep := fun i h h' t k => tnB_keep t k
  item := by
    rintro X rfl rfl rfl hh i pins s σ H E ho away I hf t ⟨xs, ys, x, y, qx, qy, ex, ey⟩
    obtain ⟨v1, r1, p1, _⟩ := sqB_in I qx
    obtain ⟨v2, r2, p2, _⟩ := sqB_in I qy
    have D1 := draws_hot (prog := X.prog) (w := X.w) (A := X.A.in1) hh i1 a D.n1 (away i1 (by simp)) v1.toArray
    have D2 := draws_hot (prog := X.prog) (w := X.w) (A := X.A.in1) hh i2 b D.n2 (away i2 (by simp)) v2.toArray
    obtain ⟨u1, e1, ru1⟩ := r1.get ex
    obtain ⟨u2, e2, ru2⟩ := r2.get ey
    obtain ⟨t1, t2, ⟨w1, w2, t3⟩, t4, t5⟩ := id t
    have l1 : i < v1.toArray.size := by simpa using (List.getElem?_eq_some_iff.mp e1).1
    have l2 : i < v2.toArray.size := by simpa using (List.getElem?_eq_some_iff.mp e2).1
    refine wpAny_pyNext_zipD2_item (sep_hot D away) D1 D2 t1 t2 t3 ⟨t4, p1, ho⟩ ⟨t5, p2, ho⟩ l1 l2 fun g1 g2 h' tk f1 f2 z' nTO s1 s2 nT hsz hk => ?_
    have eg1 : g1 = u1 := by
      have f1' : v1.toArray[i]? = some g1 := f1
      rw [List.getElem?_toArray, e1] at f1'
      exact (Option.some.inj f1').symm
    have eg2 : g2 = u2 := by
      have f2' : v2.toArray[i]? = some g2 := f2
      rw [List.getElem?_toArray, e2] at f2'
      exact (Option.some.inj f2').symm
    subst eg1 eg2
    have zlt := Heap.lt_size t1
    refine ⟨_, rfl, wpAny_letOwnedTupleGo_zip (s := { s with heap := h', toks := tk }) z' fun h2 z2 sb => ?_⟩
    have sep := D.sep
    have go : ∀ m o, m ≠ z → h'.get? m = some o → h2.get? m = some o := fun m o hm q => (sb.2 _ hm).trans q
    have nT2 := go _ _ (Nat.ne_of_gt zlt) nT
    have nw : ObjOk X.prog X.w (upd H s.heap.objs.size (.tup [x, y])) h2 s.heap.objs.size (.tup [x, y]) :=
      ⟨by rw [sizeLine_eq]; show 2 ≤ _; decide, [g1, g2], .cons ru1 (.cons ru2 .nil), _, nT2, rfl, _, rfl⟩
    have up : ∀ m o, m ∉ [z, TI, TO, i1, i2] → s.heap.get? m = some o → h2.get? m = some o := fun m o hm q =>
      let ⟨a1, _, a3, a4, a5⟩ := not5 hm
      go m o a1 (hk m o a1 a3 a4 a5 q)
    refine ⟨.ref s.heap.objs.size, _, I.turnedNew (t' := tk) up hf (Nat.le_refl _) nw, rfl, ⟨_, x, y, rfl, I.hok.fresh (Nat.le_refl _), rfl, fun l hl => by rw [sqB_inj I hl qx]; exact ex, fun l hl => by rw [sqB_inj I hl qy]; exact ey⟩, ⟨z2, ?_, ⟨g1, g2, ?_⟩, ?_, ?_⟩, fun m hm => ?_⟩
    · exact go _ _ sep.TIz (hk _ _ sep.TIz sep.TITO sep.TIi1 sep.TIi2 t2)
    · exact go _ _ sep.TOz nTO
    · exact itB_at (b := true) s1.1 fun o q => go _ o sep.zi1.symm q
    · exact itB_at (b := true) s2.1 fun o q => go _ o sep.zi2.symm q
    · obtain ⟨o, eo, _⟩ := tnB_obj t hm
      rw [upd_ne (Nat.ne_of_lt (Heap.lt_size eo))]
      exact (hf m hm).1
  done := by
    rintro X rfl rfl rfl hh i pins s σ H E ho away I hf t ⟨xs, ys, qx, qy, hend⟩
    obtain ⟨v1, r1, p1, _⟩ := sqB_in I qx
    obtain ⟨v2, r2, p2, _⟩ := sqB_in I qy
    have D1 := draws_hot (prog := X.prog) (w := X.w) (A := X.A.in1) hh i1 a D.n1 (away i1 (by simp)) v1.toArray
    have D2 := draws_hot (prog := X.prog) (w := X.w) (A := X.A.in1) hh i2 b D.n2 (away i2 (by simp)) v2.toArray
    obtain ⟨t1, t2, ⟨w1, w2, t3⟩, t4, t5⟩ := id t
    have l1 := r1.length
    have l2 := r2.length
    have s1 : v1.toArray.size = v1.length := List.size_toArray ..
    have s2 : v2.toArray.size = v2.length := List.size_toArray ..
    refine wpAny_pyNext_zipD2_end (sep_hot D away) D1 D2 t1 t2 t3 ⟨t4, p1, ho⟩ ⟨t5, p2, ho⟩ (by omega) (by omega) (by omega) fun h' tk hk => ⟨rfl, I.turnedL (t' := tk) (fun m o hm q => ?_) hf⟩
    obtain ⟨a1, _, a3, a4, a5⟩ := not5 hm
    exact hk m o a1 a3 a4 a5 q
  self := fun A i s Q E t h => wpAny_pyIter_zip t.1 h
theorem pi_zipX {x1 : Addr} {X : Cx} {e e2 : Expr} {ta : TA} {p pos tpos : Pos} {elts : List Expr} {kk : Nat} (hg : Gl X "zip") (hm : X.mg "zip" = none) (ha : PA X [e, e2] ta)
    (hs : starEach [e, e2] X.env = (false, eval e X.env) :: starEach [e2] X.env := by rfl) (hpl : (backTo pos (starEach [e2] X.env)).any (·.1) = false := by rfl) :
    PIX x1 X (.Tuple elts kk tpos) (.Call (.Name "zip" p) [e, e2] [] pos) (fun σ H R => ta σ H fun vs H1 => ∃ (a b : Addr) (xs ys : List V), vs = [.ref a, .ref b] ∧ SqL X.K H1 a xs ∧ SqL X.K H1 b ys ∧ R (ItzB X.K true true a b) H1) := ⟨fun pins s σ H R I h => by
  have run := ha.run pos pins s σ H _ I h
  refine Call_ (ld_blt I hg hm PyProof.Rows.boot_zip (PyProof.Rows.callWith_type1 (thn run fun us s1 got => ?_) hs hpl))
  obtain ⟨vs, H1, I1, rvs, a, b, xs, ys, rfl, qx, qy, q⟩ := got
  obtain ⟨u1, us2, rfl, rel1, rvs2⟩ : ∃ u1 us2, us = u1 :: us2 ∧ RelV (.ref a) u1 ∧ Vals [.ref b] us2 := by
    cases rvs with
    | cons r1 r2 => exact ⟨_, _, rfl, r1, r2⟩
  obtain ⟨u2, rfl, rel2⟩ := vals1 rvs2
  cases rel1
  cases rel2
  obtain ⟨v1, r1, p1, lt1⟩ := sqB_in (b := true) I1 qx
  obtain ⟨v2, r2, p2, lt2⟩ := sqB_in (b := true) I1 qy
  have nf : ∀ m, m ∈ [s1.heap.objs.size + 4, s1.heap.objs.size + 2, s1.heap.objs.size + 3, s1.heap.objs.size, s1.heap.objs.size + 1] → FpOk X pins H1 m := fun m hm => by
    have le : s1.heap.objs.size ≤ m := by rcases mem5 hm with e | e | e | e | e <;> rw [e] <;> omega
    exact I1.fpOk le (I1.hok.fresh le)
  refine zip_begins2 (beginsB true a v1.toArray) (beginsB true b v2.toArray) p1 p2 fun h' z1 z2 z3 z4 z5 _ hk => wpAny_pyIter_zip z1 ?_
  exact ⟨_, _, _, _, H1, rfl, I1.kept (t' := s1.toks) hk, turn_zipA (apart_new _ a b lt1 lt2), ⟨z1, z2, ⟨_, _, z3⟩, itB_new (b := true) z4, itB_new (b := true) z5⟩, nf, q⟩⟩
/-- isinstance(e, c), e an exception that is pinned (in a suite, in a def that the suite calls) -/
theorem call_isP {X : Cx} {a D : Addr} {oe : Obj} (hp : (a, oe) ∈ X.pn) (C : ExcC X.K D) (hz : Zc (.ref D) none oe) (hf : ∃ vs, oe.data = .fields vs) : CallR X (.builtin "isinstance") (rIsE X.K D a) := by
  intro pins s σ H xs us Q I rv h
  obtain ⟨c, cv, b, rfl, one, kit, q⟩ := h
  obtain ⟨u1, us2, rfl, r1, rv2⟩ : ∃ u1 us2, us = u1 :: us2 ∧ RelV (.ref a) u1 ∧ Vals [c] us2 := by
    cases rv with
    | cons x y => exact ⟨_, _, rfl, x, y⟩
  obtain ⟨u2, rfl, r2⟩ := vals1 rv2
  cases r1
  obtain rfl := one _ r2
  have got := (I.pin (a, oe) (List.mem_append_left _ hp)).1
  obtain ⟨vs, dv⟩ := hf
  have inst : PySem.W.InstAt s.heap a oe D none := by
    rcases oe with ⟨k1, k2, k3, k4⟩
    obtain ⟨z1, z2⟩ := hz
    simp only at z1 z2 dv
    subst z1 z2 dv
    exact ⟨got, rfl, rfl, trivial⟩
  exact PySem.W.kia_one (PySem.W.handS_kitx_exc C.hg C.hk C.hs C.hd
    C.ha C.hn C.ht C.hm) I.kIn inst kit (fun z => nomatch z) fun tk => ⟨.bl b, H, I.kept (t' := tk) (fun _ _ z => z), rfl, q⟩
end DL
set_option Elab.async false
set_option linter.all false
set_option maxRecDepth 100000
set_option maxHeartbeats 4000000
/-! a comprehension while x1 is handled -/
namespace DL
open PySem PySem.Spec PyProof.Rows L2
section
variable {X : Cx} {x1 : Addr}
/-- what is known of the handled exception where a comprehension begins: pinned -/
def HotP (X : Cx) (x1 : Addr) : Prop := X.A.handled = some (.ref x1) ∧ ∃ (o : Obj) (vs : Array Value), (x1, o) ∈ X.pn ∧ o.data = .fields vs ∧ vs[2]? = some .none
theorem pe_lcH {elt tg iter : Expr} {ifs : List Expr} {scope : Scope} {own : List (Str × Nat)} {pos : Pos} {wi : TI} {g : TG} {tt : TT} {te : TE}
    (hot : HotP X x1) (hN : X.N.Nodup) (hi : PIX x1 X tg iter wi) (ok : BlkOk X.N X.env.scope scope own)
    (hg : ∀ (s : Shared) (H : Hp) (C : Addr) (cl : List (Str × Addr)) (fp : List Addr), (∀ (ps : List (Addr × Obj)) (σ' : L2.St) (H' : Hp) (s' : Shared), Inv (X.blk s H scope (compEnvC scope cl C X.env) fp) ps σ' H' s' → HotO x1 s'.heap) → PG (X.blk s H scope (compEnvC scope cl C X.env) fp) tg g)
    (ht : ∀ (s : Shared) (H : Hp) (C : Addr) (cl : List (Str × Addr)) (fp : List Addr), PTs (X.blk s H scope (compEnvC scope cl C X.env) fp) ifs tt)
    (he : ∀ (s : Shared) (H : Hp) (C : Addr) (cl : List (Str × Addr)) (fp : List Addr), PE (X.blk s H scope (compEnvC scope cl C X.env) fp) elt te)
    (hs : ∀ x, foldedSetIterable iter X.env x = pure x := by intro _; rfl) :
    PE X (.ListComp elt [⟨tg, iter, ifs, 0⟩] scope pos) (tLc wi g tt te (own.map (·.2))) := by
  constructor
  intro pins s σ H Q I h
  rw [eval_ListComp]
  have frees : ∀ y ∈ scope.names, y.2 = .free → ∃ c, X.env.cells.lookup y.1 = some c := fun y hy e =>
    I.ok.has _ ((ok.free y hy e).elim .inl .inr)
  obtain ⟨hh, ob, vb, hpn, dvb, cvb⟩ := hot
  refine wpAny_comprehension_free rfl hs (closure_ok frees) ok.kind (fun y hy e => by rw [ok.uniq y hy, e]) (thn (hi.run pins s σ H _ I h) fun xv sA got => thn got fun itv sB got2 => ?_)
  obtain ⟨it, fp, tn, J, HB, rfl, IB, T, tn0, fok, q⟩ := got2
  refine wpAny_newObj_type (newEnv_comp ?_) (by show 0 ≤ sizeLine; decide)
  generalize eD : sB.heap.objs.size = D
  have freeD : HB D = none := IB.hok.fresh (Nat.le_of_eq eD)
  obtain ⟨Wm, ⟨m0, wm0⟩, turn⟩ := q D freeD
  generalize eC : ({ sB with heap := sB.heap.push { cls := .type "list", data := .seq ([] : List Value).toArray } } : Shared) = sC
  have hpC : sC.heap = sB.heap.push { cls := .type "list", data := .seq ([] : List Value).toArray } := by rw [← eC]
  have upC : ∀ b o, sB.heap.get? b = some o → sC.heap.get? b = some o := fun b o e => by rw [hpC]; exact Heap.get?_push_of_some _ e
  have IC : Inv X pins σ (upd HB D (.lst [])) sC := by
    have atD : (sB.heap.push { cls := .type "list", data := .seq ([] : List Value).toArray }).get? D = some { cls := .type "list", data := .seq ([] : List Value).toArray } := by rw [← eD]; exact Heap.get?_push_size _ rfl
    rw [← eC]
    exact IB.laid (t' := sB.toks) (fun b o e => Heap.get?_push_of_some _ e) (Nat.le_of_eq eD) ⟨Nat.zero_le _, [], 0, .nil, atD⟩
  have below : ∀ b ∈ fp, b < sB.heap.objs.size := fun b hb => let ⟨_, e, _⟩ := T.obj _ _ tn0 b hb; Heap.lt_size e
  have fokC : ∀ b ∈ fp, FpOk X pins (upd HB D (.lst [])) b ∧ b < sC.heap.objs.size := fun b hb => by
    have lt := below b hb
    have ne : b ≠ D := by rw [← eD]; exact Nat.ne_of_lt lt
    have old := fok b hb
    exact ⟨⟨by rw [upd_ne ne]; exact old.1, old.2⟩, by rw [hpC, Heap.size_push]; exact Nat.lt_succ_of_lt lt⟩
  have tnC : tn 0 sC.heap := T.keep _ _ _ tn0 fun b _ o e => upC b o e
  have away : ∀ m ∈ fp, x1 ≠ m := fun m hm => (fok m hm).2.2.2.2.2 (x1, ob) (List.mem_append_left _ hpn)
  have pinC := IC.pin (x1, ob) (List.mem_append_left _ hpn)
  have IS := block_start IC ok hN fokC
  generalize eH : upd HB D (.lst []) = HC at IC IS wm0 fokC pinC
  -- within the block the handled exception stands as it stood
  have hotB : ∀ (ps : List (Addr × Obj)) (σ' : L2.St) (H' : Hp) (s' : Shared), Inv (X.blk sC HC scope (compEnvC scope (cellsFrom (sC.heap.objs.size + 1) scope.names (cloFrom X.env.cells scope.names [])) sC.heap.objs.size X.env) fp) ps σ' H' s' → HotO x1 s'.heap := fun ps σ' H' s' I' => by
    have nfs : x1 ∉ frs X.stack := fun z => by
      rcases I.ok.stk with e | ⟨e, fr⟩
      · rw [e] at z
        exact pinC.2.2.2.1 z
      · rw [e] at z
        unfold frs at z
        rw [List.filterMap_cons, fr] at z
        rcases List.mem_cons.mp z with z | z
        · exact pinC.2.2.1 z
        · exact pinC.2.2.2.1 z
    exact ⟨ob, vb, I'.base.keep x1 ob pinC.1 pinC.2.1 nfs (fun hx => away x1 hx rfl), dvb, cvb⟩
  have pg := hg sC HC sC.heap.objs.size (cellsFrom (sC.heap.objs.size + 1) scope.names (cloFrom X.env.cells scope.names [])) fp hotB
  have pt := ht sC HC sC.heap.objs.size (cellsFrom (sC.heap.objs.size + 1) scope.names (cloFrom X.env.cells scope.names [])) fp
  have pe := he sC HC sC.heap.objs.size (cellsFrom (sC.heap.objs.size + 1) scope.names (cloFrom X.env.cells scope.names [])) fp
  show codeAny _ _ (.compStart _ 0 (.ref it) (.ref D) (compEnvC scope (cellsFrom (sC.heap.objs.size + 1) scope.names (cloFrom X.env.cells scope.names [])) sC.heap.objs.size X.env)) (compPost (model X.prog X.w) X.A X.xe none _ (.ref D) sC.heap.objs.size) _
  generalize eE : compEnvC scope (cellsFrom (sC.heap.objs.size + 1) scope.names (cloFrom X.env.cells scope.names [])) sC.heap.objs.size X.env = ce at IS pg pt pe hotB ⊢
  have locE : ce.locals = sC.heap.objs.size := by rw [← eE]; rfl
  generalize eS : ({ sC with heap := pushCells (sC.heap.push { cls := .type "dict", data := .dict #[] }) scope.names } : Shared) = sS at IS ⊢
  have tnS : tn 0 sS.heap := T.keep _ _ _ tnC fun b _ o e => by rw [← eS]; exact pushCells_keeps _ _ _ _ (Heap.get?_push_of_some _ e)
  have fokB : ∀ {σ' : L2.St} {H' : Hp} {s' : Shared}, Inv (X.blk sC HC scope ce fp) [] σ' H' s' → (∀ b ∈ fp, H' b = none) → ∀ b ∈ fp, FpOk (X.blk sC HC scope ce fp) [] H' b := fun {σ' H' s'} I' hn b hb => by
    refine ⟨hn b hb, (I'.ok.exf b hb).1, I'.ok.exfs b hb, .inl hb, (I'.ok.exf b hb).2, fun p hp => ?_⟩
    rw [List.append_nil] at hp
    cases hp
  refine codeAny_compStart_list ?loop (T.self X.A 0 _ _ _ tnS ?loop)
  refine compLoop_any (fun n s' => ∃ i H', Inv (X.blk sC HC scope ce fp) [] (wipe σ (own.map (·.2))) H' s' ∧ tn i s'.heap ∧ (∀ b ∈ fp, H' b = none) ∧ Wm i n H') ?_ m0 ⟨0, HC, IS, tnS, fun b hb => (fokC b hb).1.1, wm0⟩
  rintro n s5 ⟨i, H5, I5, tn5, none5, wm5⟩
  rcases turn i n H5 wm5 with ⟨stop, fin⟩ | ⟨go, Nx, next, step⟩
  · refine thnF (T.done (X.blk sC HC scope ce fp) rfl rfl rfl hh i [] s5 _ H5 (fun _ _ => False) (hotB _ _ _ _ I5) away I5 (fokB I5 none5) tn5 stop) fun r s6 ⟨hr, I6⟩ => ?_
    subst hr
    have back : Inv X pins σ H5 s6 := IC.call' (ch := fp) I6.os I6.base I6.hok I6.bare fun b hb =>
      let z := (fokC b hb).1
      ⟨z.2.2.2.1, z.2.1, z.2.2.2.2.1, z.2.2.2.2.2⟩
    have free6 : H5 ce.locals = none := I6.free
    obtain ⟨mm, ns, _⟩ := I6.loc
    have ns : s6.heap.Ns ce.locals mm := ns
    rw [locE] at free6 ns
    refine ⟨mm, ns, fun h'' sb => ?_⟩
    obtain ⟨a0, a1, a2, a3, a4, a5⟩ := IC.fpOk (Nat.le_refl _) free6
    exact ⟨.ref D, H5, back.turned (t' := s6.toks) (fun b o hb e => (sb.2 b hb).trans e) a0 a1 a3 a4 a5, rfl, fin⟩
  · refine thnF (T.item (X.blk sC HC scope ce fp) rfl rfl rfl hh i [] s5 _ H5 (fun _ _ => False) (hotB _ _ _ _ I5) away I5 (fokB I5 none5) tn5 go) fun r s6 ⟨u, hr, more⟩ => ?_
    subst hr
    refine thnF more fun _ s7 ⟨x, H7, I7, ru, yl, tn7, none7⟩ => ?_
    have IP := I7.pinned (fokB I7 none7) (T.obj _ _ tn7)
    refine thnF (pg.run _ s7 _ H7 x u _ IP ru (step x H7 yl)) fun _ s8 ⟨σ8, H8, I8, same8, q8⟩ => ?_
    refine thnF (pt.run _ s8 σ8 H8 _ I8 q8) fun b s9 ⟨H9, I9, q9⟩ => ?_
    have turnEnd : ∀ {sE : Shared} {HE : Hp}, Inv (X.blk sC HC scope ce fp) ([] ++ pinsAt fp s7.heap) σ8 HE sE → Nx HE → ∃ m, m < n ∧ ∃ i H', Inv (X.blk sC HC scope ce fp) [] (wipe σ (own.map (·.2))) H' sE ∧ tn i sE.heap ∧ (∀ b ∈ fp, H' b = none) ∧ Wm i m H' := fun {sE HE} IE nx => by
      obtain ⟨m', lt, wm'⟩ := next HE nx
      have kept7 : ∀ b ∈ fp, ∀ o, s7.heap.get? b = some o → sE.heap.get? b = some o ∧ HE b = none := fun b hb o e => by
        have z := IE.pin (b, o) (List.mem_append_right _ (List.mem_append_right _ (mem_pinsAt hb e)))
        exact ⟨z.1, z.2.1⟩
      have len8 : (wipe σ (own.map (·.2))).length = σ8.length := by rw [← same8, wipe_length]
      have weak := (IE.unpinned (pins := [])).weak len8 fun j v e => by
        rw [← same8] at e
        exact (wipe_some e).1
      refine ⟨m', lt, i + 1, HE, weak, T.keep _ _ _ tn7 fun b hb o e => (kept7 b hb o e).1, fun b hb => ?_, wm'⟩
      obtain ⟨o, e, _⟩ := T.obj _ _ tn7 b hb
      exact (kept7 b hb o e).2
    cases b
    · exact turnEnd I9 q9
    · refine thnF (pe.run _ s9 σ8 H9 _ I9 q9) fun zv s10 ⟨yv, H10, I10, ry, acc, atD, room, nx⟩ => ?_
      exact app_ok (X := X.blk sC HC scope ce fp) I10 atD room ry fun s11 I11 => turnEnd I11 nx
end
end DL
set_option Elab.async false
set_option linter.all false
set_option maxRecDepth 100000
set_option maxHeartbeats 4000000
/-! a, b = t while x1 is handled -/
namespace DL
open PySem PySem.Spec PyProof.Rows L2 HotX
section
variable {prog : Program} {w : World} {A : Around} {E : Value → Shared → Prop} {s : Shared}
theorem next_tup_end_hot {it t x1 : Addr} {i : Nat} {items : Array Value} {Q : Option Value → Shared → Prop} (hh : A.handled = some (.ref x1)) (ho : HotO x1 s.heap) (nx : x1 ≠ it)
    (hit : IsTupIter s.heap it t i) (ht : IsTup s.heap t items) (hx : items[i]? = none)
    (hQ : ∀ g, Heap.ExtBut it s.heap g → Q none { s with heap := g }) : wpAny (model prog w) A (pyNext (.ref it)) Q E s := by
  obtain ⟨ob, g1, c1, d1⟩ := id hit
  obtain ⟨oT, gT, _, nT, dT⟩ := ht
  obtain ⟨oX, vX, gX, dX, cX⟩ := ho
  unfold pyNext
  refine wpAny_bind (wpAny_attempt (wpAny_callSpecial?_slot (name := Str.ofString "__next__") hit.typeIs slot_tupleiter_next (wpAny_call_entry slot_tupleiter_next hit.typeIs entry_tupleiter_next ?_ (args_tupleiter_next _))))
  show wpAny _ _ ((field (.ref it) 0).bind _) _ _ s
  refine wpAny_bind (wpAny_field g1 d1 (x := .ref t) rfl ?_)
  have nn : ¬ ((Value.ref t == Value.none) = true) := Bool.false_ne_true
  show wpAny _ _ (if (Value.ref t == Value.none) = true then _ else _) _ _ s
  rw [if_neg nn]
  show wpAny _ _ ((field (.ref it) 1).bind _) _ _ s
  refine wpAny_bind (wpAny_field g1 d1 (x := .int i 0) rfl ?_)
  show wpAny _ _ ((seqItems? (.ref t)).bind _) _ _ s
  refine wpAny_bind (wpAny_seqItems gT dT ?_)
  simp only [Int.toNat_natCast, hx]
  refine wpAny_bind (wpAny_rule (wpAny_bind (wpAny_setField g1 d1 (by simp) ?_)))
  show wpAny _ _ ((newExc (.type "StopIteration") []).bind _) _ _ _
  refine wpAny_bind ?_
  simp only [newExc, newTuple]
  refine wpAny_bind (wpAny_newObj_type ?_ (by size_fits))
  refine wpAny_bind (m := firstArgMember _ _) (wpAny_of_eq (a := Value.none) (by first | rfl | (simp only [firstArgMember]; rfl)) (wpAny_newObj_type ?_ (by size_fits)))
  have gX2 : (s.heap.update it (Obj.mapFields fun fs => fs.setIfInBounds 0 .none)).get? x1 = some oX := (Heap.get?_update_other _ _ nx.symm).trans gX
  refine raiseNew_hot ⟨hh, oX, vX, Heap.get?_push_of_some _ (Heap.get?_push_of_some _ gX2), dX, cX⟩ (Nat.ne_of_lt (Heap.lt_size (Heap.get?_push_of_some _ gX2))) (Heap.get?_push_size _ rfl) rfl (by first | (simp; done) | (simp; omega)) ?_
  refine wpAny_bind (wpAny_isInstance (T := "StopIteration") (b := true) ⟨_, Heap.get?_update_self _ (Heap.get?_push_size _ rfl) rfl, rfl⟩ isSubtype_stop (wpAny_pure (hQ _ fun b o hb e => ?_)))
  have e1 : (s.heap.update it (Obj.mapFields fun fs => fs.setIfInBounds 0 .none)).get? b = some o := (Heap.get?_update_other _ _ (Ne.symm hb)).trans e
  rw [Heap.get?_update_other _ _ (Nat.ne_of_gt (Heap.lt_size (Heap.get?_push_of_some _ e1)))]
  exact Heap.get?_push_of_some _ (Heap.get?_push_of_some _ e1)
theorem unpack_hot {t x1 : Addr} {items : Array Value} {targets : List (Bool × (Value → Sem Unit))} {Q : Unit → Shared → Prop} (hh : A.handled = some (.ref x1)) (ho : HotO x1 s.heap) (ht : IsTup s.heap t items)
    (hn : targets.length = items.size) (hstar : targets.findIdx? (·.1) = none)
    (h : ∀ g, Heap.ExtBut s.heap.objs.size s.heap g → wpAny (model prog w) A (assignInOrder (targets.map (·.2)) items.toList) Q E { s with heap := g }) :
    wpAny (model prog w) A (unpack (.ref t) targets) Q E s := by
  obtain ⟨oT, gT, _⟩ := id ht
  have nt : t ≠ s.heap.objs.size := Nat.ne_of_lt (Heap.lt_size gT)
  obtain ⟨oX, vX, gX, dX, cX⟩ := ho
  have nX : x1 ≠ s.heap.objs.size := Nat.ne_of_lt (Heap.lt_size gX)
  unfold unpack
  rw [hn, hstar]
  refine wpAny_bind (wpAny_holding ?_)
  unfold unpackItems notIterableAtAll
  refine wpAny_bind (wpAny_bind (wpAny_specialOf ht.typeIs slot_tuple_iter.lookup (wpAny_pure ?_)))
  simp only [Bool.false_eq_true, if_false]
  have atI : (s.heap.push { cls := .type "tuple_iterator", data := .fields #[.ref t, .int 0 0] }).get? s.heap.objs.size = some { cls := .type "tuple_iterator", data := .fields #[.ref t, .int 0 0] } := Heap.get?_push_size _ rfl
  refine wpAny_bind (wpAny_holding (iter_tuple ht (wpAny_bind (wpAny_holding (draw_tuple nt items.size 0 _ _ ⟨_, atI, rfl, rfl⟩ (ht.push _) (by omega) fun ga it1 sb1 => ?_)))))
  have whole : List.take items.size (List.drop 0 items.toList) = items.toList := by
    rw [List.drop_zero]
    exact List.take_of_length_le (by simp)
  rw [whole, if_neg (by simp)]
  have ta : IsTup ga t items := (ht.push _).extBut sb1.extBut nt
  have ha : HotO x1 ga := ⟨oX, vX, sb1.extBut x1 oX nX (Heap.get?_push_of_some _ gX), dX, cX⟩
  refine wpAny_bind (wpAny_holding (next_tup_end_hot (s := { s with heap := ga }) hh ha nX it1 ta (by simp) fun gb eb => ?_))
  simp only [Option.isSome_none, Bool.false_eq_true, if_false]
  exact wpAny_pure (h gb fun b o hb e => eb b o hb (sb1.extBut b o hb (Heap.get?_push_of_some _ e)))
/-- what is stored to a tuple of names, while x1 is handled; hot: x1 stands where the state is held -/
theorem pg_tupX {X : Cx} {x1 : Addr} {es : List Expr} {k : Nat} {t : TGs} {n : Nat} {pos : Pos} (hh : X.A.handled = some (.ref x1)) (hot : ∀ (pins : List (Addr × Obj)) (σ : L2.St) (H : Hp) (s : Shared), Inv X pins σ H s → HotO x1 s.heap) (h : PGs X es t)
    (hn : (assignEach es X.env).length = n := by rfl) (hst : (assignEach es X.env).findIdx? (·.1) = none := by rfl) : PG X (.Tuple es k pos) (gTup X.K n t) := by
  constructor
  intro pins s σ H v u Q I r hw
  obtain ⟨a, xs, rfl, hq, hl, hw⟩ := hw
  cases r
  obtain ⟨its, rv, ht, hz⟩ := I.tuple hq
  rw [assign_Tuple]
  refine wpAny_bind (wpAny_standAt (unpack_hot hh (hot pins σ H s I) ht (by simp [hn, ← hl, rv.length]) hst fun g hx => ?_))
  have I1 : Inv X pins σ H { s with heap := g } := I.kept (t' := s.toks) fun b o e => hx b o (Nat.ne_of_lt (Heap.lt_size e)) e
  exact h.run pins _ σ H xs _ Q I1 (by simpa using rv) hw
end
end DL
set_option Elab.async false
set_option linter.all false
set_option maxRecDepth 100000
set_option maxHeartbeats 4000000
/-! comprehensions over zip while an exception is handled, in the data layer -/
namespace DL
open PySem PySem.Spec PyProof.Rows L2
structure DIX (x1 : Addr) (X : Cx) (W : WX) (tg e : Expr) (t : TI) (f : List Sl → RL) : Prop where
  pi : PIX x1 X tg e t
  sem : SemI X.K X.mg W t f
def zipLL : List D → RL
  | [.list xs, .list ys] => .ok (List.zipWith prD xs ys)
  | _ => .bad
section
variable {x1 : Addr} {X : Cx} {W : WX} {mg : Str → Option Value} {tg e e2 elt iter : Expr} {ta : TA} {fa : List Sl → RL} {p pos tpos : Pos} {elts : List Expr} {kk : Nat}
theorem dix_zip (hm : X.mg "zip" = none) (ha : DA X W [e, e2] ta fa) (hg : Gl X "zip" := by rfl)
    (hs : starEach [e, e2] X.env = (false, eval e X.env) :: starEach [e2] X.env := by rfl) (hpl : (backTo pos (starEach [e2] X.env)).any (·.1) = false := by rfl) :
    DIX x1 X W (.Tuple elts kk tpos) (.Call (.Name "zip" p) [e, e2] [] pos) (fun σ H R => ta σ H fun vs H1 => ∃ (a b : Addr) (xs ys : List V), vs = [.ref a, .ref b] ∧ SqL X.K H1 a xs ∧ SqL X.K H1 b ys ∧ R (ItzB X.K true true a b) H1) (fRg zipLL fa) := by
  refine ⟨pi_zipX hg hm ha.pa hs hpl, fun H0 G H σ δ Q S q => ha.sem H0 G H σ δ _ S (to_i q fun ds vs G1 H1 e1 r1 q1 => ?_)⟩
  unfold zipLL at q1
  split at q1
  · obtain ⟨x, y, rfl, ⟨a, us, rfl, h1, k1⟩, ⟨b, ws, rfl, h2, k2⟩⟩ := repL2 r1
    exact ⟨a, b, us, ws, rfl, sq_inj (e1.s _ _ h1), sq_inj (e1.s _ _ h2), IQ.here e1.s q1 (gives_zip (c := true) (d := true) h1 h2 k1 k2)⟩
  · exact q1.elim
variable {ifs : List Expr} {scope : Scope} {own : List (Str × Nat)} {wi : TI} {g : TG} {tt : TT} {te : TE} {fi : List Sl → RL} {set : D → List Sl → Option (List Sl)} {ft fe : List Sl → R} {vs : List Nat}
theorem de_lcH (hot : HotP X x1) (hN : X.N.Nodup) (hi : DIX x1 X W tg iter wi fi) (ok : BlkOk X.N X.env.scope scope own)
    (hg : ∀ (s : Shared) (H : Hp) (C : Addr) (cl : List (Str × Addr)) (fp : List Addr), (∀ (ps : List (Addr × Obj)) (σ' : L2.St) (H' : Hp) (s' : Shared), Inv (X.blk s H scope (compEnvC scope cl C X.env) fp) ps σ' H' s' → HotO x1 s'.heap) → PG (X.blk s H scope (compEnvC scope cl C X.env) fp) tg g)
    (hgs : SemGW X.K g set vs) (ht : ∀ (s : Shared) (H : Hp) (C : Addr) (cl : List (Str × Addr)) (fp : List Addr), DTs (X.blk s H scope (compEnvC scope cl C X.env) fp) W0 ifs tt ft)
    (he : ∀ (s : Shared) (H : Hp) (C : Addr) (cl : List (Str × Addr)) (fp : List Addr), DE (X.blk s H scope (compEnvC scope cl C X.env) fp) W0 elt te fe) (hv : vs = own.map (·.2) := by rfl) (hs : ∀ x, foldedSetIterable iter X.env x = pure x := by intro _; rfl) :
    DE X W (.ListComp elt [⟨tg, iter, ifs, 0⟩] scope pos) (tLc wi g tt te vs) (fLc fi set ft fe vs) := by
  subst hv
  have d : Shared := {}
  exact ⟨pe_lcH hot hN hi.pi ok hg (fun s H C cl fp => (ht s H C cl fp).pts) (fun s H C cl fp => (he s H C cl fp).pe) hs,
    sem_lc hi.sem hgs (ht d (fun _ => none) 0 [] []).sem (he d (fun _ => none) 0 [] []).sem⟩
end
end DL
set_option Elab.async false
set_option linter.all false
set_option maxRecDepth 100000
set_option maxHeartbeats 4000000
/-! try .. except RingError as e, and a def (of one parameter) that is handed the handled exception -/
namespace DL
open PySem PySem.Spec PyProof.Rows L2 HotX
/-! ### a def that is handed the handled exception -/
structure FnW (P : Program) (w : World) (K : PySem.W.Frag) (mg : Str → Option Value) (base : Heap) (CX : CXT) (k : Nat) (f : Addr) (fd : FuncData) (y : Str) (sp : Addr × Obj → VK → Hp → Prop) : Prop where
  go : ∀ (A : Around) (up : List Env) (s : Shared) (H : Hp) (as : Args) (Q : VK) (E : XK) (p : Addr × Obj), L2H.RoomH k A → L2H.Hot1 A p → L2H.PinOk up H s p →
    Env0 P w K mg base A up s H → BindsTo s fd as [(y, .ref p.1)] → sp p Q H → codeAny (model P w) A (.call (.ref f) as) (CR CX up P w H s Q E) s
theorem fnW_mk {CX : CXT} {P : Program} {w : World} {K : PySem.W.Frag} {mg : Str → Option Value} {base : Heap} {k : Nat} {y x qual : Str} {st : Stmt} {f : Addr} {fd : FuncData} {N : List Str} {sp : Addr × Obj → VK → Hp → Prop}
    (F : Fun K x qual st f fd) (S : FnScope N [y] (defScope st))
    (body : ∀ (cdv : Value) (A : Around) (up : List Env) (s : Shared) (H : Hp) (Q : VK) (E : XK) (p : Addr × Obj), L2H.Hot1 A p → L2H.RoomH k (A.deeper (envOfC qual (defScope st) s.heap.objs.size f cdv)) → sp p Q H →
      ∃ t, PSs (L2H.cxH CX P w K mg base N qual (defScope st) f cdv A up s H E p) (defBody st) t ∧ t { nx := fun _ H' => Q .non H', rt := Q } (L2.start N [.ref p.1]) H) :
    FnW P w K mg base CX (k + 1) f fd y sp := by
  obtain ⟨c0, c1, c2, c3, c4, c5, cdv, c6, c7, rfl, lk, code⟩ := F.ex
  constructor
  intro A up s H as Q E p room hot pin e0 bind want
  have up0 : ∀ b o, base.get? b = some o → s.heap.get? b = some o := fun b o q => (e0.bs b o q).1
  have inK : K.In s.heap := e0.mod.kin.keeps up0
  have noLim : s.heap.NoLimit := e0.mod.nolimit.keeps up0
  have kinds : ∀ z ∈ [(y, Value.ref p.1)], (defScope st).names.lookup z.1 = some .local ∨
      ((defScope st).names.lookup z.1 = some .cell ∧ ((cellsFrom (s.heap.objs.size + 1) (defScope st).names []).lookup z.1).isSome = true) := by
    intro z hz
    have ez : z = (y, Value.ref p.1) := List.mem_singleton.mp hz
    rw [ez]
    rcases S.par y List.mem_cons_self with a | a
    · exact Or.inl a
    · exact Or.inr ⟨a, PySem.W.cellsFrom_some _ _ _ (Or.inl a)⟩
  refine codeAny_call_function room.depth (inK _ _ lk) rfl S.co S.gen rfl (PySem.W.codeRec_of inK code) (bind _ _ _ _ ?_)
  refine wpAny_newFunctionEnv_cells S.kind kinds fun en hen sB got => ?_
  subst hen
  refine ⟨noLim.keeps got.toInCall.keep, codeAny_func ?_⟩
  obtain ⟨t, pss, holds⟩ := body cdv A up s H Q E p hot (room.deeper _) want
  have J0 := L2H.inv_startH (CX := CX) (E := E) (vs := [.ref p.1]) (us := [.ref p.1]) S pin e0 rfl (.cons rfl .nil) got
  refine wpAny_mono (pss.run [] sB _ H _ J0 holds) (fun fl sC h => ?_) fun _ _ h => h
  cases fl with
  | next => exact h.elim fun σ h => h.elim fun H' h => ⟨.non, H', h.1.os, h.1.bare, h.1.base, h.1.hok, rfl, h.2⟩
  | ret u =>
    obtain ⟨v, σ, H', J, rv, q⟩ := h
    exact ⟨v, H', J.os, J.bare, J.base, J.hok, rv, q⟩
  | brk => exact h.elim fun _ h => h.elim fun _ h => h.2.elim
  | cont => exact h.elim fun _ h => h.elim fun _ h => h.2.elim
/-- slots of a def whose one parameter is an object -/
def slotsX (a : Addr) (n : Nat) : List Sl := .ob a :: List.replicate (n - 1) .un
theorem st_startX {K : PySem.W.Frag} {G H : Hp} {N : List Str} {a : Addr} (s : Same G H) (hN : 0 < N.length) : St K H G H (L2.start N [.ref a]) (slotsX a N.length) := by
  refine ⟨s, Same.refl _, by unfold L2.start slotsX; simp, fun i sl o h1 h2 => ?_, fun i j es fs p _ h1 _ => ?_⟩
  · unfold slotsX at h1
    unfold L2.start at h2
    cases i with
    | zero =>
      cases h1
      cases h2
      rfl
    | succ i =>
      rw [List.getElem?_cons_succ, List.getElem?_replicate] at h1
      split at h1
      · cases h1; trivial
      · cases h1
  · exfalso
    unfold slotsX at h1
    cases i with
    | zero => cases h1
    | succ i =>
      rw [List.getElem?_cons_succ, List.getElem?_replicate] at h1
      split at h1 <;> cases h1
/-! ### classes of exceptions -/
def eight : List Str := ["BadBar", "BadSetting", "BadChest", "BadRow", "BadNumber", "NoMove", "TooMany", "NoNote"]
/-- the class c: how isinstance answers for its instances, and that RingError takes them -/
structure Wcls (K : PySem.W.Frag) (mg : Str → Option Value) (B : Str → Addr) (c : Str) : Prop where
  mem : c ∈ eight
  at_ : ∀ y ∈ eight, mg y = some (.ref (B y))
  exc : ExcC K (B c)
  val : PySem.W.kitOne K (.ref (B c)) (.type "ValueError") = some true
  is_ : ∀ y ∈ eight, PySem.W.kitOne K (.ref (B c)) (.ref (B y)) = some (c == y)
  /-- RingError -/
  tk_ : ∀ R, mg "RingError" = some (.ref R) → PySem.W.exmOne K (.ref (B c)) (.ref R) = some true
section
variable {X : Cx} {W : WX} {x y n : Str} {p p1 p2 pos : Pos} {a : Addr} {B : Str → Addr} {oe : Obj} {c : Str}
/-- isinstance(e, Y), e the handled exception, in the slot i -/
def fIsX (a : Addr) (b : Bool) (i : Nat) : List Sl → R := fun δ => match δ[i]? with
  | some (.ob a') => if a' = a then .ok (.bool b) else .bad
  | _ => .bad
theorem ob_at {K : PySem.W.Frag} {H0 G H : Hp} {σ : L2.St} {δ : List Sl} {i : Nat} {a : Addr} (S : St K H0 G H σ δ) (h : δ[i]? = some (.ob a)) : σ[i]? = some (some (.ref a)) := by
  obtain ⟨o, e, r⟩ := S.at h
  rw [e]
  exact congrArg some r
/-- the exception is pinned in this context -/
structure PinX (X : Cx) (B : Str → Addr) (p : Addr × Obj) (c : Str) : Prop where
  hot : L2H.Hot1 X.A p
  mem : p ∈ X.pn
  cls : Zc (.ref (B c)) none p.2
  wc : Wcls X.K X.mg B c
theorem PinX.flds {X : Cx} {p : Addr × Obj} (h : PinX X B p c) : ∃ vs, p.2.data = .fields vs := h.hot.2.elim fun vs z => ⟨vs, z.1⟩
theorem PinX.hotp {X : Cx} {p : Addr × Obj} (h : PinX X B p c) : HotP X p.1 := by
  obtain ⟨h1, vs, e1, e2⟩ := h.hot
  exact ⟨h1, p.2, vs, h.mem, e1, e2⟩
variable {pp : Addr × Obj}
theorem de_isX (i : Nat) (h : PinX X B pp c) (hm : X.mg "isinstance" = none) (hy : y ∈ eight) (hN : X.N[i]? = some x := by rfl) (hv : Vis X.env.scope x := by first | exact Or.inl rfl | exact Or.inr (Or.inl rfl) | exact Or.inr (Or.inr rfl)) (hd : (x == ("__debug__" : Str)) = false := by decide) (hcd : (x == ("__classdict__" : Str)) = false := by decide)
    (hg : Gl X "isinstance" := by rfl) (hgy : Gl X y := by rfl) (hvi : bootBuiltins "isinstance" = some (.builtin "isinstance") := by first | rfl | decide +kernel) (hdy : (y == ("__debug__" : Str)) = false := by decide)
    (h1 : starEach [.Name x p1, .Name y p2] X.env = (false, eval (.Name x p1) X.env) :: starEach [.Name y p2] X.env := by rfl) (h2 : starEach [.Name y p2] X.env = (false, eval (.Name y p2) X.env) :: starEach [] X.env := by rfl) (hpl : (backTo pos (starEach [.Name y p2] X.env)).any (·.1) = false := by rfl) :
    DE X W (.Call (.Name "isinstance" p) [.Name x p1, .Name y p2] [] pos) (tCB (rIsE X.K (B c) pp.1) (tCons (tVar i) (tCons (tC (.ref (B y))) tNil))) (fIsX pp.1 (c == y) i) := by
  have hB := h.wc.at_ y hy
  have kB := h.wc.is_ y hy
  obtain ⟨o1, o2⟩ := pp
  refine ⟨pe_callB (call_isP h.mem h.wc.exc h.cls h.flds) hg hm hvi (pa_cons (pv i hN hv hd hcd) (pa_cons (pe_glob (v := .ref (B y)) hgy hB rfl hdy) pa_nil h2) h1) (by decide) (by decide) h1 hpl, fun H0 G H σ δ Q S q => ?_⟩
  unfold fIsX at q
  split at q
  · rename_i a' ha
    obtain ⟨ea, q1⟩ := rq_if q
    subst ea
    exact ⟨_, ob_at S ha, (.ref (B y)), (.ref (B y)), c == y, rfl, fun u r => r, kB, RQ.here S.s q1 rfl⟩
  · exact q.elim
theorem de_isV (i : Nat) (h : PinX X B pp c) (hm : X.mg "isinstance" = none) (hmy : X.mg "ValueError" = none) (hN : X.N[i]? = some x := by rfl) (hv : Vis X.env.scope x := by first | exact Or.inl rfl | exact Or.inr (Or.inl rfl) | exact Or.inr (Or.inr rfl)) (hd : (x == ("__debug__" : Str)) = false := by decide) (hcd : (x == ("__classdict__" : Str)) = false := by decide)
    (hg : Gl X "isinstance" := by rfl) (hgy : Gl X "ValueError" := by rfl) (hvi : bootBuiltins "isinstance" = some (.builtin "isinstance") := by first | rfl | decide +kernel) (hvy : bootBuiltins "ValueError" = some (.type "ValueError") := by first | rfl | decide +kernel)
    (h1 : starEach [.Name x p1, .Name "ValueError" p2] X.env = (false, eval (.Name x p1) X.env) :: starEach [.Name "ValueError" p2] X.env := by rfl) (h2 : starEach [.Name "ValueError" p2] X.env = (false, eval (.Name "ValueError" p2) X.env) :: starEach [] X.env := by rfl) (hpl : (backTo pos (starEach [.Name "ValueError" p2] X.env)).any (·.1) = false := by rfl) :
    DE X W (.Call (.Name "isinstance" p) [.Name x p1, .Name "ValueError" p2] [] pos) (tCB (rIsE X.K (B c) pp.1) (tCons (tVar i) (tCons (tC (.ty "ValueError")) tNil))) (fIsX pp.1 true i) := by
  obtain ⟨o1, o2⟩ := pp
  refine ⟨pe_callB (call_isP h.mem h.wc.exc h.cls h.flds) hg hm hvi (pa_cons (pv i hN hv hd hcd) (pa_cons (pe_bltn hgy hmy hvy rfl (by decide) (by decide)) pa_nil h2) h1) (by decide) (by decide) h1 hpl, fun H0 G H σ δ Q S q => ?_⟩
  unfold fIsX at q
  split at q
  · rename_i a' ha
    obtain ⟨ea, q1⟩ := rq_if q
    subst ea
    exact ⟨_, ob_at S ha, .ty "ValueError", .type "ValueError", true, rfl, fun u r => r, h.wc.val, RQ.here S.s q1 rfl⟩
  · exact q.elim
/-! ### the promise of _law_word -/
def spW (K : PySem.W.Frag) (mg : Str → Option Value) (B : Str → Addr) (L : List Str) (ws : Str → List D) (p : Addr × Obj) (Q : VK) (H : Hp) : Prop :=
  ∃ c G, c ∈ L ∧ Zc (.ref (B c)) none p.2 ∧ Same G H ∧ RQ K mg (fun _ _ _ => False) G H Q (.new (ws c))
structure CalW (P : Program) (w : World) (K : PySem.W.Frag) (mg : Str → Option Value) (base : Heap) (k : Nat) (x : Str) (B : Str → Addr) (L : List Str) (ws : Str → List D) : Prop where
  ex : ∃ f fd y, FnW P w K mg base (L2N.CX P w) k f fd y (spW K mg B L ws) ∧ mg x = some (.ref f) ∧ PySem.W.keepIn K (.ref f) = true ∧ Binds K fd [y] []
  cls : ∀ c ∈ L, Wcls K mg B c
section
variable {P : Program} {w : World} {K : PySem.W.Frag} {mg : Str → Option Value} {base : Heap} {qual : Str} {st : Stmt} {f : Addr} {fd : FuncData} {N : List Str} {k : Nat} {L : List Str} {ws : Str → List D}
theorem calW_mk (Fn : Fun K x qual st f fd) (S : FnScope N [y] (defScope st)) (b : Binds K fd [y] []) (g : mg x = some (.ref f)) (hc : ∀ c ∈ L, Wcls K mg B c) (Fb : Addr → Str → List Sl → Fl) (hF : ∀ a c, c ∈ L → (Fb a c (slotsX a N.length)).toR = .new (ws c))
    (hb : ∀ (c : Str) (cdv : Value) (A : Around) (up : List Env) (s : Shared) (H : Hp) (E : XK) (p : Addr × Obj) (X : Cx), X = L2H.cxH (L2N.CX P w) P w K mg base N qual (defScope st) f cdv A up s H E p → L2H.RoomH k (A.deeper (envOfC qual (defScope st) s.heap.objs.size f cdv)) → PinX X B p c →
      ∃ t F', DSs (L2H.cxH (L2N.CX P w) P w K mg base N qual (defScope st) f cdv A up s H E p) (WD (fun _ _ _ => False)) (defBody st) t F' ∧ F' = Fb p.1 c) : CalW P w K mg base (k + 1) x B L ws := by
  refine ⟨⟨f, fd, y, fnW_mk Fn S fun cdv A up s H Q E p hot room ⟨c, G, hL, hz, sm, q⟩ => ?_, g, Fn.kp, b⟩, hc⟩
  obtain ⟨t, F', d, rfl⟩ := hb c cdv A up s H E p _ rfl room ⟨hot, List.mem_cons_self, hz, hc c hL⟩
  have h0 : 0 < N.length := by
    have e := congrArg List.length S.pre
    rw [List.length_take] at e
    have e1 : ([y] : List Str).length = 1 := rfl
    omega
  refine ⟨t, d.pss, d.sem G H _ H _ (slotsX p.1 N.length) ⟨G, Ext.refl sm, st_startX sm h0⟩ ?_⟩
  have e := hF p.1 c hL
  cases hf : Fb p.1 c (slotsX p.1 N.length) with
  | rn ds =>
    rw [hf] at e
    cases e
    exact q
  | nx δ => rw [hf] at e; cases e
  | rt d => rw [hf] at e; cases e
  | exc c δ => rw [hf] at e; cases e
  | bk δ => rw [hf] at e; cases e
  | ct δ => rw [hf] at e; cases e
  | bad => rw [hf] at e; cases e
end
/-- _law_word(e) in a suite -/
def fWd (a : Addr) (ds : List D) (i : Nat) : List Sl → R := fun δ => match δ[i]? with
  | some (.ob a') => if a' = a then .new ds else .bad
  | _ => .bad
variable {k : Nat} {L : List Str} {ws : Str → List D}
theorem de_wd (i : Nat) (C : CalW X.prog X.w X.K X.mg X.base k x B L ws) (hr : L2H.RoomH k X.A) (h : PinX X B pp c) (hL : c ∈ L) (hN : X.N[i]? = some y) (hv : Vis X.env.scope y) (hd : (y == ("__debug__" : Str)) = false) (hcd : (y == ("__classdict__" : Str)) = false) (hg : Gl X x) (hdx : (x == ("__debug__" : Str)) = false)
    (h1 : starEach [.Name y p1] X.env = (false, eval (.Name y p1) X.env) :: starEach [] X.env) (hpl : (backTo pos (starEach [] X.env)).any (·.1) = false) :
    ∃ t, DE X W (.Call (.Name x p) [.Name y p1] [] pos) t (fWd pp.1 (ws c) i) := by
  obtain ⟨⟨f, fd, yy, F, gf, kf, bf⟩, _⟩ := C
  refine ⟨fun σ H Q => tCons (tVar i) tNil σ H fun vs H1 => vs = [.ref pp.1] ∧ spW X.K X.mg B L ws pp Q H1, ⟨fun pins s σ H Q I want => ?_⟩, fun H0 G H σ δ Q S q => ?_⟩
  · refine wpAny_Call_Name_kw (ld_glob I hg gf ?_ hdx)
    refine PySem.W.callWith_K (h₀ := X.base) I.ok.mod.kin kf (thn ((pa_cons (pv i hN hv hd hcd) pa_nil h1).run pos pins s σ H _ I want) fun us sA got => ?_) h1 hpl
    obtain ⟨vs, HA, IA, rv, rfl, sp⟩ := got
    refine ⟨IA.kIn, ?_⟩
    obtain ⟨u, rfl, ru⟩ := vals1 rv
    cases ru
    have pin := IA.pin pp (List.mem_append_left _ h.mem)
    have ok : L2H.PinOk X.stack HA sA pp := ⟨pin.1, pin.2.1, fun z => by
      rcases List.mem_cons.mp (IA.stkSub pp.1 z) with z | z
      · exact pin.2.2.1 z
      · exact pin.2.2.2.1 z, pin.2.2.2.2⟩
    have bd := bf sA [.ref pp.1] IA.kIn rfl
    refine wpAny_call (codeAny_mono (F.go X.A X.stack sA HA ⟨[.ref pp.1], []⟩ Q (fun _ _ _ => False) pp hr h.hot ok IA.env0 bd sp) fun r sB hq => ?_)
    cases r with
    | error e =>
      obtain ⟨_, _, _, _, _, _, _, _, _, _, _, _, z⟩ := hq
      exact z.elim
    | ok fl =>
      cases fl with
      | ret u => exact IA.after hq
      | next => exact hq.elim
      | brk => exact hq.elim
      | cont => exact hq.elim
  · unfold fWd at q
    split at q
    · rename_i a' ha
      obtain ⟨ea, q1⟩ := rq_if q
      subst ea
      exact ⟨_, ob_at S ha, rfl, c, G, hL, h.cls, S.s, q1⟩
    · exact q.elim
end
end DL
set_option Elab.async false
set_option linter.all false
set_option maxRecDepth 100000
set_option maxHeartbeats 4000000
/-! try: .., except x as n: .. -/
namespace DL
open PySem PySem.Spec PyProof.Rows L2
/-- the body's exceptions of the classes L are answered by g; other ones are not looked at -/
def fTry (i : Nat) (L : List Str) (Fb : List Sl → Fl) (g : Str → Fl) : List Sl → Fl := fun δ => match Fb δ with
  | .exc c δ' => if c ∈ L ∧ i < δ'.length then g c else .bad
  | f => f
abbrev Wno : WX := fun _ _ _ _ => False
/-- answers that tell nothing of the state -/
def Fl.ends : Fl → Bool
  | .rt _ => true
  | .rn _ => true
  | _ => false
section
variable {X : Cx} {W : WX} {B : Str → Addr} {L : List Str} {body : List Stmt} {b0 : Stmt} {rest : List Stmt} {n x : Str} {np pos pos' : Pos} {R : Addr} {K : PySem.W.Frag} {mg : Str → Option Value}
theorem St.setob {H0 G H : Hp} {σ : L2.St} {δ : List Sl} {i : Nat} {a : Addr} (S : St K H0 G H σ δ) : St K H0 G H (σ.set i (some (.ref a))) (δ.set i (.ob a)) :=
  ⟨S.s, S.b, by rw [List.length_set, List.length_set]; exact S.l, fun j s o h1 h2 => by
    rcases get_set h1 with ⟨rfl, rfl, _⟩ | ⟨n1, h1⟩
    · rcases get_set h2 with ⟨_, rfl, _⟩ | ⟨n2, _⟩
      · rfl
      · exact absurd rfl n2
    · rcases get_set h2 with ⟨e, _, _⟩ | ⟨n2, h2⟩
      · exact absurd e n1
      · exact S.r j s o h1 h2, fun j k ds es p njk h1 h2 h3 h4 => by
    rcases get_set h1 with ⟨_, e, _⟩ | ⟨n1, h1⟩
    · cases e
    · rcases get_set h2 with ⟨_, e, _⟩ | ⟨n2, h2⟩
      · cases e
      · rcases get_set h3 with ⟨e, _, _⟩ | ⟨_, h3⟩
        · exact n1 e
        · rcases get_set h4 with ⟨e, _, _⟩ | ⟨_, h4⟩
          · exact n2 e
          · exact S.ap j k ds es p njk h1 h2 h3 h4⟩
/-- the readings of the body, of the suite: whatever is pinned, whatever is wished -/
def tBody (X : Cx) (body : List Stmt) (W : WX) : TS := fun D σ H => ∀ (pn : List (Addr × Obj)) (xe : Value → Shared → Prop), L2N.Takes (X.tr pn xe) W → PassesOwn (model X.prog X.w) X.A X.env xe → ∃ t, PSs (X.tr pn xe) body t ∧ t D σ H
def tSuite (X : Cx) (suite : List Stmt) (a : Addr) (cls : Value) (d : Option Addr) : TS := fun D σ H => ∀ (oe : Obj) (pn : List (Addr × Obj)), L2N.Zn cls d oe → (∃ vs, oe.data = .fields vs) → ∃ t, PSs (X.suite a ((a, oe) :: pn)) suite t ∧ t D σ H
theorem ds_try (i : Nat) {Fb : List Sl → Fl} {fh : Addr → Str → List Sl → Fl} {g : Str → Fl} (tk : L2N.Takes X W) (hc : Names X x (.ref R)) (hR : X.mg "RingError" = some (.ref R)) (hL : ∀ c ∈ L, Wcls X.K X.mg B c)
    (hfh : ∀ (a : Addr) (c : Str) (δ : List Sl), c ∈ L → i < δ.length → fh a c (δ.set i (.ob a)) = g c) (hg : ∀ c, c ∈ L → (g c).ends = true)
    (hb : ∀ (W : WX) (pn : List (Addr × Obj)) (xe : Value → Shared → Prop), L2N.Takes (X.tr pn xe) W → PassesOwn (model X.prog X.w) X.A X.env xe → ∃ t F', DSs (X.tr pn xe) W body t F' ∧ F' = Fb)
    (hsu : ∀ (a : Addr) (oe : Obj) (c : Str) (pn : List (Addr × Obj)), c ∈ L → PinX (X.suite a ((a, oe) :: pn)) B (a, oe) c → ∃ t F', DSs (X.suite a ((a, oe) :: pn)) Wno (b0 :: rest) t F' ∧ F' = fh a c)
    (hN : X.N.Nodup) (hi : X.N[i]? = some n) (hln : X.env.kindOf n = some .local) (hs : X.stack = X.env :: X.outer) (hf : X.env.frame = some X.env.locals) :
    DS X W (.Try body [.ExceptHandler (some (.Name x np)) (some n) (b0 :: rest) pos'] [] [] pos) (fun E σ H => tBody X body (wAs X.K (.ref R) i (tSuite X (b0 :: rest)) W E) E σ H) (fTry i L Fb g) := by
  refine ⟨L2N.ps_try_as hs hf hN hi hln hc tk (tb := tBody X body) (fun W' pn xe tk' hp => ⟨fun pins s σ H E I want => ?_⟩) (fun a oe cls d pn hz hv => ⟨fun pins s σ H E I want => ?_⟩), fun G0 H0 E H σ δ S q => ?_⟩
  · obtain ⟨t, pss, h⟩ := want pn xe tk' hp
    exact pss.run pins s σ H E I h
  · obtain ⟨t, pss, h⟩ := want oe pn hz hv
    exact pss.run pins s σ H E I h
  · intro pn xe tk' hp
    obtain ⟨t, F', d, rfl⟩ := hb _ pn xe tk' hp
    refine ⟨t, d.pss, d.sem G0 H0 E H σ δ S ?_⟩
    have q' : FQ X.K X.mg W E G0 H0 (match F' δ with
      | .exc c δ' => if c ∈ L ∧ i < δ'.length then g c else .bad
      | f => f) := q
    cases hF : F' δ with
    | exc c δ' =>
      rw [hF] at q'
      obtain ⟨⟨cL, il⟩, q2⟩ := fq_if (r := g c) q'
      intro σ' H' C S' hm
      have wc := hL c cL
      have eC : C = B c := by
        have e := hm.symm.trans (wc.at_ c wc.mem)
        cases e
        rfl
      subst eC
      refine ⟨true, wc.tk_ R hR, fun _ a na oe pn' hz hv => ?_, fun z => Bool.noConfusion z⟩
      obtain ⟨vs, hvs⟩ := id hv
      obtain ⟨t2, F2, d2, e2⟩ := hsu a oe c pn' cL ⟨⟨rfl, vs, hvs, hz.2.2 vs hvs⟩, List.mem_cons_self, hz.zc, wc⟩
      obtain ⟨G', eG, St'⟩ := id S'
      refine ⟨t2, d2.pss, d2.sem G0 H0 _ H' _ (δ'.set i (.ob a)) ⟨G', eG, St'.setob⟩ ?_⟩
      rw [e2, hfh a c δ' cL il]
      have hend := hg c cL
      cases hgc : g c with
      | rt d => rw [hgc] at q2; exact q2
      | rn ds => rw [hgc] at q2; exact q2
      | nx δ => rw [hgc] at hend; cases hend
      | exc c δ => rw [hgc] at hend; cases hend
      | bk δ => rw [hgc] at hend; cases hend
      | ct δ => rw [hgc] at hend; cases hend
      | bad => rw [hgc] at hend; cases hend
    | nx δ => rw [hF] at q'; exact q'
    | rt d => rw [hF] at q'; exact q'
    | rn ds => rw [hF] at q'; exact q'
    | bk δ => rw [hF] at q'; exact q'
    | ct δ => rw [hF] at q'; exact q'
    | bad => rw [hF] at q'; exact q'
end
/-! ### the two suites that the laws have -/
section
variable {X : Cx} {W : WX} {B : Str → Addr} {L : List Str} {ws : Str → List D} {body : List Stmt} {n x y : Str} {m : Str} {j : Nat} {np pos pos' p1 p2 p3 p4 p5 p6 p7 : Pos} {R : Addr} {k k' : Nat} {Fb : List Sl → Fl}
    {P : Program} {w : World} {K : PySem.W.Frag} {mg : Str → Option Value} {base : Heap}
theorem wd_at {a : Addr} {ds : List D} {i : Nat} {δ : List Sl} (h : i < δ.length) : fWd a ds i (δ.set i (.ob a)) = .new ds := by
  unfold fWd
  rw [List.getElem?_set_self h]
  exact if_pos rfl
/-- return _law_word(e) -/
theorem ds_tryW (i : Nat) (C : CalW P w K mg base k y B L ws) (hr : Room k' X.A) (hk : k ≤ k') (tk : L2N.Takes X W) (gR : X.mg "RingError" = some (.ref R))
    (hb : ∀ (W : WX) (pn : List (Addr × Obj)) (xe : Value → Shared → Prop), L2N.Takes (X.tr pn xe) W → PassesOwn (model X.prog X.w) X.A X.env xe → ∃ t F', DSs (X.tr pn xe) W body t F' ∧ F' = Fb)
    (hN : X.N.Nodup) (hi : X.N[i]? = some n := by rfl) (hln : X.env.kindOf n = some .local := by rfl) (hs : X.stack = X.env :: X.outer := by rfl) (hf : X.env.frame = some X.env.locals := by rfl) (hgl : Gl X "RingError" := by rfl)
    (hP : X.prog = P := by rfl) (hw : X.w = w := by rfl) (hK : X.K = K := by rfl) (hm : X.mg = mg := by rfl) (hba : X.base = base := by rfl)
    (hv : Vis X.env.scope n := by first | exact Or.inl rfl | exact Or.inr (Or.inl rfl) | exact Or.inr (Or.inr rfl)) (hd : (n == ("__debug__" : Str)) = false := by decide) (hcd : (n == ("__classdict__" : Str)) = false := by decide) (hg : Gl X y := by rfl) (hdx : (y == ("__debug__" : Str)) = false := by decide)
    (h1 : starEach [.Name n p1] X.env = (false, eval (.Name n p1) X.env) :: starEach [] X.env := by rfl) (hpl : (backTo p2 (starEach [] X.env)).any (·.1) = false := by rfl) :
    DS X W (.Try body [.ExceptHandler (some (.Name "RingError" np)) (some n) [.Return (some (.Call (.Name y p3) [.Name n p1] [] p2)) p4] pos'] [] [] pos) (fun E σ H => tBody X body (wAs X.K (.ref R) i (tSuite X [.Return (some (.Call (.Name y p3) [.Name n p1] [] p2)) p4]) W E) E σ H) (fTry i L Fb fun c => .rn (ws c)) := by
  subst hP hw hK hm hba
  refine ds_try i (fh := fun a c => fRet (fWd a (ws c) i)) tk ⟨hgl, by decide, .inl gR⟩ gR C.cls (fun a c δ _ il => ?_) (fun _ _ => rfl) hb (fun a oe c pn cL pin => ?_) hN hi hln hs hf
  · show (match fWd a (ws c) i (δ.set i (.ob a)) with
      | .ok d => Fl.rt d
      | .new ds => .rn ds
      | .exc c => .exc c (δ.set i (.ob a))
      | .bad => .bad) = _
    rw [wd_at il]
  · obtain ⟨t, d⟩ := de_wd (X := X.suite a ((a, oe) :: pn)) (W := Wno) (p := p3) (pos := p2) (p1 := p1) i C (let z := hr.mono hk; ⟨z.dp, z.un⟩) pin cL hi hv hd hcd hg hdx h1 hpl
    exact ⟨_, _, dss_one (ds_ret d), rfl⟩
/-- return _law_word(e) == [text] -/
theorem ds_tryE (i : Nat) (C : CalW P w K mg base k y B L ws) (hr : Room k' X.A) (hk : k ≤ k') (tk : L2N.Takes X W) (gR : X.mg "RingError" = some (.ref R)) (hu : X.A.units + 64 < cLine)
    (hcmp : ∀ c, c ∈ L → cmpb (.list (ws c)) = true)
    (hb : ∀ (W : WX) (pn : List (Addr × Obj)) (xe : Value → Shared → Prop), L2N.Takes (X.tr pn xe) W → PassesOwn (model X.prog X.w) X.A X.env xe → ∃ t F', DSs (X.tr pn xe) W body t F' ∧ F' = Fb)
    (hN : X.N.Nodup) (hi : X.N[i]? = some n := by rfl) (hln : X.env.kindOf n = some .local := by rfl) (hs : X.stack = X.env :: X.outer := by rfl) (hf : X.env.frame = some X.env.locals := by rfl) (hgl : Gl X "RingError" := by rfl)
    (hP : X.prog = P := by rfl) (hw : X.w = w := by rfl) (hK : X.K = K := by rfl) (hm : X.mg = mg := by rfl) (hba : X.base = base := by rfl)
    (hv : Vis X.env.scope n := by first | exact Or.inl rfl | exact Or.inr (Or.inl rfl) | exact Or.inr (Or.inr rfl)) (hd : (n == ("__debug__" : Str)) = false := by decide) (hcd : (n == ("__classdict__" : Str)) = false := by decide) (hg : Gl X y := by rfl) (hdx : (y == ("__debug__" : Str)) = false := by decide)
    (h1 : starEach [.Name n p1] X.env = (false, eval (.Name n p1) X.env) :: starEach [] X.env := by rfl) (hpl : (backTo p2 (starEach [] X.env)).any (·.1) = false := by rfl)
    (h2 : starEach [.Constant (.str m) j p5] X.env = (false, eval (.Constant (.str m) j p5) X.env) :: starEach [] X.env := by rfl) :
    DS X W (.Try body [.ExceptHandler (some (.Name "RingError" np)) (some n) [.Return (some (.Compare (.Call (.Name y p3) [.Name n p1] [] p2) [.Eq] [.List [.Constant (.str m) j p5] p6] p7)) p4] pos'] [] [] pos)
      (fun E σ H => tBody X body (wAs X.K (.ref R) i (tSuite X [.Return (some (.Compare (.Call (.Name y p3) [.Name n p1] [] p2) [.Eq] [.List [.Constant (.str m) j p5] p6] p7)) p4]) W E) E σ H) (fTry i L Fb fun c => .rt (.bool (PyData.eqv (.list (ws c)) (.list [.str m])))) := by
  subst hP hw hK hm hba
  refine ds_try i (fh := fun a c => fRet (fOp gEq (fWd a (ws c) i) (fLst (fACons (fC (.str m)) fANil)))) tk ⟨hgl, by decide, .inl gR⟩ gR C.cls (fun a c δ cL il => ?_) (fun _ _ => rfl) hb (fun a oe c pn cL pin => ?_) hN hi hln hs hf
  · have e : fOp gEq (fWd a (ws c) i) (fLst (fACons (fC (.str m)) fANil)) (δ.set i (.ob a)) = .ok (.bool (PyData.eqv (.list (ws c)) (.list [.str m]))) := by
      show (fWd a (ws c) i (δ.set i (.ob a))).bind _ = _
      rw [wd_at il]
      show gEq (.list (ws c)) (.list [.str m]) = _
      unfold gEq
      exact if_pos ⟨hcmp c cL, rfl⟩
    show (match fOp gEq (fWd a (ws c) i) (fLst (fACons (fC (.str m)) fANil)) (δ.set i (.ob a)) with
      | .ok d => Fl.rt d
      | .new ds => .rn ds
      | .exc c => .exc c (δ.set i (.ob a))
      | .bad => .bad) = _
    rw [e]
  · obtain ⟨t, d⟩ := de_wd (X := X.suite a ((a, oe) :: pn)) (W := Wno) (p := p3) (pos := p2) (p1 := p1) i C (let z := hr.mono hk; ⟨z.dp, z.un⟩) pin cL hi hv hd hcd hg hdx h1 hpl
    exact ⟨_, _, dss_one (ds_ret (de_cmp (o_eq hu) d (de_lst (da_cons de_str da_nil h2)))), rfl⟩
end
end DL
namespace DL
open PySem PySem.Spec PyProof.Rows L2
section
variable {x1 : Addr} {X : Cx} {W : WX} {elt iter : Expr} {p pos tpos : Pos} {es : List Expr} {kk : Nat} {ifs : List Expr} {scope : Scope} {own : List (Str × Nat)} {wi : TI} {tt : TT} {te : TE} {fi : List Sl → RL} {ft fe : List Sl → R} {is vs : List Nat}
/-- a comprehension over pairs while x1 is handled -/
theorem de_lcT (hot : HotP X x1) (hN : X.N.Nodup) (hi : DIX x1 X W (.Tuple es kk tpos) iter wi fi) (ok : BlkOk X.N X.env.scope scope own)
    (hg : ∀ (s : Shared) (H : Hp) (C : Addr) (cl : List (Str × Addr)) (fp : List Addr), DGs (X.blk s H scope (compEnvC scope cl C X.env) fp) es is)
    (ht : ∀ (s : Shared) (H : Hp) (C : Addr) (cl : List (Str × Addr)) (fp : List Addr), DTs (X.blk s H scope (compEnvC scope cl C X.env) fp) W0 ifs tt ft)
    (he : ∀ (s : Shared) (H : Hp) (C : Addr) (cl : List (Str × Addr)) (fp : List Addr), DE (X.blk s H scope (compEnvC scope cl C X.env) fp) W0 elt te fe)
    (hn : ∀ (s : Shared) (H : Hp) (C : Addr) (cl : List (Str × Addr)) (fp : List Addr), (assignEach es (X.blk s H scope (compEnvC scope cl C X.env) fp).env).length = is.length := by intros; rfl)
    (hst : ∀ (s : Shared) (H : Hp) (C : Addr) (cl : List (Str × Addr)) (fp : List Addr), (assignEach es (X.blk s H scope (compEnvC scope cl C X.env) fp).env).findIdx? (·.1) = none := by intros; rfl)
    (hm : ∀ i ∈ is, i ∈ vs := by decide) (hv : vs = own.map (·.2) := by rfl) (hs : ∀ x, foldedSetIterable iter X.env x = pure x := by intro _; rfl) :
    DE X W (.ListComp elt [⟨.Tuple es kk tpos, iter, ifs, 0⟩] scope pos) (tLc wi (gTup X.K is.length (gNames is)) tt te vs) (fLc fi (setT is) ft fe vs) :=
  de_lcH hot hN hi ok (fun s H C cl fp h => pg_tupX (X := X.blk s H scope (compEnvC scope cl C X.env) fp) hot.1 h (hg s H C cl fp).pgs (hn s H C cl fp) (hst s H C cl fp)) (gw_tup hm) ht he hv hs
end
/-! ### what the End says of the classes -/
theorem all8 {p : Str → Prop} (h1 : p "BadBar") (h2 : p "BadSetting") (h3 : p "BadChest") (h4 : p "BadRow") (h5 : p "BadNumber") (h6 : p "NoMove") (h7 : p "TooMany") (h8 : p "NoNote") : ∀ y ∈ eight, p y := by
  intro y hy
  unfold eight at hy
  simp only [List.mem_cons, List.not_mem_nil, or_false] at hy
  rcases hy with rfl | rfl | rfl | rfl | rfl | rfl | rfl | rfl <;> assumption
theorem exB (b1 b2 b3 b4 b5 b6 b7 b8 : Addr) : ∃ B : Str → Addr, b1 = B "BadBar" ∧ b2 = B "BadSetting" ∧ b3 = B "BadChest" ∧ b4 = B "BadRow" ∧ b5 = B "BadNumber" ∧ b6 = B "NoMove" ∧ b7 = B "TooMany" ∧ b8 = B "NoNote" := by
  refine ⟨fun y => if y == "BadBar" then b1 else if y == "BadSetting" then b2 else if y == "BadChest" then b3 else if y == "BadRow" then b4 else if y == "BadNumber" then b5 else if y == "NoMove" then b6 else if y == "TooMany" then b7 else b8, ?_⟩
  have t : ∀ {c : Bool} {x y : Addr}, c = true → x = if c then x else y := fun h => by rw [h]; rfl
  have f : ∀ {c : Bool} {x y z : Addr}, c = false → z = y → z = if c then x else y := fun h e => by rw [h]; exact e
  exact ⟨t (by decide +kernel), f (by decide +kernel) (t (by decide +kernel)), f (by decide +kernel) (f (by decide +kernel) (t (by decide +kernel))),
    f (by decide +kernel) (f (by decide +kernel) (f (by decide +kernel) (t (by decide +kernel)))),
    f (by decide +kernel) (f (by decide +kernel) (f (by decide +kernel) (f (by decide +kernel) (t (by decide +kernel))))),
    f (by decide +kernel) (f (by decide +kernel) (f (by decide +kernel) (f (by decide +kernel) (f (by decide +kernel) (t (by decide +kernel)))))),
    f (by decide +kernel) (f (by decide +kernel) (f (by decide +kernel) (f (by decide +kernel) (f (by decide +kernel) (f (by decide +kernel) (t (by decide +kernel))))))),
    f (by decide +kernel) (f (by decide +kernel) (f (by decide +kernel) (f (by decide +kernel) (f (by decide +kernel) (f (by decide +kernel) (f (by decide +kernel) rfl))))))⟩
/-- isinstance's answers, told by the classes' lines -/
theorem kit_self {K : PySem.W.Frag} {D : Addr} : PySem.W.kitOne K (.ref D) (.ref D) = some true := if_pos (beq_self_eq_true _)
theorem cls_ok {K : PySem.W.Frag} {B : Addr} (hd : PySem.W.hasDictIn K B = true) (ht : PySem.W.typeIn K (.ref B) = some (.type "type")) : ((PySem.W.clsIn K B).isSome && PySem.W.typeIn K (.ref B) == some (.type "type")) = true := by
  unfold PySem.W.hasDictIn at hd
  cases e : PySem.W.clsIn K B with
  | none => rw [e] at hd; cases hd
  | some c => rw [ht]; rfl
theorem kit_no {K : PySem.W.Frag} {D B : Addr} (hd : PySem.W.hasDictIn K B = true) (ht : PySem.W.typeIn K (.ref B) = some (.type "type")) (s1 : PySem.W.subIn K (.ref D) (.ref D) = some true) (s2 : PySem.W.subIn K (.ref D) (.ref B) = some false) : PySem.W.kitOne K (.ref D) (.ref B) = some false := by
  have ne : ¬ (Value.ref D == Value.ref B) = true := fun z => by
    have e := Value.ref.inj (beq_iff_eq.mp z)
    subst e
    rw [s1] at s2
    cases s2
  show (if (Value.ref D == Value.ref B) = true then some true else PySem.W.kitCls K (.ref D) (.ref B)) = some false
  rw [if_neg ne]
  show (if ((PySem.W.clsIn K B).isSome && PySem.W.typeIn K (.ref B) == some (.type "type")) = true then PySem.W.subIn K (.ref D) (.ref B) else none) = some false
  rw [if_pos (cls_ok hd ht)]
  exact s2
theorem kit_val {K : PySem.W.Frag} {D : Addr} (s : PySem.W.subIn K (.ref D) (.type "ValueError") = some true) : PySem.W.kitOne K (.ref D) (.type "ValueError") = some true := by
  show (if PySem.W.kitMeta "ValueError" = true then PySem.W.subIn K (.ref D) (.type "ValueError") else none) = some true
  rw [if_pos (by decide +kernel)]
  exact s
/-- the word of a class -/
def word (c : Str) : List D := [.str (if c == "BadBar" then "bar" else if c == "BadSetting" then "setting" else if c == "BadChest" then "chest" else if c == "BadRow" then "row" else if c == "BadNumber" then "number" else if c == "NoMove" then "move" else if c == "TooMany" then "many" else "note")]
theorem word_cmp (c : Str) : cmpb (.list (word c)) = true := rfl
end DL
set_option Elab.async false
set_option linter.all false
set_option maxRecDepth 100000
set_option maxHeartbeats 4000000
/-! texts: join, str of a number, list of a text, zip of a text and a list -/
namespace DL
open PySem PySem.Spec PyProof.Rows L2
theorem strs_rep {K : PySem.W.Frag} {G : Hp} : ∀ {ds : List D} {ys : List Str} {xs : List V}, strsOf ds = some ys → RepL K G ds xs → xs = ys.map V.str
  | [], _, _, h, r => by cases h; exact r
  | d :: ds, ys, _, h, r => by
    obtain ⟨x, t, rfl, r1, r2⟩ := r
    cases d with
    | str z =>
      unfold strsOf at h
      cases e : strsOf ds with
      | none => rw [e] at h; cases h
      | some l =>
        rw [e] at h
        cases h
        rw [show x = V.str z from r1, strs_rep e r2]
        rfl
    | _ => cases h
section
variable {K : PySem.W.Frag} {X : Cx} {W : WX} {mg : Str → Option Value} {o e e2 : Expr} {to te : TE} {fo fe : List Sl → R} {pos apos p tpos : Pos} {ta : TA} {fa : List Sl → RL} {elts : List Expr} {kk : Nat}
def fJoin (fo fe : List Sl → R) : List Sl → R := fun δ => (fo δ).bind fun a => match a with
  | .str z => (fe δ).bind fun b => gJoin (.str z) b
  | _ => .bad
theorem de_join (ho : DE X W o to fo) (he : DE X W e te fe) (hs : starEach [e] X.env = [(false, eval e X.env)] := by rfl) (hbase : attributeBase o "join" X.env (eval o X.env) = eval o X.env := by rfl) (hline : (apos.endLine == pos.line) = true := by rfl) :
    DE X W (.Call (.Attribute o "join" apos) [e] [] pos) (tM1 (fun x xs H Q => ∃ a p, ∃ ys : List Str, x = .str a ∧ xs = [.ref p] ∧ (SqL X.K H p (ys.map V.str) ∨ SqT X.K H p (ys.map V.str)) ∧
      (ys.map (·.length)).sum + ys.length * a.length ≤ 16777216 ∧ Q (.str (Txt.join a ys)) H) to te) (fJoin fo fe) := ⟨pe_join ho.pe he.pe hs hbase hline, fun H0 G H σ δ Q S q => by
  refine ho.sem H0 G H σ δ _ S (RQ.bind q fun d v G1 H1 e1 r1 q1 => ?_)
  split at q1
  · rename_i z
    cases r1
    refine ⟨⟨z, rfl⟩, he.sem H0 G1 H1 σ δ _ (S.go e1) (RQ.bind q1 fun d2 v2 G2 H2 e2 r2 q2 => ?_)⟩
    cases d2 with
    | list ds =>
      obtain ⟨a, xs, rfl, h1, r3⟩ := r2
      have q3 : RQ X.K X.mg (WE W σ) G2 H2 Q (match strsOf ds with
        | some ys => if (ys.map (·.length)).sum + ys.length * z.length ≤ 16777216 then .ok (.str (Txt.join z ys)) else .bad
        | none => .bad) := q2
      split at q3
      · rename_i ys hy
        obtain ⟨hl, q4⟩ := rq_if q3
        have ex := strs_rep hy r3
        subst ex
        exact ⟨z, a, ys, rfl, rfl, .inl (sq_inj (e2.s _ _ h1)), hl, RQ.here e2.s q4 rfl⟩
      · exact q3.elim
    | _ => exact q2.elim
  · exact q1.elim⟩
theorem c_str : CallR X (.type "str") (fun xs H Q => ∃ i, xs = [.int i] ∧ i.natAbs.log2 < 1920 ∧ Q (.str (toString i)) H) ∧ CallSem X.K (fun xs H Q => ∃ i, xs = [.int i] ∧ i.natAbs.log2 < 1920 ∧ Q (.str (toString i)) H) gStr := by
  refine ⟨call_str_int, fun mg E G H ds vs Q s rs q => ?_⟩
  unfold gStr at q
  split at q
  · obtain ⟨x, rfl, rx⟩ := repL1 rs
    cases rx
    obtain ⟨hl, q⟩ := rq_if q
    refine ⟨_, rfl, ?_, RQ.here s q rfl⟩
    have : Int.natAbs _ < 2 ^ 20 := Nat.lt_of_lt_of_le hl (by decide)
    exact Nat.lt_of_lt_of_le (PySem.Flt.log2_lt_of (by decide : 0 < 20) this) (by decide)
  · exact q.elim
theorem vals_get : ∀ (xs : List V) (us : List Value), xs.length = us.length → (∀ (j : Nat) (x : V) (u : Value), xs[j]? = some x → us[j]? = some u → RelV x u) → Vals xs us
  | [], [], _, _ => .nil
  | x :: xs, u :: us, hl, h => .cons (h 0 x u rfl rfl) (vals_get xs us (by simpa using hl) fun j y v e1 e2 => h (j + 1) y v (by simpa using e1) (by simpa using e2))
  | [], _ :: _, hl, _ => by simp at hl
  | _ :: _, [], hl, _ => by simp at hl
/-- list(text) -/
def rListS : List V → Hp → VK → Prop := fun xs H Q => ∃ z, xs = [.str z] ∧ z.length ≤ sizeLine ∧ ∀ l, H l = none → Q (.ref l) (upd H l (.lst (z.cps.toList.map fun c => V.str ⟨#[c]⟩)))
theorem call_listS (hc : X.calm = true) : CallR X (.type "list") rListS := by
  intro pins s σ H xs us Q I rv h
  obtain ⟨z, rfl, hl, q⟩ := h
  obtain ⟨u, rfl, ru⟩ := vals1 rv
  obtain ⟨t, rfl⟩ := ru
  refine call_list_str (I.ok.hd hc) z t (hn := hl) fun h' tk acc c' keep at_ items => ?_
  have fresh : H s.heap.objs.size = none := I.hok.fresh (Nat.le_refl _)
  refine ⟨.ref s.heap.objs.size, _, I.laid (t' := tk) (o := .lst (z.cps.toList.map fun c => V.str ⟨#[c]⟩)) keep (Nat.le_refl _) ?_, rfl, q _ fresh⟩
  have sz : acc.size = z.cps.size := items.1
  refine ⟨by rw [List.length_map]; exact hl, acc.toList, c', vals_get _ _ ?_ fun j x u e1 e2 => ?_, by simpa using at_⟩
  · rw [List.length_map, Array.length_toList, Array.length_toList, sz]
  · obtain ⟨c, w, hc, rfl⟩ := items.2 j u (by simpa using e2)
    rw [List.getElem?_map, Array.getElem?_toList, hc] at e1
    cases e1
    exact ⟨w, rfl⟩
theorem c_listS (hc : X.calm = true) : CallR X (.type "list") rListS ∧ CallSem X.K rListS gListS := by
  refine ⟨call_listS hc, fun mg E G H ds vs Q s rs q => ?_⟩
  unfold gListS at q
  split at q
  · rename_i z
    obtain ⟨x, rfl, rx⟩ := repL1 rs
    cases rx
    obtain ⟨hl, q⟩ := rq_if q
    refine ⟨z, rfl, le_line hl, fun l hl => rq_new s ?_ q hl⟩
    unfold signs
    generalize z.cps.toList = cs
    induction cs with
    | nil => rfl
    | cons c cs ih => exact ⟨.str ⟨#[c]⟩, _, rfl, rfl, ih⟩
  · exact q.elim
end
end DL
set_option Elab.async false
set_option linter.all false
set_option maxRecDepth 100000
set_option maxHeartbeats 4000000
/-! zip(text, list) -/
namespace DL
open PySem PySem.Spec PyProof.Rows L2
def ItzS (K : PySem.W.Frag) (x : Str) (b : Addr) : It :=
  ⟨fun i H => ∃ ys c y, SqL K H b ys ∧ x.cps[i]? = some c ∧ ys[i]? = some y,
    fun i H v H' => ∃ T c y, v = V.ref T ∧ H T = none ∧ H' = upd H T (.tup [.str ⟨#[c]⟩, y]) ∧ x.cps[i]? = some c ∧ (∀ ys, SqL K H b ys → ys[i]? = some y),
    fun i H => ∃ ys, SqL K H b ys ∧ (i = x.cps.size ∧ i ≤ ys.length ∨ i = ys.length ∧ i ≤ x.cps.size)⟩
structure Apart4 (z TI TO i1 i2 b : Addr) : Prop where
  sep : ZipSep2 z TI TO i1 i2 [i1] [i2, b]
  n2 : b ≠ i2
def TnS (x : Str) (t : Tok) (b z TI TO i1 i2 : Addr) (i : Nat) (h : Heap) : Prop :=
  IsZip h z TI TO .none ∧ IsTupOf2 h TI (.ref i1) (.ref i2) ∧ (∃ u v, IsTupOf2 h TO u v) ∧ h.IsStrIter i1 (strIterType x) x t i ∧ h.IsListIter i2 b i
section
variable {x : Str} {t : Tok} {b z TI TO i1 i2 : Addr}
theorem tnS_obj {i : Nat} {h : Heap} {m : Addr} (q : TnS x t b z TI TO i1 i2 i h) (hm : m ∈ [z, TI, TO, i1, i2]) : ∃ o, h.get? m = some o ∧ ∀ v, o.data ≠ .cell v := by
  obtain ⟨t1, t2, ⟨u, v, t3⟩, t4, t5⟩ := q
  rcases mem5 hm with rfl | rfl | rfl | rfl | rfl
  · exact ⟨_, t1, fun _ q => nomatch q⟩
  · exact ⟨_, t2, fun _ q => nomatch q⟩
  · exact ⟨_, t3, fun _ q => nomatch q⟩
  · obtain ⟨o, e, _, d⟩ := t4
    exact ⟨o, e, fun v q => by rw [d] at q; cases q⟩
  · obtain ⟨o, e, _, d⟩ := t5
    exact ⟨o, e, fun v q => by rw [d] at q; cases q⟩
theorem strIter_at {h h' : Heap} {it : Addr} {ty : String} {i : Nat} (q : h.IsStrIter it ty x t i) (k : ∀ o, h.get? it = some o → h'.get? it = some o) : h'.IsStrIter it ty x t i := by
  obtain ⟨o, e, r⟩ := q
  exact ⟨o, k o e, r⟩
theorem tnS_keep {i : Nat} {h h' : Heap} (q : TnS x t b z TI TO i1 i2 i h) (k : ∀ m ∈ [z, TI, TO, i1, i2], ∀ o, h.get? m = some o → h'.get? m = some o) : TnS x t b z TI TO i1 i2 i h' := by
  obtain ⟨t1, t2, ⟨u, v, t3⟩, t4, t5⟩ := q
  exact ⟨k z (by simp) _ t1, k TI (by simp) _ t2, ⟨u, v, k TO (by simp) _ t3⟩, strIter_at t4 (k i1 (by simp)), Heap.IsListIter.at t5 fun o q => k i2 (by simp) o q⟩
theorem turn_zipS {P : Program} {w : World} {K : PySem.W.Frag} {elts : List Expr} {kk : Nat} {tpos : Pos} (D : Apart4 z TI TO i1 i2 b) :
    Turn P w K (.Tuple elts kk tpos) (ItzS K x b) [z, TI, TO, i1, i2] z (TnS x t b z TI TO i1 i2) where
  mem := by simp
  obj := fun i h q m hm => tnS_obj q hm
  keep := fun i h h' q k => tnS_keep q k
  item := by
    rintro X rfl rfl rfl calm i pins s σ H E I hf q ⟨ys, c, y, qy, ec, ey⟩
    obtain ⟨v2, r2, p2, _⟩ := sqB_in (b := true) I qy
    have D1 := Draws.text (prog := X.prog) (w := X.w) (A := X.A.in1) (I.ok.hd calm) i1 x t
    have D2 := Draws.list (prog := X.prog) (w := X.w) (A := X.A.in1) (I.ok.hd calm) i2 b D.n2 v2.toArray
    obtain ⟨u2, e2, ru2⟩ := r2.get ey
    obtain ⟨t1, t2, ⟨w1, w2, t3⟩, t4, t5⟩ := id q
    have l1 : i < x.cps.size := by
      rw [Array.getElem?_eq_some_iff] at ec
      exact ec.1
    have l2 : i < v2.toArray.size := by simpa using (List.getElem?_eq_some_iff.mp e2).1
    refine wpAny_pyNext_zipD2_item D.sep D1 D2 t1 t2 t3 t4 ⟨t5, p2⟩ l1 l2 fun g1 g2 h' tk f1 f2 z' nTO s1 s2 nT hsz hk => ?_
    obtain ⟨c', u1, ec', rfl⟩ := f1
    have ecc : c' = c := by rw [ec] at ec'; exact (Option.some.inj ec').symm
    subst ecc
    have eg2 : g2 = u2 := by
      have f2' : v2.toArray[i]? = some g2 := f2
      rw [List.getElem?_toArray, e2] at f2'
      exact (Option.some.inj f2').symm
    subst eg2
    have zlt := Heap.lt_size t1
    refine ⟨_, rfl, wpAny_letOwnedTupleGo_zip (s := { s with heap := h', toks := tk }) z' fun h2 z2 sb => ?_⟩
    have sep := D.sep
    have go : ∀ m o, m ≠ z → h'.get? m = some o → h2.get? m = some o := fun m o hm q => (sb.2 _ hm).trans q
    have nT2 := go _ _ (Nat.ne_of_gt zlt) nT
    have nw : ObjOk X.prog X.w (upd H s.heap.objs.size (.tup [.str ⟨#[c']⟩, y])) h2 s.heap.objs.size (.tup [.str ⟨#[c']⟩, y]) :=
      ⟨by rw [sizeLine_eq]; show 2 ≤ _; decide, [.str ⟨#[c']⟩ u1, g2], .cons ⟨u1, rfl⟩ (.cons ru2 .nil), _, nT2, rfl, _, rfl⟩
    have up : ∀ m o, m ∉ [z, TI, TO, i1, i2] → s.heap.get? m = some o → h2.get? m = some o := fun m o hm q =>
      let ⟨a1, _, a3, a4, a5⟩ := not5 hm
      go m o a1 (hk m o a1 a3 a4 a5 q)
    have zi1 : i1 ≠ z := fun e => by
      have := sep.zf1
      rw [e] at this
      exact this (by simp)
    have zi2 : i2 ≠ z := fun e => by
      have := sep.zf2
      rw [e] at this
      exact this (by simp)
    refine ⟨.ref s.heap.objs.size, _, I.turnedNew (t' := tk) up hf (Nat.le_refl _) nw, rfl, ⟨_, c', y, rfl, I.hok.fresh (Nat.le_refl _), rfl, ec, fun l hl => by rw [sqB_inj (b := true) I hl qy]; exact ey⟩, ⟨z2, ?_, ⟨.str ⟨#[c']⟩ u1, g2, ?_⟩, ?_, ?_⟩, fun m hm => ?_⟩
    · exact go _ _ sep.TIz (hk _ _ sep.TIz sep.TITO sep.TIi1 sep.TIi2 t2)
    · exact go _ _ sep.TOz nTO
    · exact strIter_at s1 fun o q => go _ o zi1 q
    · exact Heap.IsListIter.at s2.1 fun o q => go _ o zi2 q
    · obtain ⟨o, eo, _⟩ := tnS_obj q hm
      rw [upd_ne (Nat.ne_of_lt (Heap.lt_size eo))]
      exact (hf m hm).1
  done := by
    rintro X rfl rfl rfl calm i pins s σ H E I hf q ⟨ys, qy, hend⟩
    obtain ⟨v2, r2, p2, _⟩ := sqB_in (b := true) I qy
    have D1 := Draws.text (prog := X.prog) (w := X.w) (A := X.A.in1) (I.ok.hd calm) i1 x t
    have D2 := Draws.list (prog := X.prog) (w := X.w) (A := X.A.in1) (I.ok.hd calm) i2 b D.n2 v2.toArray
    obtain ⟨t1, t2, ⟨w1, w2, t3⟩, t4, t5⟩ := id q
    have l2 := r2.length
    have s2 : v2.toArray.size = v2.length := List.size_toArray ..
    refine wpAny_pyNext_zipD2_end D.sep D1 D2 t1 t2 t3 t4 ⟨t5, p2⟩ (by omega) (by omega) (by omega) fun h' tk hk => ⟨rfl, I.turnedL (t' := tk) (fun m o hm q => ?_) hf⟩
    obtain ⟨a1, _, a3, a4, a5⟩ := not5 hm
    exact hk m o a1 a3 a4 a5 q
  self := fun A i s Q E q h => wpAny_pyIter_zip q.1 h
end
theorem apart4_new (n b : Nat) (hb : b < n) : Apart4 (n + 4) (n + 2) (n + 3) n (n + 1) b := by
  refine ⟨?_, Nat.ne_of_lt (Nat.lt_succ_of_lt hb)⟩
  constructor <;> simp only [List.mem_cons, List.not_mem_nil, or_false, true_or, not_or, ne_eq] <;> (first | exact neq_of (by omega) | exact ⟨neq_of (by omega), neq_of (by omega)⟩)
section
variable {X : Cx} {W : WX} {e e2 : Expr} {ta : TA} {fa : List Sl → RL} {p pos tpos : Pos} {elts : List Expr} {kk : Nat}
def iZipS (K : PySem.W.Frag) (ta : TA) : TI := fun σ H R => ta σ H fun vs H1 => ∃ (x : Str) (b : Addr) (ys : List V), vs = [.str x, .ref b] ∧ SqL K H1 b ys ∧ R (ItzS K x b) H1
theorem pi_zipS (hg : Gl X "zip") (hm : X.mg "zip" = none) (ha : PA X [e, e2] ta)
    (hs : starEach [e, e2] X.env = (false, eval e X.env) :: starEach [e2] X.env := by rfl) (hpl : (backTo pos (starEach [e2] X.env)).any (·.1) = false := by rfl) :
    PI X (.Tuple elts kk tpos) (.Call (.Name "zip" p) [e, e2] [] pos) (iZipS X.K ta) := ⟨fun pins s σ H R I h => by
  have run := ha.run pos pins s σ H _ I h
  refine Call_ (ld_blt I hg hm PyProof.Rows.boot_zip (PyProof.Rows.callWith_type1 (thn run fun us s1 got => ?_) hs hpl))
  obtain ⟨vs, H1, I1, rvs, x, b, ys, rfl, qy, q⟩ := got
  obtain ⟨u1, us2, rfl, rel1, rvs2⟩ : ∃ u1 us2, us = u1 :: us2 ∧ RelV (.str x) u1 ∧ Vals [.ref b] us2 := by
    cases rvs with
    | cons r1 r2 => exact ⟨_, _, rfl, r1, r2⟩
  obtain ⟨u2, rfl, rel2⟩ := vals1 rvs2
  obtain ⟨t, rfl⟩ := rel1
  cases rel2
  obtain ⟨v2, r2, p2, lt2⟩ := sqB_in (b := true) I1 qy
  have nf : ∀ m, m ∈ [s1.heap.objs.size + 4, s1.heap.objs.size + 2, s1.heap.objs.size + 3, s1.heap.objs.size, s1.heap.objs.size + 1] → FpOk X pins H1 m := fun m hm => by
    have le : s1.heap.objs.size ≤ m := by rcases mem5 hm with e | e | e | e | e <;> rw [e] <;> omega
    exact I1.fpOk le (I1.hok.fresh le)
  refine zip_begins2 (begins_text x t) (begins_list b v2.toArray) trivial p2 fun h' z1 z2 z3 z4 z5 _ hk => wpAny_pyIter_zip z1 ?_
  exact ⟨_, _, _, _, H1, rfl, I1.kept (t' := s1.toks) hk, turn_zipS (x := x) (t := t) (apart4_new _ b lt2), ⟨z1, z2, ⟨_, _, z3⟩, ⟨_, z4, rfl, rfl⟩, ⟨_, z5, rfl, rfl⟩⟩, nf, q⟩⟩
theorem gives_zipS {K : PySem.W.Frag} {G : Hp} {x : Str} {b : Addr} {ys : List V} {es : List D} (h2 : G b = some (.lst ys)) (r2 : RepL K G es ys) : Gives K (ItzS K x b) G (List.zipWith prD (signs x) es) where
  stop := fun i H s hi => by
    rw [List.length_zipWith] at hi
    have l2 := r2.length
    have l1 : (signs x).length = x.cps.size := by unfold signs; simp
    exact ⟨ys, sq_inj (s _ _ h2), by omega⟩
  go := fun i H s hi => by
    rw [List.length_zipWith] at hi
    have l2 := r2.length
    have l1 : (signs x).length = x.cps.size := by unfold signs; simp
    exact ⟨ys, x.cps[i]'(by omega), ys[i]'(by omega), sq_inj (s _ _ h2), Array.getElem?_eq_getElem _, List.getElem?_eq_getElem _⟩
  yld := fun i G1 H v H' d s1 s2 hd hy => by
    obtain ⟨T, c, y, rfl, hT, rfl, y1, y2⟩ := hy
    rw [List.getElem?_zipWith] at hd
    have ex : (signs x)[i]? = some (.str ⟨#[c]⟩) := by
      unfold signs
      rw [List.getElem?_map, Array.getElem?_toList, y1]
      rfl
    obtain ⟨dy, ey, ry⟩ := r2.getV (y2 ys (sq_inj (s2 _ _ (s1 _ _ h2))))
    rw [ex, ey] at hd
    cases hd
    exact rep_pair s2 hT rfl (Rep.mono s1 _ _ ry)
theorem di_zipS (K : PySem.W.Frag) (hm : X.mg "zip" = none) (ha : DA X W [e, e2] ta fa) (hK : X.K = K := by rfl) (hg : Gl X "zip" := by rfl)
    (hs : starEach [e, e2] X.env = (false, eval e X.env) :: starEach [e2] X.env := by rfl) (hpl : (backTo pos (starEach [e2] X.env)).any (·.1) = false := by rfl) :
    DI X W (.Tuple elts kk tpos) (.Call (.Name "zip" p) [e, e2] [] pos) (iZipS K ta) (fRg zipS fa) := by
  subst hK
  refine ⟨pi_zipS hg hm ha.pa hs hpl, fun H0 G H σ δ Q S q => ha.sem H0 G H σ δ _ S (to_i q fun ds vs G1 H1 e1 r1 q1 => ?_)⟩
  unfold zipS at q1
  split at q1
  · obtain ⟨x, y, rfl, rx, ⟨b, ws, rfl, h2, k2⟩⟩ := repL2 r1
    cases rx
    exact ⟨_, b, ws, rfl, sq_inj (e1.s _ _ h2), IQ.here e1.s q1 (gives_zipS h2 k2)⟩
  · exact q1.elim
end
end DL
namespace DL
open PySem PySem.Spec PyProof.Rows L2
/-- {} as a thing -/
theorem de_dct0 {X : Cx} {W : WX} {pos : Pos} : DE X W (.Dict [] [] pos) tDNewK (fC (.dict [])) := ⟨pe_dnewK, fun H0 G H σ δ Q S q => by
  intro p hp
  have e := Ext.laid (o := .dK []) S.s hp
  exact q (.ref p) _ _ e (Or.inl ⟨rfl, p, rfl, upd_same⟩)⟩
end DL
set_option Elab.async false
set_option linter.all false
set_option maxRecDepth 100000
set_option maxHeartbeats 4000000
/-! for over a list of one's own that is written behind the loop again -/
namespace DL
open PySem PySem.Spec PyProof.Rows L2
def Sl.isBr : Sl → Bool
  | .br _ _ => true
  | _ => false
open Classical in
/-- the loop borrows the list in the slot j -/
noncomputable def fForO (j : Nat) (fi : List Sl → RL) (set : D → List Sl → Option (List Sl)) (body : List Sl → Fl) : List Sl → Fl := fun δ => match δ[j]? with
  | some (.own ds) => (match fi (δ.set j (.v (.list ds))) with
    | .ok its => if h : flatL its = true ∧ ∃ δe : List Sl, δe[j]? = some (.own ds) ∧ (∀ (i : Nat) (s : Sl), i ≠ j → δe[i]? = some s → s.isBr = false) ∧ ∀ p, forGo set body its (δ.set j (.br p ds)) = .nx (δe.set j (.br p ds)) then .nx h.2.choose else .bad
    | _ => .bad)
  | _ => .bad
theorem fForO_eq {j : Nat} {fi : List Sl → RL} {set : D → List Sl → Option (List Sl)} {body : List Sl → Fl} {δ δe : List Sl} {ds its : List D} (h1 : δ[j]? = some (.own ds)) (h2 : fi (δ.set j (.v (.list ds))) = .ok its) (h3 : flatL its = true)
    (h4 : δe[j]? = some (.own ds)) (h5 : ∀ (i : Nat) (s : Sl), i ≠ j → δe[i]? = some s → s.isBr = false) (h6 : ∀ p, forGo set body its (δ.set j (.br p ds)) = .nx (δe.set j (.br p ds))) : fForO j fi set body δ = .nx δe := by
  have hh : flatL its = true ∧ ∃ δe : List Sl, δe[j]? = some (.own ds) ∧ (∀ (i : Nat) (s : Sl), i ≠ j → δe[i]? = some s → s.isBr = false) ∧ ∀ p, forGo set body its (δ.set j (.br p ds)) = .nx (δe.set j (.br p ds)) := ⟨h3, δe, h4, h5, h6⟩
  unfold fForO
  rw [h1]
  simp only []
  rw [h2]
  simp only []
  rw [dif_pos hh]
  obtain ⟨c1, c2, c3⟩ := hh.2.choose_spec
  generalize hh.2.choose = δc at *
  have e := (c3 0).symm.trans (h6 0)
  injection e with e
  congr 1
  apply List.ext_getElem?
  intro i
  by_cases q : i = j
  · subst q
    rw [c1, h4]
  · have this : (δc.set j (.br 0 ds))[i]? = (δe.set j (.br 0 ds))[i]? := by rw [e]
    rwa [List.getElem?_set_ne (Ne.symm q), List.getElem?_set_ne (Ne.symm q)] at this
/-- a heap without a place -/
def off (G : Hp) (p : Addr) : Hp := fun a => if a = p then none else G a
theorem off_ne {G : Hp} {p a : Addr} (h : a ≠ p) : off G p a = G a := if_neg h
theorem off_at {G : Hp} {p : Addr} : off G p p = none := if_pos rfl
theorem off_same {G : Hp} {p : Addr} : Same (off G p) G := fun a o e => by
  by_cases h : a = p
  · subst h; rw [off_at] at e; cases e
  · rwa [off_ne h] at e
section
variable {K : PySem.W.Frag} {W : WX} {mg : Str → Option Value} {t : TS} {F : List Sl → Fl}
/-- the list at p, told -/
theorem St.told {H0 G H : Hp} {σ : L2.St} {δ : List Sl} {j : Nat} {ds : List D} {p : Addr} {xs : List V} (S : St K H0 G H σ δ) (h : δ[j]? = some (.own ds)) (hσ : σ[j]? = some (some (.ref p))) (h1 : H0 p = none) (h2 : G p = none) (h3 : H p = some (.lst xs)) (r : RepL K G ds xs) :
    St K H0 (upd G p (.lst xs)) H σ (δ.set j (.v (.list ds))) := by
  have hj : j < σ.length := by rw [S.l]; exact (List.getElem?_eq_some_iff.mp h).1
  have n := rep_new S.s h2 h3 r
  refine ⟨n.2.1, S.b, by rw [S.l, List.length_set], fun i s o a b => ?_, fun i k us ws q hik a b c d => ?_⟩
  · rcases get_set a with ⟨rfl, rfl, _⟩ | ⟨n1, a⟩
    · rw [hσ] at b
      cases b
      exact ⟨_, rfl, n.2.2⟩
    · have old := S.r i s o a b
      cases s with
      | un => trivial
      | v d =>
        obtain ⟨x, e1, rx⟩ := old
        exact ⟨x, e1, Rep.mono n.1 _ _ rx⟩
      | own us =>
        obtain ⟨q, ys, rfl, e2, e3, e4, rq⟩ := old
        have ne : q ≠ p := fun z => by
          subst z
          exact S.ap i j us ds q (Ne.symm n1) a h b hσ
        exact ⟨q, ys, rfl, e2, by rw [upd_ne ne]; exact e3, e4, RepL.mono n.1 _ _ rq⟩
      | dct m =>
        obtain ⟨q, e1, e2, e3, e4⟩ := old
        have ne : q ≠ p := fun z => by
          subst z
          rw [h3] at e4
          cases e4
        exact ⟨q, e1, e2, by rw [upd_ne ne]; exact e3, e4⟩
      | rd m => exact old
      | ob a => exact old
      | br p2 ds2 =>
        obtain ⟨e1, e2, ys, e3, rq⟩ := old
        have ne : p2 ≠ p := fun z => by
          subst z
          rw [h1] at e3
          cases e3
        exact ⟨e1, by rw [upd_ne ne]; exact e2, ys, e3, RepL.mono n.1 _ _ rq⟩
  · rcases get_set a with ⟨_, a, _⟩ | ⟨_, a⟩
    · cases a
    · rcases get_set b with ⟨_, b, _⟩ | ⟨_, b⟩
      · cases b
      · exact S.ap i k us ws q hik a b c d
/-- the loop's own start: the list is kept by the base, not told -/
theorem St.lend {H0 G H G' H' : Hp} {σ : L2.St} {δ : List Sl} {j : Nat} {ds : List D} {p : Addr} {xs : List V} (S : St K H0 G H σ δ) (h : δ[j]? = some (.own ds)) (hσ : σ[j]? = some (some (.ref p))) (h1 : H0 p = none) (h2 : G p = none) (h3 : H p = some (.lst xs)) (r : RepL K G ds xs)
    (e : Ext (upd G p (.lst xs)) H G' H') : St K (upd H0 p (.lst xs)) (off G' p) H' σ (δ.set j (.br p ds)) := by
  have g : Same G (off G' p) := fun a o q => by
    have na : a ≠ p := fun z => by subst z; rw [h2] at q; cases q
    rw [off_ne na]
    exact e.g a o (by rw [upd_ne na]; exact q)
  have gone : ∀ a, G a = none → L2.Mut (H a) → off G' p a = none := fun a q m => by
    by_cases na : a = p
    · subst na; exact off_at
    · rw [off_ne na]
      exact e.n a (by rw [upd_ne na]; exact q) m
  have hb : ∀ {q : Addr}, q ≠ p → H0 q = none → upd H0 p (.lst xs) q = none := fun nq z => by rw [upd_ne nq]; exact z
  refine ⟨off_same.trans e.s, fun a o q => ?_, by rw [S.l, List.length_set], fun i s o a b => ?_, fun i k us ws q hik a b c d => ?_⟩
  · by_cases na : a = p
    · subst na
      rw [upd_same] at q
      cases q
      exact e.h _ _ h3
    · rw [upd_ne na] at q
      exact e.h _ _ (S.b a o q)
  · rcases get_set a with ⟨rfl, rfl, _⟩ | ⟨n1, a2⟩
    · rw [hσ] at b
      cases b
      exact ⟨rfl, off_at, xs, upd_same, RepL.mono g _ _ r⟩
    · have old := S.r i s o a2 b
      cases s with
      | un => trivial
      | v d =>
        obtain ⟨x, e1, rx⟩ := old
        exact ⟨x, e1, Rep.mono g _ _ rx⟩
      | own us =>
        obtain ⟨q, ys, rfl, e2, e3, e4, rq⟩ := old
        have ne : q ≠ p := fun z => by
          subst z
          exact S.ap i j us ds q (Ne.symm n1) a2 h b hσ
        exact ⟨q, ys, rfl, hb ne e2, gone q e3 (mut_lst e4), e.h _ _ e4, RepL.mono g _ _ rq⟩
      | dct m =>
        obtain ⟨q, e1, e2, e3, e4⟩ := old
        have ne : q ≠ p := fun z => by
          subst z
          rw [h3] at e4
          cases e4
        exact ⟨q, e1, hb ne e2, gone q e3 (mut_dT e4), e.h _ _ e4⟩
      | rd m =>
        obtain ⟨q, e1, e4⟩ := old
        exact ⟨q, e1, e.h _ _ e4⟩
      | ob a => exact old
      | br p2 ds2 =>
        obtain ⟨e1, e2, ys, e3, rq⟩ := old
        have ne : p2 ≠ p := fun z => by
          subst z
          rw [h1] at e3
          cases e3
        exact ⟨e1, gone p2 e2 (mut_lst (S.b _ _ e3)), ys, by rw [upd_ne ne]; exact e3, RepL.mono g _ _ rq⟩
  · rcases get_set a with ⟨_, a, _⟩ | ⟨_, a⟩
    · cases a
    · rcases get_set b with ⟨_, b, _⟩ | ⟨_, b⟩
      · cases b
      · exact S.ap i k us ws q hik a b c d
/-- the loop's end -/
theorem St.back {H0 Hb Gc H2 : Hp} {σ : L2.St} {δe : List Sl} {j : Nat} {ds : List D} {p : Addr} {xs : List V} (eb : Hb = upd H0 p (.lst xs)) (h1 : H0 p = none) (S : St K Hb Gc H2 σ (δe.set j (.br p ds))) (hj : δe[j]? = some (.own ds)) (hn : ∀ (i : Nat) (s : Sl), i ≠ j → δe[i]? = some s → s.isBr = false) : St K H0 Gc H2 σ δe := by
  have lj : j < δe.length := (List.getElem?_eq_some_iff.mp hj).1
  have low : ∀ {q : Addr}, Hb q = none → H0 q = none := fun {q} z => by
    cases e : H0 q with
    | none => rfl
    | some o =>
      have nq : q ≠ p := fun y => by subst y; rw [h1] at e; cases e
      rw [eb, upd_ne nq, e] at z
      cases z
  have atj : (δe.set j (.br p ds))[j]? = some (.br p ds) := List.getElem?_set_self lj
  refine ⟨S.s, fun a o q => S.b a o ?_, by rw [S.l, List.length_set], fun i s o a b => ?_, fun i k us ws q hik a b c d => ?_⟩
  · have nq : a ≠ p := fun y => by subst y; rw [h1] at q; cases q
    rw [eb, upd_ne nq]
    exact q
  · by_cases hi : i = j
    · subst hi
      rw [hj] at a
      cases a
      obtain ⟨e1, e2, ys, e3, r⟩ := S.r i _ _ atj b
      have ex : ys = xs := by
        rw [eb, upd_same] at e3
        cases e3
        rfl
      subst ex
      exact ⟨p, ys, e1, h1, e2, S.b _ _ e3, r⟩
    · have old := S.r i s o (by rw [List.getElem?_set_ne (Ne.symm hi)]; exact a) b
      cases s with
      | un => trivial
      | v d => exact old
      | own us =>
        obtain ⟨q, ys, e1, e2, e3, e4, rq⟩ := old
        exact ⟨q, ys, e1, low e2, e3, e4, rq⟩
      | dct m =>
        obtain ⟨q, e1, e2, e3, e4⟩ := old
        exact ⟨q, e1, low e2, e3, e4⟩
      | rd m => exact old
      | ob a => exact old
      | br p2 ds2 =>
        have := hn i _ hi a
        cases this
  · have hb : Hb p = some (.lst xs) := by rw [eb]; exact upd_same
    by_cases hi : i = j
    · subst hi
      have hk : k ≠ i := Ne.symm hik
      obtain ⟨e1, _⟩ := S.r i _ _ atj c
      cases e1
      obtain ⟨q2, ys, e1, e2, _⟩ := S.r k _ _ (by rw [List.getElem?_set_ne hik]; exact b) d
      cases e1
      rw [hb] at e2
      cases e2
    · by_cases hk : k = j
      · subst hk
        obtain ⟨e1, _⟩ := S.r k _ _ atj d
        cases e1
        obtain ⟨q2, ys, e1, e2, _⟩ := S.r i _ _ (by rw [List.getElem?_set_ne (Ne.symm hi)]; exact a) c
        cases e1
        rw [hb] at e2
        cases e2
      · exact S.ap i k us ws q hik (by rw [List.getElem?_set_ne (Ne.symm hi)]; exact a) (by rw [List.getElem?_set_ne (Ne.symm hk)]; exact b) c d
theorem sem_forO {j : Nat} {wi : TI} {g : TG} {fi : List Sl → RL} {set : D → List Sl → Option (List Sl)} (hi : SemI K mg W wi fi) (hg : SemG K g set) (hb : SemS K mg W t F) : SemS K mg W (tFor wi g t) (fForO j fi set F) := fun G0 H0 D H σ δ S q => by
  obtain ⟨G, e0, St0⟩ := id S
  unfold fForO at q
  split at q
  · rename_i ds hds
    obtain ⟨o, hσ, p, xs, rfl, h1, h2, h3, r⟩ := St0.at hds
    split at q
    · rename_i its hits
      split at q
      · rename_i hh
        obtain ⟨c1, c2, c3⟩ := hh.2.choose_spec
        have fl := hh.1
        generalize hh.2.choose = δe at *
        have target := c3 p
        refine hi H0 (upd G p (.lst xs)) H σ _ _ (St0.told hds hσ h1 h2 h3 r) ?_
        rw [hits]
        intro J G1 H1 e1 gv
        have startSt := St0.lend hds hσ h1 h2 h3 r e1
        generalize eb : upd H0 p (.lst xs) = Hb at startSt
        have hbp : Hb p = some (.lst xs) := by rw [← eb]; exact upd_same
        have g1p : G1 p = some (.lst xs) := e1.g p _ upd_same
        -- back to what was there ahead of the loop
        have fin : ∀ {σ' : L2.St} {H2 : Hp}, SSt K (off G1 p) Hb H2 σ' (δe.set j (.br p ds)) → SSt K G0 H0 H2 σ' δe := fun {σ' H2} S2 => by
          obtain ⟨Gc, ec, Sc⟩ := S2
          have g01 : Same G0 (off G1 p) := fun a o z => by
            have z2 := e0.g a o z
            have na : a ≠ p := fun y => by subst y; rw [h2] at z2; cases z2
            rw [off_ne na]
            exact e1.g a o (by rw [upd_ne na]; exact z2)
          refine ⟨Gc, ⟨g01.trans ec.g, fun a o z => ec.h a o ?_, ec.s, fun a z m => ?_⟩, Sc.back eb.symm h1 c1 c2⟩
          · have na : a ≠ p := fun y => by subst y; rw [h1] at z; cases z
            rw [← eb, upd_ne na]
            exact z
          · have na : a ≠ p := fun y => by subst y; rw [h1] at m; exact m.elim
            have z1 := e0.n a z m
            have z2 : G1 a = none := e1.n a (by rw [upd_ne na]; exact z1) (by rw [mut_at e0.h m]; exact m)
            refine ec.n a (by rw [off_ne na]; exact z2) ?_
            rw [← eb, upd_ne na]
            exact m
        refine ⟨fun i m σ' H' => i ≤ its.length ∧ m = its.length - i ∧ ∃ δ', SSt K (off G1 p) Hb H' σ' δ' ∧ forGo set F (its.drop i) δ' = .nx (δe.set j (.br p ds)), ⟨_, Nat.zero_le _, rfl, _, ⟨off G1 p, ⟨Same.refl _, startSt.b, startSt.s, fun _ z _ => z⟩, startSt⟩, by rw [List.drop_zero]; exact target⟩, ?_⟩
        rintro i m σ' H2 ⟨hle, rfl, δ', ⟨Gc, ec, Sc⟩, q2⟩
        have gcp : Gc p = none := ec.n p off_at (by rw [hbp]; trivial)
        have whole : Same G1 H2 := fun a o z => by
          by_cases na : a = p
          · subst na
            rw [g1p] at z
            cases z
            exact ec.h _ _ hbp
          · exact ec.s a o (ec.g a o (by rw [off_ne na]; exact z))
        by_cases hlt : i < its.length
        · refine .inr ⟨gv.go i H2 whole hlt, _, fun σ2 H3 n => ⟨its.length - (i + 1), by omega, n⟩, fun x H3 hy => ?_⟩
          have hd : its[i]? = some its[i] := List.getElem?_eq_getElem hlt
          have up1 : Same G1 (upd Gc p (.lst xs)) := fun a o z => by
            by_cases na : a = p
            · subst na; rw [g1p] at z; cases z; exact upd_same
            · rw [upd_ne na]; exact ec.g a o (by rw [off_ne na]; exact z)
          have up2 : Same (upd Gc p (.lst xs)) H2 := fun a o z => by
            by_cases na : a = p
            · subst na; rw [upd_same] at z; cases z; exact ec.h _ _ hbp
            · rw [upd_ne na] at z; exact ec.s a o z
          obtain ⟨G3, e3, rx⟩ := gv.yld i _ H2 x H3 _ up1 up2 hd hy
          have g3p : G3 p = some (.lst xs) := e3.g p _ upd_same
          have e4 : Ext Gc H2 (off G3 p) H3 := ⟨fun a o z => by
            have na : a ≠ p := fun y => by subst y; rw [gcp] at z; cases z
            rw [off_ne na]
            exact e3.g a o (by rw [upd_ne na]; exact z), e3.h, off_same.trans e3.s, fun a z m => by
            by_cases na : a = p
            · subst na; exact off_at
            · rw [off_ne na]; exact e3.n a (by rw [upd_ne na]; exact z) m⟩
          have fd : flat its[i] = true := by
            have : ∀ l : List DL.D, flatL l = true → ∀ d ∈ l, flat d = true := fun l => by
              induction l with
              | nil => intro _ d hd; cases hd
              | cons a l ih =>
                intro h d hd
                rw [flatL, Bool.and_eq_true] at h
                rcases List.mem_cons.mp hd with rfl | hd
                · exact h.1
                · exact ih h.2 d hd
            exact this its fl _ (List.getElem_mem hlt)
          have rx2 : Rep K (off G3 p) its[i] x := Rep.flatTo (fun a ys ta => by
            have na : a ≠ p := fun y => by
              subst y
              rcases ta with z | ⟨_, _, _, z⟩
              · rw [g3p] at z; cases z
              · rw [g3p] at z; cases z
            rcases ta with z | ⟨f, o, n, z⟩
            · exact .inl (by rw [off_ne na]; exact z)
            · exact .inr ⟨f, o, n, by rw [off_ne na]; exact z⟩) _ _ fd rx
          have edrop : its.drop i = its[i] :: its.drop (i + 1) := (List.getElem_cons_drop hlt).symm
          rw [edrop] at q2
          unfold forGo at q2
          refine hg Hb (off G3 p) H3 σ' δ' x its[i] _ (Sc.go e4) rx2 (fun δ2 σ2 hs S4 => ?_) (fun z => ?_)
          · rw [hs] at q2
            refine hb (off G1 p) Hb _ H3 σ2 δ2 ⟨off G3 p, ec.trans e4, S4⟩ ?_
            have q3 : (match F δ2 with
              | .nx δ2 => forGo set F (its.drop (i + 1)) δ2
              | .ct δ2 => forGo set F (its.drop (i + 1)) δ2
              | .bk δ2 => .nx δ2
              | f => f) = .nx (δe.set j (.br p ds)) := q2
            cases hf : F δ2 with
            | nx δ3 =>
              rw [hf] at q3
              exact fun σ3 H4 S5 => ⟨hlt, rfl, δ3, S5, q3⟩
            | ct δ3 =>
              rw [hf] at q3
              exact fun σ3 H4 S5 => ⟨hlt, rfl, δ3, S5, q3⟩
            | bk δ3 =>
              rw [hf] at q3
              injection q3 with q3
              subst q3
              exact fun σ3 H4 S5 => q σ3 H4 (fin S5)
            | rt d => rw [hf] at q3; cases q3
            | rn d => rw [hf] at q3; cases q3
            | exc c d => rw [hf] at q3; cases q3
            | bad => rw [hf] at q3; cases q3
          · rw [z] at q2
            cases q2
        · have e : i = its.length := by omega
          subst e
          rw [List.drop_length] at q2
          unfold forGo at q2
          injection q2 with q2
          subst q2
          exact .inl ⟨gv.stop _ H2 whole rfl, q σ' H2 (fin ⟨Gc, ec, Sc⟩)⟩
      · exact q.elim
    · exact q.elim
  · exact q.elim
end
section
variable {X : Cx} {W : WX} {t : TS} {F : List Sl → Fl} {pos : Pos}
theorem ds_forO (j : Nat) {tg iter : Expr} {body : List Stmt} {wi : TI} {g : TG} {fi : List Sl → RL} {set : D → List Sl → Option (List Sl)} (hp : PassesOwn (model X.prog X.w) X.A X.env X.xe) (hc : X.calm = true) (hi : DI X W tg iter wi fi) (hg : DG X tg g set) (hb : DSs X W body t F)
    (hs : ∀ x, foldedSetIterable iter X.env x = pure x := by intro _; rfl) : DS X W (.For tg iter body [] pos) (tFor wi g t) (fForO j fi set F) := ⟨ps_for hp hc hi.pi hg.pg hb.pss hs, sem_forO hi.sem hg.sem hb.sem⟩
end
end DL
set_option Elab.async false
set_option linter.all false
set_option maxRecDepth 100000
set_option maxHeartbeats 4000000
/-! replace of written texts: wants a token out -/
namespace DL
open PySem PySem.Spec PyProof.Rows L2
structure DET (X : Cx) (W : WX) (e : Expr) (t : TE) (f : List Sl → R) : Prop where
  pet : PET X e t
  sem : SemE X.K X.mg W t f
structure DST (X : Cx) (W : WX) (st : Stmt) (t : TS) (F : List Sl → Fl) : Prop where
  pst : PST X st t
  sem : SemS X.K X.mg W t F
structure DSsT (X : Cx) (W : WX) (st : List Stmt) (t : TS) (F : List Sl → Fl) : Prop where
  psst : PSsT X st t
  sem : SemS X.K X.mg W t F
def fRepl (y z : Str) (f : List Sl → R) : List Sl → R := fun δ => (f δ).bind fun a => match a with
  | .str x => if x.length + (x.length + 1) * z.length ≤ 16777216 then .ok (.str (Txt.replace x y z)) else .bad
  | _ => .bad
section
variable {X : Cx} {W : WX} {o e f a b : Expr} {to te tf ta tb : TE} {fo fe ff fa fb : List Sl → R} {y z : Str} {j k : Nat} {c0 c1 apos pos p p' : Pos} {st : Stmt} {rest : List Stmt} {es : List Expr} {t u : TS} {F F2 : List Sl → Fl}
theorem DET.of (h : DE X W e te fe) : DET X W e te fe := ⟨CwR.PET.of h.pe, h.sem⟩
theorem DST.of (h : DS X W st t F) : DST X W st t F := ⟨PST.of h.ps, h.sem⟩
theorem sem_repl {K : PySem.W.Frag} {mg : Str → Option Value} (h : SemE K mg W to fo) : SemE K mg W (CwR.tReplC to y z) (fRepl y z fo) := fun H0 G H σ δ Q S q => by
  refine h H0 G H σ δ _ S (RQ.bind q fun d v G1 H1 e1 r1 q1 => ?_)
  split at q1
  · obtain ⟨hl, q2⟩ := rq_if q1
    exact ⟨_, r1, hl, RQ.here e1.s q2 rfl⟩
  · exact q1.elim
theorem det_repl (ho : DE X W o to fo) (hyz : (y == z) = false := by decide)
    (hst : starEach [.Constant (.str y) j c0, .Constant (.str z) k c1] X.env = [(false, eval (.Constant (.str y) j c0) X.env), (false, eval (.Constant (.str z) k c1) X.env)] := by rfl)
    (hbase : attributeBase o "replace" X.env (eval o X.env) = eval o X.env := by rfl) (hline : (apos.endLine == pos.line) = true := by rfl) :
    DET X W (.Call (.Attribute o "replace" apos) [.Constant (.str y) j c0, .Constant (.str z) k c1] [] pos) (CwR.tReplC to y z) (fRepl y z fo) := ⟨CwR.pet_replC ho.pe hyz hst hbase hline, sem_repl ho.sem⟩
theorem det_replT (ho : DET X W o to fo) (hyz : (y == z) = false := by decide)
    (hst : starEach [.Constant (.str y) j c0, .Constant (.str z) k c1] X.env = [(false, eval (.Constant (.str y) j c0) X.env), (false, eval (.Constant (.str z) k c1) X.env)] := by rfl)
    (hbase : attributeBase o "replace" X.env (eval o X.env) = eval o X.env := by rfl) (hline : (apos.endLine == pos.line) = true := by rfl) :
    DET X W (.Call (.Attribute o "replace" apos) [.Constant (.str y) j c0, .Constant (.str z) k c1] [] pos) (CwR.tReplC to y z) (fRepl y z fo) := ⟨CwR.pet_replT ho.pet hyz hst hbase hline, sem_repl ho.sem⟩
theorem det_cmp {op : CmpOp} {r : R2} {g : D → D → R} (ho : OpR X (compareOp op) r ∧ OpSem X.K r g) (ha : DE X W a ta fa) (hb : DET X W b tb fb) (hm : behindInMarks op b = false := by first | exact nomark _ | rfl) : DET X W (.Compare a [op] [b] pos) (tOp r ta tb) (fOp g fa fb) := by
  refine ⟨fun pins s σ H Q h0 I h => ?_, sem_op ho.2 ha.sem hb.sem⟩
  refine wpAny_Compare1 (wpAny_mono (PySem.wpAny_toks (ha.pe.run pins s σ H _ I h)) (fun v s1 q => ?_) fun _ _ z => z.2) hm
  obtain ⟨hk, x, H1, I1, r1, q1⟩ := q
  exact thn (hb.pet pins s1 σ H1 _ (Nat.le_trans h0 hk) I1 q1) fun u s2 ⟨y, H2, I2, r2, q2⟩ => ho.1 pins s2 σ H2 x y v u Q I2 r1 r2 q2
theorem det_and (ha : DET X W a ta fa) (hb : DE X W (.BoolOp .And (b :: es) pos) tb fb) : DET X W (.BoolOp .And (a :: b :: es) pos) (tAndV ta tb) (fAnd fa fb) := by
  refine ⟨fun pins s σ H Q h0 I h => ?_, fun H0 G H σ δ Q S q =>
  ha.sem H0 G H σ δ _ S (cnd_v q (fun G1 H1 e q1 => ⟨true, rfl, iteT (hb.sem H0 G1 H1 σ δ Q (S.go e) q1)⟩) fun G1 H1 e q1 => ⟨false, rfl, iteF (RQ.here e.s q1 rfl)⟩)⟩
  refine BoolOp_and (thn (ha.pet pins s σ H _ h0 I h) fun v s1 ⟨x, H1, I1, r1, q1⟩ => ?_)
  obtain ⟨c, rfl, q1⟩ := q1
  cases r1
  refine wpAny_truthy_bool ?_
  cases c with
  | true => exact hb.pe.run pins s1 σ H1 Q I1 q1
  | false => exact ⟨.bl false, H1, I1, rfl, q1⟩
theorem dst_ret (he : DET X W e te fe) : DST X W (.Return (some e) pos) (tRet te) (fRet fe) := ⟨CwR.pst_ret he.pet, fun G0 H0 D H σ δ S q => by
  obtain ⟨G, e0, St0⟩ := id S
  refine he.sem H0 G H σ δ _ St0 ?_
  unfold fRet at q
  split at q
  · rename_i d hd
    rw [hd]
    exact fun v G' H' e1 r1 => q v G' H' (e0.trans e1) r1
  · rename_i d hd
    rw [hd]
    exact fun p xs G' H' e1 h1 h2 h3 h4 => q p xs G' H' (e0.trans e1) (Same.free e0.h h1) h2 h3 h4
  · rename_i c hd
    exact exc_q hd fun H' C h hm => q _ _ C (S.go h) hm
  · exact q.elim⟩
theorem dsst_one (h1 : DST X W st t F) : DSsT X W [st] t F := ⟨CwR.psst_one h1.pst, h1.sem⟩
theorem dsst_cons (h1 : DST X W st t F) (h2 : DSsT X W rest u F2) : DSsT X W (st :: rest) (tSeq t u) (fSeq F F2) := ⟨psst_cons h1.pst h2.psst, sem_seq h1.sem h2.sem⟩
/-- x = a number op e: behind it a token is out -/
theorem dss_tok (i : Nat) {op : Operator} {r : R2} {g : D → D → R} {n : Int} {x : Str} {pos' ppos : Pos} (hN : X.N.Nodup) (ho : OpR X (binaryOp op) r ∧ OpSem X.K r g) (hb : DE X W b tb fb) (h2 : DSsT X W rest u F2)
    (hi : X.N[i]? = some x := by rfl) (hx : Loc X.env.scope x := by first | exact .inl rfl | exact .inr rfl) (hs : swapsWith (.BinOp (.Constant (.int n) j c0) op b ppos) (some (.Name x pos')) pos.line X.env = pure false := by rfl) (hf : X.fn x = true ∨ X.env.scope.names.lookup x = some .local := by first | exact .inl rfl | exact .inr rfl) :
    DSs X W (.Assign [.Name x pos'] (.BinOp (.Constant (.int n) j c0) op b ppos) pos :: rest) (tSeq (tAsg (tOp r (tC (.int n)) tb) (gName i)) u) (fSeq (fSet i (fOp g (fC (.int n)) fb)) F2) := by
  have hc : DE X W (.Constant (.int n) j c0) (tC (.int n)) (fC (.int n)) := de_int
  refine ⟨⟨fun pins s σ H D I h => ?_⟩, sem_seq (sem_set (sem_op ho.2 hc.sem hb.sem)) h2.sem⟩
  refine wpAny_execs_cons (wpAny_Assign_Name (wpAny_BinOp (wpAny_Constant_int ?_)) hs)
  refine wpAny_mono (PySem.wpAny_toks (hb.pe.run pins _ σ H _ (I.tok (s.toks + 1)) h)) (fun v s1 q => ?_) fun _ _ z => z.2
  obtain ⟨hk, y, H1, I1, r1, q1⟩ := q
  refine wpAny_mono (PySem.wpAny_toks (ho.1 pins s1 σ H1 (V.int n) y (.int n s.toks) v _ I1 ⟨_, rfl⟩ r1 q1)) (fun v2 s2 q => ?_) fun _ _ z => z.2
  obtain ⟨hk2, z, H2, I2, r2, q2⟩ := q
  refine wpAny_mono (PySem.wpAny_toks (store_ok (v := z) (u := v2) (Q := fun _ s3 => Inv X pins (σ.set i (some z)) H2 s3) I2 hN hi hx r2 (fun _ I3 => I3) hf)) (fun _ s3 q => ?_) fun _ _ z => z.2
  have hk3 : s.toks + 1 ≤ s1.toks := hk
  exact h2.psst pins s3 _ H2 D (by have := q.1; omega) q.2 q2
end
end DL
set_option Elab.async false
set_option linter.all false
set_option maxRecDepth 100000
set_option maxHeartbeats 4000000
/-! dicts with tuples of numbers as keys: a display, reading, told as a thing, walked -/
namespace DL
open PySem PySem.Spec PyProof.Rows L2
section
variable {X : Cx} {pins : List (Addr × Obj)} {σ : L2.St} {H : Hp} {s : Shared}
theorem d_dictSetT {E : Value → Shared → Prop} {d b : Addr} {kvs : List (List Key × V)} {k : List Key} {v : V} {r : Value} {Q : Unit → Shared → Prop} (hu : X.A.units < cLine) (I : Inv X pins σ H s) (hD : H d = some (.dT kvs)) (hz : kvs.length < sizeLine) (eb : H b = some (.tup (k.map kV))) (rv : RelV v r)
    (h : ∀ s', Inv X pins σ (upd H d (.dT (putK kvs k v))) s' → Q () s') : wpAny (model X.prog X.w) X.A (dictSet d (.ref b) r) Q E s := by
  obtain ⟨z, hd, xs, rel, dd⟩ := dt_of I.hok hD
  have hz' : xs.length ≤ sizeLine := by rw [← Paired.length rel]; exact z
  have hl : (putK kvs k v).length ≤ sizeLine := by have := length_putK kvs k v; omega
  refine wpAny_dictSet_heap (hsz := hz') (show (tupleKind (mixKind X.prog X.w)).room X.A from hu) (key_of I.hok eb) dd fun h' dd' hs => h _ ?_
  obtain ⟨q, es, ep, hq, h2, h3, h4, _, h5⟩ := dd'
  refine d_write I (by rw [hD]; exact True.intro) hs ⟨q, hq⟩ ⟨hl, hd, _, (rel.put k eb rv).keeps fun c ys ec => ?_, q, es, ep, hq, h2, h3, h4, h5⟩
  rw [upd_ne (ne_of ec hD (fun z => nomatch z))]
  exact ec
/-- {k: v}, k a tuple of numbers -/
def tDisp1 (tk tv : TE) : TE := fun σ H Q => ∀ p, H p = none → tk σ (upd H p (.dT [])) fun x H1 => tv σ H1 fun y H2 => H2 p = some (.dT []) ∧ ∃ (b : Addr) (ks : List Key), x = .ref b ∧ H2 b = some (.tup (ks.map kV)) ∧ Q (.ref p) (upd H2 p (.dT [(ks, y)]))
theorem pe_disp1 {k v : Expr} {tk tv : TE} {pos : Pos} (hu : X.A.units < cLine) (hk : PE X k tk) (hv : PE X v tv) : PE X (.Dict [some k] [v] pos) (tDisp1 tk tv) := by
  refine ⟨fun pins s σ H Q I q => ?_⟩
  have hn := I.hok.fresh (Nat.le_refl s.heap.objs.size)
  have I1 := I.laid (a := s.heap.objs.size) (o := .dT []) (h' := s.heap.push { cls := .type "dict", data := .dict #[] }) (t' := s.toks) (fun _ _ q => Heap.get?_push_of_some _ q) (Nat.le_refl _) (dt_empty s.heap I.big)
  refine wpAny_Dict_any rfl rfl (by simp) (by simp) (pairTrees_cons_walk (thn (hk.run pins _ σ _ _ I1 (q _ hn)) fun u s1 ⟨x, H1, I1', rx, q1⟩ => thn (hv.run pins s1 σ H1 _ I1' q1) fun w2 s2 ⟨y, H2, I2, ry, e, b, ks, ex, eb, q2⟩ => pairTrees_nil_walk ?_))
  subst ex
  cases rx
  unfold storeAll
  rw [List.forIn_cons]
  refine wpAny_bind (wpAny_bind (d_dictSetT hu I2 e (by rw [sizeLine_eq]; exact Nat.zero_lt_succ _) eb ry fun s' I' => wpAny_pure ?_))
  dsimp only
  rw [List.forIn_nil]
  exact wpAny_pure ⟨.ref s.heap.objs.size, _, I', rfl, q2⟩
end
section
variable {K : PySem.W.Frag} {X : Cx} {W : WX} {mg : Str → Option Value} {e ie : Expr} {te ti to tk : TE} {fe fi fo fk : List Sl → R} {pos o1 pos' spos : Pos} {x : Str} {o k : Expr}
def fNewD1 (i : Nat) (fk fe : List Sl → R) : List Sl → Fl := fun δ => match fk (thaw δ), fe (thaw δ) with
  | .ok (.tuple ds), .ok d => (match intsOf ds, Sc.of d with
    | some k, some s => if i < δ.length ∧ (δ.set i .un).all Sl.cold = true then .nx (δ.set i (.dct [(k, s)])) else .bad
    | _, _ => .bad)
  | _, _ => .bad
theorem ds_newD1 (i : Nat) (hu : X.A.units + 64 < cLine) (hN : X.N.Nodup) (hk : DE X W k tk fk) (he : DE X W e te fe) (hi : X.N[i]? = some x := by rfl) (hx : Loc X.env.scope x := by first | exact .inl rfl | exact .inr rfl) (hs : swapsWith (.Dict [some k] [e] o1) (some (.Name x pos')) pos.line X.env = pure false := by rfl) (hf : X.fn x = true ∨ X.env.scope.names.lookup x = some .local := by first | exact .inl rfl | exact .inr rfl) (hfx : fxOn = false := by rfl) :
    DS X W (.Assign [.Name x pos'] (.Dict [some k] [e] o1) pos) (tAsg (tDisp1 tk te) (gName i)) (fNewD1 i fk fe) := ⟨ps_set hN hi hx (pe_disp1 (by omega) hk.pe he.pe) hs hf, fun G0 H0 D H σ δ S q => by
  obtain ⟨G, e0, St0⟩ := id S
  unfold fNewD1 at q
  split at q
  · rename_i ds d hks hd
    split at q
    · rename_i kk sc hki hsc
      obtain ⟨⟨hl, hc⟩, q⟩ := fq_if q
      intro p hp
      have own : Ext G H G (upd H p (.dT [])) := Ext.own St0.s hp
      have St1 := St0.go own
      refine hk.sem H0 _ _ σ (thaw δ) _ St1.thaw ?_
      rw [hks]
      intro v G1 H1 e1 rv
      obtain ⟨b, xs, rfl, hb | ⟨f, _⟩, r2⟩ := rv
      rotate_left
      · rw [hfx] at f; cases f
      have ed := ints_of hki
      subst ed
      have ex := r2.ints
      subst ex
      have b1 : Ext G (upd H p (.dT [])) G H1 := same_ext St1.s e1.h
      have St2 := St1.go b1
      refine he.sem H0 _ _ σ (thaw δ) _ St2.thaw ?_
      rw [hd]
      intro y G2 H2 e2 ry
      obtain ⟨hf', hsv⟩ := sc_of (K := X.K) hsc
      have ey := hsv _ _ ry
      have b2 : Ext G H1 (tupsOf G H2) H2 := tupsOf_ext St2.s e2.h
      have hp0 : H0 p = none := Same.free St0.b hp
      have hG : G p = none := Same.free St0.s hp
      have hH2 : H2 p = some (.dT []) := e2.h _ _ (e1.h _ _ upd_same)
      have hG2 : tupsOf G H2 p = none := b2.n p hG (mut_dT (e1.h _ _ upd_same))
      have hkey : H2 b = some (.tup ((kk.map Sum.inl).map kV)) := by rw [keyV]; exact e2.h _ _ (e1.s _ _ hb)
      have Sd := ((St0.newd (i := i) hp).go b1).go b2
      refine ⟨hH2, b, kk.map Sum.inl, rfl, hkey, ?_⟩
      rw [ey]
      have hlo : lone i (δ.set i (.dct [])) = true := by
        unfold lone
        rw [List.set_set]
        exact hc
      have w := Sd.wdct (m' := [(kk, sc)]) hlo (List.getElem?_set_self hl) (List.getElem?_set_self (by rw [St0.l]; exact hl)) hp0 hG2 hH2
      rw [List.set_set] at w
      exact q _ _ ⟨tupsOf G H2, (((e0.trans own).trans b1).trans b2).write hp0 hG2, w⟩
    · exact q.elim
  · exact q.elim⟩
/-- x[k], x a dict of one's own -/
def Dm.get (m : Dm) (k : List Int) : Option Sc := (m.find? fun p => decide (p.1 = k)).map (·.2)
theorem val_get (k : List Int) : ∀ m : Dm, valV m.w (k.map Sum.inl) = (m.get k).map Sc.v
  | [] => rfl
  | p :: m => by
    have ih := val_get k m
    unfold valV Dm.get Dm.w at ih ⊢
    rw [List.map_cons, List.find?_cons, List.find?_cons]
    by_cases e : p.1 = k
    · simp [e]
    · have : ¬ p.1.map (Sum.inl (β := Str)) = k.map Sum.inl := fun h => e (inl_inj h)
      simp only [e, this, decide_false]
      exact ih
theorem sc_rep {G : Hp} (s : Sc) : Rep K G s.d s.v := by
  cases s with
  | i n => rfl
  | b x => rfl
def gGet (m : Dm) : D → R
  | .tuple ds => (match intsOf ds with
    | some k => (match m.get k with
      | some s => .ok s.d
      | none => .bad)
    | none => .bad)
  | _ => .bad
def fGetD (j : Nat) (fe : List Sl → R) : List Sl → R := fun δ => match δ[j]? with
  | some (.dct m) => (fe δ).bind (gGet m)
  | some (.rd m) => (fe δ).bind (gGet m)
  | _ => .bad
theorem get_key {G H : Hp} {a : Addr} {m : Dm} {d : D} {v : V} {E : XK} {Q : VK} (hfx : fxOn = false) (s : Same G H) (ha : Rd H a (.dT m.w)) (r : Rep K G d v) (q : RQ K mg E G H Q (gGet m d)) : ∃ v', DGet H a v (some v') ∧ Q v' H := by
  unfold gGet at q
  split at q
  · rename_i ds
    obtain ⟨p, xs, rfl, h1 | ⟨f, _⟩, r2⟩ := r
    rotate_left
    · rw [hfx] at f; cases f
    split at q
    · rename_i kk hk
      have ed := ints_of hk
      subst ed
      have ex := r2.ints
      subst ex
      split at q
      · rename_i sc hsc
        have hkey : H p = some (.tup ((kk.map Sum.inl).map kV)) := by rw [keyV]; exact s _ _ h1
        refine ⟨sc.v, .inr ⟨m.w, kk.map Sum.inl, p, ha, rfl, hkey, ?_⟩, RQ.here s q (sc_rep sc)⟩
        rw [val_get, hsc]
        rfl
      · exact q.elim
    · exact q.elim
  · exact q.elim
theorem de_getD (j : Nat) (hu : X.A.units + 64 < cLine) (hi : DE X W ie ti fi) (hN : X.N[j]? = some x := by rfl) (hv : Vis X.env.scope x := by first | exact Or.inl rfl | exact Or.inr (Or.inl rfl) | exact Or.inr (Or.inr rfl)) (hd : (x == ("__debug__" : Str)) = false := by decide) (hcd : (x == ("__classdict__" : Str)) = false := by decide)
    (hs : NoSl ie := by exact fun _ _ => rfl) (hfx : fxOn = false := by rfl) :
    DE X W (.Subscript (.Name x o1) ie pos) (tDGet (tVar j) ti) (fGetD j fi) := ⟨pe_dget (by omega) (pv j hN hv hd hcd) hi.pe hs, fun H0 G H σ δ Q S q => by
  unfold fGetD at q
  have key : ∀ (m : Dm) (a : Addr), σ[j]? = some (some (.ref a)) → Mut (H a) → H a = some (.dT m.w) → RQ X.K X.mg (WE W σ) G H Q ((fi δ).bind (gGet m)) → tDGet (tVar j) ti σ H Q := fun m a e1 mu ha q => by
    refine ⟨.ref a, e1, hi.sem H0 G H σ δ _ S (RQ.bind q fun d v G1 H1 e2 r1 q1 => ?_)⟩
    obtain ⟨v', g, q2⟩ := get_key hfx e2.s (Or.inl (e2.h _ _ ha)) r1 q1
    exact ⟨a, v', rfl, g, q2⟩
  split at q
  · rename_i m hδ
    obtain ⟨o, e1, a, rfl, _, _, ha⟩ := S.at hδ
    exact key m a e1 (mut_dT ha) ha q
  · rename_i m hδ
    obtain ⟨o, e1, a, rfl, ha⟩ := S.at hδ
    exact key m a e1 (mut_dT ha) ha q
  · exact q.elim⟩
/-! ### a dict as a thing -/
def decD : List (D × D) → Option Dm
  | [] => some []
  | (.tuple ds, d) :: r => (match intsOf ds, Sc.of d, decD r with
    | some k, some s, some m => some ((k, s) :: m)
    | _, _, _ => none)
  | _ => none
theorem intsOf_map : ∀ l : List Int, intsOf (l.map PyData.int) = some l
  | [] => rfl
  | x :: l => by
    have ih := intsOf_map l
    rw [List.map_cons]
    unfold intsOf
    rw [ih]
    try rfl
theorem dec_enc : ∀ m : Dm, decD (encD m) = some m
  | [] => rfl
  | (k, s) :: m => by
    have ih := dec_enc m
    unfold encD at ih ⊢
    rw [List.map_cons]
    unfold decD
    have h1 : intsOf (k.map .int) = some k := intsOf_map k
    have h2 : Sc.of s.d = some s := by cases s <;> rfl
    rw [h1, h2, ih]
theorem rep_dct {G : Hp} {kvs : List (D × D)} {v : V} {m : Dm} (r : Rep K G (.dict kvs) v) (h : decD kvs = some m) (h0 : m ≠ []) : ∃ (a : Addr) (o : Obj), v = .ref a ∧ G a = some (.frz o (.dT m.w)) := by
  rcases r with ⟨rfl, _⟩ | ⟨_, _, rfl, _⟩ | ⟨_, _, _, _, rfl, _⟩ | ⟨m', a, o, _, rfl, rfl, hG⟩ | ⟨_, _, _, _, rfl, _⟩
  · cases h
    exact absurd rfl h0
  · cases h
  · cases h
  · rw [dec_enc] at h
    cases h
    exact ⟨a, o, rfl, hG⟩
  · cases h
/-- return x, x a dict of one's own -/
def fRetD (i : Nat) : List Sl → Fl := fun δ => match δ[i]? with
  | some (.dct m) => if m ≠ [] then .rt (.dict (encD m)) else .bad
  | _ => .bad
def tRetL (i : Nat) : TS := fun D σ H => ∃ (p : Addr) (kvs : List (List Key × V)), σ[i]? = some (some (.ref p)) ∧ H p = some (.dT kvs) ∧ ∀ o, D.rt (.ref p) (upd H p (.frz o (.dT kvs)))
theorem ps_retL {i : Nat} (he : PE X e (tVar i)) : PS X (.Return (some e) pos) (tRetL i) := ⟨fun pins s σ H D I h => by
  obtain ⟨p, kvs, h1, h2, q⟩ := h
  refine wpAny_Return_some (thn (he.run pins s σ H (fun v H' => v = .ref p ∧ H' = H) I ⟨.ref p, h1, rfl, rfl⟩) fun v s1 ⟨x, H1, I1, r1, ex, eH⟩ => ?_)
  subst ex eH
  obtain ⟨od, I2⟩ := I1.lock h2 trivial
  exact ⟨.ref p, σ, _, I2, r1, q od⟩⟩
theorem Ext.keep {G0 H0 G H : Hp} {p : Addr} {o : HO} (e : Ext G0 H0 G H) (h0 : H0 p = none) (hG : G p = none) : Ext G0 H0 (upd G p o) (upd H p o) :=
  ⟨e.g.trans (same_new hG), fun b u q => by rw [upd_ne (ne_of_none q h0)]; exact e.h b u q, same_upd2 e.s, fun a z m => by
    have ha : a ≠ p := fun ha => by rw [ha, h0] at m; exact m.elim
    rw [upd_ne ha]
    exact e.n a z m⟩
theorem ds_retD (i : Nat) (hN : X.N[i]? = some x := by rfl) (hv : Vis X.env.scope x := by first | exact Or.inl rfl | exact Or.inr (Or.inl rfl) | exact Or.inr (Or.inr rfl)) (hd : (x == ("__debug__" : Str)) = false := by decide)
    (hcd : (x == ("__classdict__" : Str)) = false := by decide) : DS X W (.Return (some (.Name x pos')) pos) (tRetL i) (fRetD i) := ⟨ps_retL (pv i hN hv hd hcd), fun G0 H0 D H σ δ S q => by
  obtain ⟨G, e0, St0⟩ := id S
  unfold fRetD at q
  split at q
  · rename_i m hδ
    obtain ⟨m0, q⟩ := fq_if q
    obtain ⟨o, e1, p, rfl, h0, hG, hH⟩ := St0.at hδ
    exact ⟨p, m.w, e1, hH, fun o => q (.ref p) _ _ (e0.keep h0 hG) (.inr (.inr (.inr (.inl ⟨m, p, o, m0, rfl, rfl, upd_same⟩))))⟩
  · exact q.elim⟩
/-- d[k], d a thing -/
def fDGet (fo fi : List Sl → R) : List Sl → R := fun δ => (fo δ).bind fun a => match a with
  | .dict kvs => (match decD kvs with
    | some m => if m ≠ [] then (fi δ).bind (gGet m) else .bad
    | none => .bad)
  | _ => .bad
theorem de_dget (hu : X.A.units + 64 < cLine) (ho : DE X W o to fo) (hi : DE X W ie ti fi) (hs : NoSl ie := by exact fun _ _ => rfl) (hfx : fxOn = false := by rfl) : DE X W (.Subscript o ie pos) (tDGet to ti) (fDGet fo fi) := ⟨pe_dget (by omega) ho.pe hi.pe hs, fun H0 G H σ δ Q S q => by
  refine ho.sem H0 G H σ δ _ S (RQ.bind q fun d v G1 H1 e1 r1 q1 => ?_)
  split at q1
  · split at q1
    · rename_i m hm
      obtain ⟨m0, q1⟩ := rq_if q1
      obtain ⟨a, ob, rfl, ha⟩ := rep_dct r1 hm m0
      refine hi.sem H0 G1 H1 σ δ _ (S.go e1) (RQ.bind q1 fun d2 v2 G2 H2 e2 r2 q2 => ?_)
      obtain ⟨v', g, q3⟩ := get_key hfx e2.s (Or.inr ⟨ob, e2.s _ _ (e2.g _ _ ha)⟩) r2 q2
      exact ⟨a, v', rfl, g, q3⟩
    · exact q1.elim
  · exact q1.elim⟩
def keysD (m : Dm) : List D := m.map fun p => .tuple (p.1.map .int)
def gKeys : D → RL
  | .dict kvs => (match decD kvs with
    | some m => if m ≠ [] then .ok (keysD m) else .bad
    | none => .bad)
  | _ => .bad
def fKeysI (fe : List Sl → R) : List Sl → RL := fun δ => RL.to2 (fe δ) gKeys
theorem tups_at {G H : Hp} {a : Addr} {xs : List V} (h : H a = some (.tup xs)) : tupsOf G H a = some (.tup xs) := by
  unfold tupsOf
  simp only [h]
theorem tups_frz {G H : Hp} {a : Addr} {o : Obj} {u : HO} (h : H a = some (.frz o u)) : tupsOf G H a = some (.frz o u) := by
  unfold tupsOf
  simp only [h]
theorem keysD_len (m : Dm) : (keysD m).length = m.w.length := by unfold keysD Dm.w; rw [List.length_map, List.length_map]
theorem gives_keys {G : Hp} {a : Addr} {o : Obj} {m : Dm} (h : G a = some (.frz o (.dT m.w))) : Gives K (Itkt a o m.w) G (keysD m) where
  stop := fun i H s hi => ⟨s _ _ h, by rw [← keysD_len]; exact Nat.le_of_eq hi⟩
  go := fun i H s hi => ⟨s _ _ h, by rw [← keysD_len]; exact hi⟩
  yld := fun i G1 H z H' d s1 s2 hd hy => by
    obtain ⟨rfl, kk, v, q, hk, rfl, hq⟩ := hy
    refine ⟨tupsOf G1 H', tupsOf_ext s2 (Same.refl _), ?_⟩
    unfold keysD at hd
    unfold Dm.w at hk
    rw [List.getElem?_map] at hd hk
    cases hm : m[i]? with
    | none => rw [hm] at hk; cases hk
    | some p =>
      rw [hm] at hk hd
      cases hk
      cases hd
      rw [keyV] at hq
      exact ⟨q, _, rfl, .inl (tups_at hq), RepL.of_ints _⟩
theorem di_keys {tg : Expr} (he : DE X W e te fe) : DI X W tg e (iKeys te) (fKeysI fe) := ⟨pi_keys he.pe, fun H0 G H σ δ Q S q => by
  refine he.sem H0 G H σ δ _ S (to2_q q fun d v G1 H1 e1 r1 q1 => ?_)
  unfold gKeys at q1
  split at q1
  · split at q1
    · rename_i m hm
      by_cases m0 : m ≠ []
      · rw [if_pos m0] at q1
        obtain ⟨a, ob, rfl, ha⟩ := rep_dct r1 hm m0
        exact ⟨a, ob, rfl, .inr ⟨m.w, e1.s _ _ ha, IQ.here e1.s q1 (gives_keys ha)⟩⟩
      · rw [if_neg m0] at q1
        exact q1.elim
    · exact q1.elim
  · exact q1.elim⟩
def gListD : List D → R
  | [.dict kvs] => (match decD kvs with
    | some m => if m ≠ [] then .new (keysD m) else .bad
    | none => .bad)
  | _ => .bad
def rListD : List V → Hp → VK → Prop := fun xs H Q => ∃ d kvs, xs = [V.ref d] ∧ Rd H d (.dT kvs) ∧ ∀ p bs, H p = none → IsKeys H kvs bs → Q (.ref p) (upd H p (.lst (bs.map V.ref)))
theorem keys_rep {G H : Hp} : ∀ {m : Dm} {bs : List Addr}, IsKeys H m.w bs → RepL K (tupsOf G H) (keysD m) (bs.map V.ref)
  | [], _, h => by
    unfold IsKeys Dm.w at h
    cases h
    rfl
  | p :: m, _, h => by
    unfold IsKeys Dm.w at h
    rw [List.map_cons] at h
    cases h with
    | cons h1 h2 =>
      rw [keyV] at h1
      exact ⟨_, _, rfl, ⟨_, _, rfl, .inl (tups_at h1), RepL.of_ints _⟩, keys_rep (m := m) h2⟩
theorem c_listD (hc : X.calm = true) : CallR X (.type "list") rListD ∧ CallSem X.K rListD gListD := by
  refine ⟨call_list_dT hc, fun mg E G H ds vs Q s rs q => ?_⟩
  unfold gListD at q
  split at q
  · split at q
    · rename_i m hm
      obtain ⟨m0, q⟩ := rq_if q
      obtain ⟨x, rfl, rx⟩ := repL1 rs
      obtain ⟨a, ob, rfl, ha⟩ := rep_dct rx hm m0
      refine ⟨a, m.w, rfl, .inr ⟨ob, s _ _ ha⟩, fun p bs hp hk => ?_⟩
      have e1 := tupsOf_ext s (Same.refl H)
      exact q p _ _ _ (e1.trans (Ext.own e1.s hp)) hp (Same.free e1.s hp) upd_same (keys_rep hk)
    · exact q.elim
  · exact q.elim
def gLenD : List D → R
  | [.dict kvs] => (match decD kvs with
    | some m => if m ≠ [] then .ok (.int m.length) else .bad
    | none => .bad)
  | _ => .bad
def rLenD : List V → Hp → VK → Prop := fun xs H Q => ∃ (p : Addr) (kvs : List (List Key × V)), xs = [.ref p] ∧ Rd H p (.dT kvs) ∧ Q (.int ((kvs.length : Nat) : Int)) H
theorem call_lenD : CallR X (.builtin "len") rLenD := by
  intro pins s σ H xs us Q I r h
  obtain ⟨p, kvs, rfl, hp, q⟩ := h
  obtain ⟨u, rfl, rx⟩ := vals1 r
  cases rx
  obtain ⟨z, hd, ys, rel, dd⟩ := dt_rd I.hok hp
  have hl : kvs.length = ys.length := Paired.length rel
  refine call_len_dictH hd dd (by rw [← hl]; rw [sizeLine_eq] at z; omega) ?_
  rw [← hl]
  exact ⟨.int ((kvs.length : Nat) : Int), H, I.tok _, ⟨_, rfl⟩, q⟩
theorem c_lenD : CallR X (.builtin "len") rLenD ∧ CallSem X.K rLenD gLenD := by
  refine ⟨call_lenD, fun mg E G H ds vs Q s rs q => ?_⟩
  unfold gLenD at q
  split at q
  · split at q
    · rename_i m hm
      obtain ⟨m0, q⟩ := rq_if q
      obtain ⟨x, rfl, rx⟩ := repL1 rs
      obtain ⟨a, ob, rfl, ha⟩ := rep_dct rx hm m0
      refine ⟨a, m.w, rfl, .inr ⟨ob, s _ _ ha⟩, RQ.here s q ?_⟩
      unfold Dm.w
      rw [List.length_map]
      rfl
    · exact q.elim
  · exact q.elim
end
end DL
set_option Elab.async false
set_option linter.all false
set_option maxRecDepth 100000
set_option maxHeartbeats 4000000
/-! racks: their fields, methods, making -/
namespace DL
open PySem PySem.Spec PyProof.Rows L2
section
variable {K : PySem.W.Frag} {X : Cx} {W : WX} {mg : Str → Option Value} {o e : Expr} {to te : TE} {fo fe : List Sl → R} {pos apos : Pos} {f m : Str}
def gFld (i : Nat) : D → R
  | .dict [(.bool false, x), (.bool false, y), (.bool false, z)] => (match i with
    | 0 => .ok x
    | 1 => .ok y
    | _ => .ok z)
  | _ => .bad
def fName : Nat → Str
  | 0 => "chests"
  | 1 => "stands"
  | _ => "done_so_far"
theorem rep_rk {G : Hp} {x y z : D} {v : V} (r : Rep K G (.dict [(.bool false, x), (.bool false, y), (.bool false, z)]) v) : ∃ (css rss dss : List (List Int)) (a : Addr), v = .ref a ∧ RkAt K G css rss dss a ∧ x = lsD css ∧ y = tsD rss ∧ z = tsD dss := by
  rcases r with ⟨e, _⟩ | ⟨_, _, e, _⟩ | ⟨_, _, _, _, e, _⟩ | ⟨m, _, _, _, e, _⟩ | ⟨css, rss, dss, a, e, rfl, h⟩
  · cases e
  · cases e
  · cases e
  · cases m with
    | nil => cases e
    | cons p m => unfold encD at e; rw [List.map_cons] at e; injection e with e _; injection e with e _; cases e
  · cases e
    exact ⟨css, rss, dss, a, rfl, h, rfl, rfl, rfl⟩
theorem ls_rep {G : Hp} : ∀ {css : List (List Int)} {xs : List V}, LsAt G css xs → RepL K G (css.map fun c => .list (c.map .int)) xs
  | [], _, h => by cases h; rfl
  | c :: css, _, h => by
    cases h with
    | cons h t =>
      obtain ⟨p, rfl, e⟩ := h
      exact ⟨_, _, rfl, ⟨p, _, rfl, e, RepL.of_ints c⟩, ls_rep (css := css) t⟩
theorem ts_rep {G : Hp} : ∀ {rss : List (List Int)} {xs : List V}, TsAt G rss xs → RepL K G (rss.map fun c => .tuple (c.map .int)) xs
  | [], _, h => by cases h; rfl
  | c :: rss, _, h => by
    cases h with
    | cons h t =>
      obtain ⟨p, rfl, e⟩ := h
      exact ⟨_, _, rfl, ⟨p, _, rfl, e, RepL.of_ints c⟩, ts_rep (rss := rss) t⟩
def fFld (i : Nat) (fe : List Sl → R) : List Sl → R := fun δ => (fe δ).bind (gFld i)
theorem de_fld (i : Nat) (he : DE X W e te fe) (hb : attributeBase e f X.env (eval e X.env) = eval e X.env := by rfl) (hf : f = fName i := by rfl) : DE X W (.Attribute e f pos) (tFld X.K te f) (fFld i fe) := ⟨pe_fld he.pe hb, fun H0 G H σ δ Q S q => by
  refine he.sem H0 G H σ δ _ S (RQ.bind q fun d v G1 H1 e1 r1 q1 => ?_)
  unfold gFld at q1
  split at q1
  · obtain ⟨css, rss, dss, a, rfl, ⟨C, dx, p1, p2, p3, xs1, xs2, xs3, c, ei, a1, a2, a3, l1, l2, l3⟩, rfl, rfl, rfl⟩ := rep_rk r1
    have eh := e1.s _ _ ei
    subst hf
    match i, q1 with
    | 0, q1 => exact ⟨a, C, dx, _, .ref p1, rfl, eh, c.cl, c.at1, rfl, RQ.here e1.s q1 ⟨p1, xs1, rfl, a1, ls_rep l1⟩⟩
    | 1, q1 => exact ⟨a, C, dx, _, .ref p2, rfl, eh, c.cl, c.at2, rfl, RQ.here e1.s q1 ⟨p2, xs2, rfl, a2, ts_rep l2⟩⟩
    | n + 2, q1 => exact ⟨a, C, dx, _, .ref p3, rfl, eh, c.cl, c.at3, rfl, RQ.here e1.s q1 ⟨p3, xs3, rfl, a3, ts_rep l3⟩⟩
  · exact q1.elim⟩
/-! ### methods that read -/
structure CalM (P : Program) (w : World) (K : PySem.W.Frag) (mg : Str → Option Value) (base : Heap) (k : Nat) (C : Addr) (m : Str) (n : Nat) (f : List D → R) : Prop where
  nm : PySem.W.nsIn K mainGlobals "Rack" = some (some (.ref C))
  cl : Cls K C
  ex : ∃ fa fd ps, ps.length = n ∧ Meth K C m fa ∧ FnOk P w K mg base (L2N.CX P w) k fa fd ps (spD K mg n f) ∧ Binds K fd ps []
  len : ∀ ds, f ds ≠ .bad → ds.length = n
  no : ∀ a b c : V, List.lookup m [(("chests" : Str), a), ("stands", b), ("done_so_far", c)] = none
/-- o.m(..): as tMeth, what exceptions want told by the slots -/
def tMethS (C : Addr) (m : Str) (sp : Sp) (E : L2.St → XK) (ta : TE) (t : TA) : TE := fun σ H Q => ta σ H fun x H1 => ∃ (a dx : Addr) (fs : List (Str × V)), x = .ref a ∧ H1 a = some (.ins C dx fs) ∧ fs.lookup m = none ∧ t σ H1 fun vs H2 => sp (x :: vs) H2 Q (E σ)
def fMeth (r : List D → R) (fo : List Sl → R) (fa : List Sl → RL) : List Sl → R := fun δ => (fo δ).bind fun d => match d with
  | .dict [(.bool false, x), (.bool false, y), (.bool false, z)] => (fa δ).to fun ds => r (.dict [(.bool false, x), (.bool false, y), (.bool false, z)] :: ds)
  | _ => .bad
variable {k n : Nat} {C : Addr} {r : List D → R} {es : List Expr} {t : TA} {fa : List Sl → RL} {a1 : Expr}
theorem meth_sem (M : CalM X.prog X.w X.K X.mg X.base k C m n r) (ho : SemE X.K X.mg W to fo) (ha : SemA X.K X.mg W t fa) : SemE X.K X.mg W (tMethS C m (spD X.K X.mg n r) (WE W) to t) (fMeth r fo fa) := fun H0 G H σ δ Q S q => by
  refine ho H0 G H σ δ _ S (RQ.bind q fun d v G1 H1 e1 r1 q1 => ?_)
  split at q1
  · rename_i x y z
    obtain ⟨css, rss, dss, a, rfl, ⟨C', dx, p1, p2, p3, xs1, xs2, xs3, c, ei, _⟩, _⟩ := rep_rk (id r1)
    have eC : C' = C := by
      have := c.nm.symm.trans M.nm
      cases this
      rfl
    subst eC
    refine ⟨a, dx, _, rfl, e1.s _ _ ei, M.no _ _ _, ha H0 G1 H1 σ δ _ (S.go e1) (RL.to_q q1 fun ds vs G2 H2 e2 r2 q2 => ?_)⟩
    have rr : RepL X.K G2 (.dict [(.bool false, x), (.bool false, y), (.bool false, z)] :: ds) (.ref a :: vs) := ⟨_, _, rfl, Rep.mono e2.g _ _ r1, r2⟩
    refine ⟨?_, G2, _, e2.s, rr, q2⟩
    rw [rr.length]
    exact M.len _ fun z => by rw [z] at q2; exact q2
  · exact q1.elim
theorem pm_S {CX : CXT} {fd : FuncData} {ps : List Str} {sp : Sp} {E : L2.St → XK} {g : Addr} {pl : Sem Bool} (he : PE X o to) (c : Cls X.K C) (hm : Meth X.K C m g) (F : FnOk X.prog X.w X.K X.mg X.base CX k g fd ps sp) (hr : Room k X.A) (hb : Binds X.K fd ps []) (hx : ∀ σ, PassesAt CX X σ (E σ)) (ha : PA X (e :: es) t)
    (hst : starEach (e :: es) X.env = (false, eval e X.env) :: starEach es X.env) (hpl : (backTo pos (starEach es X.env)).any (·.1) = false)
    (ht : eval (.Call (.Attribute o m apos) (e :: es) [] pos) X.env = (do
      let ov ← eval o X.env
      standAt apos.atName
      let (f, first) ← holding [ov] (getMethod ov m pl)
      callWith pos f first (backTo pos (starEach (e :: es) X.env)) (backToKw pos (keywordEach [] X.env)))) : PE X (.Call (.Attribute o m apos) (e :: es) [] pos) (tMethS C m sp E to t) := by
  refine ⟨fun pins s σ H Q I h => PySem.W.methodCall_KW (pl := pl) (thn (he.run pins s σ H _ I h) fun u s1 z => ?_) ht⟩
  obtain ⟨x, H1, I1, rx, a, dx, fs, rfl, ea, l, q⟩ := z
  cases rx
  refine getmeth_ok I1 ea c hm l (PySem.W.callWith_K (first := [.ref a]) (h₀ := X.base) I.ok.mod.kin hm.kp (thn (ha.run pos pins s1 σ H1 _ I1 q) fun us s2 z => ?_) hst hpl)
  obtain ⟨vs, H2, I2, r, q2⟩ := z
  exact ⟨I2.kIn, run_fnS F hr hb (hx σ) I2 (show Vals (V.ref a :: vs) (Value.ref a :: us) from .cons rfl r) q2⟩
theorem pm_S0 {CX : CXT} {fd : FuncData} {ps : List Str} {sp : Sp} {E : L2.St → XK} {g : Addr} {pl : Sem Bool} (he : PE X o to) (c : Cls X.K C) (hm : Meth X.K C m g) (F : FnOk X.prog X.w X.K X.mg X.base CX k g fd ps sp) (hr : Room k X.A) (hb : Binds X.K fd ps []) (hx : ∀ σ, PassesAt CX X σ (E σ))
    (ht : eval (.Call (.Attribute o m apos) [] [] pos) X.env = (do
      let ov ← eval o X.env
      standAt apos.atName
      let (f, first) ← holding [ov] (getMethod ov m pl)
      callWith pos f first (backTo pos (starEach [] X.env)) (backToKw pos (keywordEach [] X.env)))) : PE X (.Call (.Attribute o m apos) [] [] pos) (tMethS C m sp E to tNil) := by
  refine ⟨fun pins s σ H Q I h => PySem.W.methodCall_KW (pl := pl) (thn (he.run pins s σ H _ I h) fun u s1 z => ?_) ht⟩
  obtain ⟨x, H1, I1, rx, a, dx, fs, rfl, ea, l, q⟩ := z
  cases rx
  exact getmeth_ok I1 ea c hm l (PySem.W.callWith_K0 (first := [.ref a]) I1.kIn hm.kp (run_fnS F hr hb (hx σ) I1 (show Vals [V.ref a] [Value.ref a] from .cons rfl .nil) q))
theorem de_meth (M : CalM X.prog X.w X.K X.mg X.base k C m n r) (hr : Room k X.A) (tk : L2N.Takes X W) (ho : DE X W o to fo) (ha : DA X W (e :: es) t fa) {pl : Sem Bool}
    (hst : starEach (e :: es) X.env = (false, eval e X.env) :: starEach es X.env := by rfl) (hpl : (backTo pos (starEach es X.env)).any (·.1) = false := by rfl)
    (ht : eval (.Call (.Attribute o m apos) (e :: es) [] pos) X.env = (do
      let ov ← eval o X.env
      standAt apos.atName
      let (f, first) ← holding [ov] (getMethod ov m pl)
      callWith pos f first (backTo pos (starEach (e :: es) X.env)) (backToKw pos (keywordEach [] X.env))) := by rfl) :
    DE X W (.Call (.Attribute o m apos) (e :: es) [] pos) (tMethS C m (spD X.K X.mg n r) (WE W) to t) (fMeth r fo fa) := by
  refine ⟨?_, meth_sem M ho.sem ha.sem⟩
  obtain ⟨fa', fd, ps, hps, hm, F, hb⟩ := M.ex
  exact pm_S (pl := pl) ho.pe M.cl hm F hr hb (L2N.passAt tk) ha.pa hst hpl ht
theorem de_meth0 (M : CalM X.prog X.w X.K X.mg X.base k C m n r) (hr : Room k X.A) (tk : L2N.Takes X W) (ho : DE X W o to fo) {pl : Sem Bool}
    (ht : eval (.Call (.Attribute o m apos) [] [] pos) X.env = (do
      let ov ← eval o X.env
      standAt apos.atName
      let (f, first) ← holding [ov] (getMethod ov m pl)
      callWith pos f first (backTo pos (starEach [] X.env)) (backToKw pos (keywordEach [] X.env))) := by rfl) :
    DE X W (.Call (.Attribute o m apos) [] [] pos) (tMethS C m (spD X.K X.mg n r) (WE W) to tNil) (fMeth r fo fANil) := by
  refine ⟨?_, meth_sem M ho.sem fun H0 G H σ δ Q S q => q _ _ _ (Ext.refl S.s) rfl⟩
  obtain ⟨fa', fd, ps, hps, hm, F, hb⟩ := M.ex
  exact pm_S0 (pl := pl) ho.pe M.cl hm F hr hb (L2N.passAt tk) ht
end
end DL
set_option Elab.async false
set_option linter.all false
set_option maxRecDepth 100000
set_option maxHeartbeats 4000000
/-! racks: made by their __init__ -/
namespace DL
open PySem PySem.Spec PyProof.Rows L2
def decL : List D → Option (List (List Int))
  | [] => some []
  | .list ds :: r => (match intsOf ds, decL r with
    | some c, some cs => some (c :: cs)
    | _, _ => none)
  | _ => none
def decT : List D → Option (List (List Int))
  | [] => some []
  | .tuple ds :: r => (match intsOf ds, decT r with
    | some c, some cs => some (c :: cs)
    | _, _ => none)
  | _ => none
/-- the new rack -/
def rkR (a b : List D) : R := match decL a, decT b with
  | some css, some rss => .ok (.dict (encK css rss []))
  | _, _ => .bad
def Sl.plainS : Sl → Bool
  | .un => true
  | .v _ => true
  | .ob _ => true
  | _ => false
def isOb (x : Addr) : List Sl → Bool
  | .ob y :: _ => decide (y = x)
  | _ => false
theorem isOb_get {x : Addr} {δ : List Sl} (h : isOb x δ = true) : δ[0]? = some (.ob x) := by
  unfold isOb at h
  split at h
  · rw [List.getElem?_cons_zero, of_decide_eq_true h]
  · cases h
def initRun (m : Nat) (F1 F2 : List Sl → Fl) (f1 f2 : List Sl → R) (x : Addr) : List D → R
  | [d] => (match F1 (.ob x :: .v d :: List.replicate m .un) with
    | .nx δ1 => (match F2 δ1 with
      | .nx δ2 => if isOb x δ2 = true ∧ δ2.all Sl.plainS = true then (match f1 δ2, f2 δ2 with
        | .new a, .new b => rkR a b
        | _, _ => .bad) else .bad
      | .exc c _ => .exc c
      | _ => .bad)
    | .exc c _ => .exc c
    | _ => .bad)
  | _ => .bad
section
variable {K : PySem.W.Frag} {mg : Str → Option Value} {N : List Str}
theorem ls_of {G : Hp} : ∀ {ds : List D} {css : List (List Int)} {xs : List V}, decL ds = some css → RepL K G ds xs → LsAt G css xs
  | [], _, _, h, r => by cases h; cases r; exact .nil
  | d :: ds, css, _, h, r => by
    obtain ⟨x, t, rfl, r1, r2⟩ := r
    cases d with
    | list es =>
      unfold decL at h
      cases h1 : intsOf es with
      | none => rw [h1] at h; cases h
      | some c =>
        cases h2 : decL ds with
        | none => rw [h1, h2] at h; cases h
        | some cs =>
          rw [h1, h2] at h
          cases h
          obtain ⟨p, ys, rfl, e, r3⟩ := r1
          have ed := ints_of h1
          subst ed
          have ex := r3.ints
          subst ex
          exact .cons ⟨p, rfl, e⟩ (ls_of h2 r2)
    | _ => cases h
theorem ts_of {G : Hp} : ∀ {ds : List D} {css : List (List Int)} {xs : List V}, decT ds = some css → RepL K G ds xs → TsAt G css xs
  | [], _, _, h, r => by cases h; cases r; exact .nil
  | d :: ds, css, _, h, r => by
    obtain ⟨x, t, rfl, r1, r2⟩ := r
    cases d with
    | tuple es =>
      unfold decT at h
      cases h1 : intsOf es with
      | none => rw [h1] at h; cases h
      | some c =>
        cases h2 : decT ds with
        | none => rw [h1, h2] at h; cases h
        | some cs =>
          rw [h1, h2] at h
          cases h
          obtain ⟨p, ys, rfl, e, r3⟩ := r1
          have ed := ints_of h1
          subst ed
          have ex := r3.ints
          subst ex
          exact .cons ⟨p, rfl, e⟩ (ts_of h2 r2)
    | _ => cases h
theorem St.rebase {H0 G H G' H' : Hp} {σ : L2.St} {δ : List Sl} (S : St K H0 G H σ δ) (hp : δ.all Sl.plainS = true) (g : Same G G') (s : Same G' H') : St K H' G' H' σ δ := by
  have key : ∀ (i : Nat) (sl : Sl), δ[i]? = some sl → sl.plainS = true := fun i sl h => by
    rw [List.all_eq_true] at hp
    exact hp sl (List.mem_iff_getElem?.mpr ⟨i, h⟩)
  refine ⟨s, Same.refl _, S.l, fun i sl o h1 h2 => ?_, fun i j es fs p _ h1 _ => ?_⟩
  · have q := S.r i sl o h1 h2
    have c := key i sl h1
    cases sl with
    | un => trivial
    | v d => obtain ⟨x, e, r⟩ := q; exact ⟨x, e, Rep.mono g _ _ r⟩
    | ob a => exact q
    | own es => cases c
    | dct m => cases c
    | rd m => cases c
    | br p es => cases c
  · have c := key i _ h1
    cases c
theorem st_startI {G H : Hp} {N : List Str} {x : Addr} {d : D} {v : V} (s : Same G H) (r : Rep K G d v) (hN : 2 ≤ N.length) : St K H G H (L2.start N [.ref x, v]) (.ob x :: .v d :: List.replicate (N.length - 2) .un) := by
  refine ⟨s, Same.refl _, by unfold L2.start; simp, fun i sl o h1 h2 => ?_, fun i j es fs p _ h1 _ => ?_⟩
  · unfold L2.start at h2
    match i, h1, h2 with
    | 0, h1, h2 => cases h1; cases h2; rfl
    | 1, h1, h2 => cases h1; cases h2; exact ⟨v, rfl, r⟩
    | i + 2, h1, h2 =>
      rw [List.getElem?_cons_succ, List.getElem?_cons_succ, List.getElem?_replicate] at h1
      split at h1
      · cases h1; trivial
      · cases h1
  · match i, h1 with
    | 0, h1 => cases h1
    | 1, h1 => cases h1
    | i + 2, h1 =>
      rw [List.getElem?_cons_succ, List.getElem?_cons_succ, List.getElem?_replicate] at h1
      split at h1
      · cases h1
      · cases h1
/-- what the making of a rack promises -/
def spI (K : PySem.W.Frag) (mg : Str → Option Value) (C : Addr) (r : List D → R) : Sp := fun vs H Q E => ∃ (x : Addr) (v : V), vs = [.ref x, v] ∧ ∃ (dx : Addr) (G H1 : Hp) (d : D) (Qc : VK), H = upd (upd H1 dx (.own x)) x (.ins C dx []) ∧ H1 x = none ∧ H1 dx = none ∧ dx ≠ x ∧ Same G H1 ∧ Rep K G d v ∧ RQ K mg E G H1 Qc (r [d]) ∧ ∀ H2, Qc (.ref x) H2 → Q .non H2
structure DInit (X : Cx) (W : WX) (body : List Stmt) (F1 F2 : List Sl → Fl) (f1 f2 : List Sl → R) (t1 t2 : TS) (te1 te2 te3 : TE) : Prop where
  pss : PSs X body (tSeq t1 (tSeq t2 (tSeq (sFld X.K (tVar 0) te1 "chests") (tSeq (sFld X.K (tVar 0) te2 "stands") (sFld X.K (tVar 0) te3 "done_so_far")))))
  s1 : SemS X.K X.mg W t1 F1
  s2 : SemS X.K X.mg W t2 F2
  e1 : SemE X.K X.mg W te1 f1
  e2 : SemE X.K X.mg W te2 f2
  e3 : SemE X.K X.mg W te3 (fLst fANil)
theorem dinit {X : Cx} {W : WX} {F1 F2 : List Sl → Fl} {f1 f2 : List Sl → R} {t1 t2 : TS} {te1 te2 te3 : TE} {st1 st2 : Stmt} {e1 e2 e3 : Expr} {x : Str} {q1 q2 q3 r1 r2 r3 p1 p2 p3 : Pos} (d1 : DS X W st1 t1 F1) (d2 : DS X W st2 t2 F2) (h1 : DE X W e1 te1 f1) (h2 : DE X W e2 te2 f2) (h3 : DE X W e3 te3 (fLst fANil))
    (hN : X.N[0]? = some x := by rfl) (hv : Vis X.env.scope x := by first | exact Or.inl rfl | exact Or.inr (Or.inl rfl) | exact Or.inr (Or.inr rfl)) (hd : (x == ("__debug__" : Str)) = false := by decide) (hcd : (x == ("__classdict__" : Str)) = false := by decide)
    (w1 : swapsWith e1 (some (.Attribute (.Name x q1) "chests" r1)) p1.line X.env = pure false := by rfl) (w2 : swapsWith e2 (some (.Attribute (.Name x q2) "stands" r2)) p2.line X.env = pure false := by rfl) (w3 : swapsWith e3 (some (.Attribute (.Name x q3) "done_so_far" r3)) p3.line X.env = pure false := by rfl) :
    DInit X W [st1, st2, .Assign [.Attribute (.Name x q1) "chests" r1] e1 p1, .Assign [.Attribute (.Name x q2) "stands" r2] e2 p2, .Assign [.Attribute (.Name x q3) "done_so_far" r3] e3 p3] F1 F2 f1 f2 t1 t2 te1 te2 te3 :=
  ⟨pss_cons d1.ps (pss_cons d2.ps (pss_cons (ps_fld (pv 0 hN hv hd hcd) h1.pe w1) (pss_cons (ps_fld (pv 0 hN hv hd hcd) h2.pe w2) (pss_one (ps_fld (pv 0 hN hv hd hcd) h3.pe w3))))), d1.sem, d2.sem, h1.sem, h2.sem, h3.sem⟩
section
variable {P : Program} {w : World} {base : Heap} {C : Addr}
theorem put3 (a b c : V) : putF "done_so_far" c (putF "stands" b (putF "chests" a [])) = [(("chests" : Str), a), ("stands", b), ("done_so_far", c)] := by
  have n1 : ¬ ("chests" : Str) = "stands" := by decide
  have n2 : ¬ ("chests" : Str) = "done_so_far" := by decide
  have n3 : ¬ ("stands" : Str) = "done_so_far" := by decide
  simp only [putF, n1, n2, n3, if_false]
theorem init_sem {X : Cx} {W : WX} {body : List Stmt} {F1 F2 : List Sl → Fl} {f1 f2 : List Sl → R} {t1 t2 : TS} {te1 te2 te3 : TE} (I : DInit X W body F1 F2 f1 f2 t1 t2 te1 te2 te3) (rc : RkC X.K C) (hN : 2 ≤ N.length) {x dx : Addr} {d : D} {v : V} {G H1 : Hp} {E : XK} (hW : ∀ (C : Addr) (σ : L2.St) (H' : Hp), E (.ref C) none H' → W (.ref C) none σ H') {Q : VK}
    (hx : H1 x = none) (hdx : H1 dx = none) (ne : dx ≠ x) (sm : Same G H1) (r : Rep X.K G d v) (q : RQ X.K X.mg E G H1 (fun v H2 => v = .ref x → Q .non H2) (initRun (N.length - 2) F1 F2 f1 f2 x [d])) :
    tSeq t1 (tSeq t2 (tSeq (sFld X.K (tVar 0) te1 "chests") (tSeq (sFld X.K (tVar 0) te2 "stands") (sFld X.K (tVar 0) te3 "done_so_far")))) { nx := fun _ H' => Q .non H', rt := Q } (L2.start N [.ref x, v]) (upd (upd H1 dx (.own x)) x (.ins C dx [])) := by
  have E0 : Ext G H1 G (upd (upd H1 dx (.own x)) x (.ins C dx [])) := (Ext.own sm hdx).trans (Ext.own (Ext.own sm hdx).s (by rw [upd_ne (Ne.symm ne)]; exact hx))
  have Gx : G x = none := Same.free sm hx
  have insx : upd (upd H1 dx (.own x)) x (.ins C dx []) x = some (.ins C dx []) := upd_same
  generalize upd (upd H1 dx (.own x)) x (.ins C dx []) = Hf at *
  have S0 := st_startI (x := x) E0.s r hN
  unfold initRun at q
  have exc : ∀ {c : Str} {δ : List Sl} {D : Ends}, RQ X.K X.mg E G H1 (fun v H2 => v = .ref x → Q .non H2) (.exc c) → FQ X.K X.mg W D G Hf (.exc c δ) := fun {c δ D} q => fun σ' H' C' SS hm => by
    obtain ⟨G', e', _⟩ := SS
    exact hW _ _ _ (q G' H' C' (E0.trans e') hm)
  refine I.s1 G Hf _ Hf _ (.ob x :: .v d :: List.replicate (N.length - 2) .un) ⟨G, Ext.refl E0.s, S0⟩ ?_
  cases hF1 : F1 (.ob x :: .v d :: List.replicate (N.length - 2) .un) with
  | exc c δ => simp only [hF1] at q; exact exc q
  | nx δ1 =>
    simp only [hF1] at q
    intro σ1 Ha SS1
    refine I.s2 G Hf _ Ha σ1 δ1 SS1 ?_
    cases hF2 : F2 δ1 with
    | exc c δ => simp only [hF2] at q; exact exc q
    | nx δ2 =>
      simp only [hF2] at q
      rintro σ2 Hb ⟨G2, e2, S2⟩
      obtain ⟨⟨hob, hpl⟩, q⟩ := rq_if q
      have s0 : σ2[0]? = some (some (.ref x)) := by
        obtain ⟨o, e1, e2⟩ := S2.at (i := 0) (isOb_get hob)
        rw [e1, e2]
      cases h1 : f1 δ2 with
      | new a =>
        cases h2 : f2 δ2 with
        | new b =>
          simp only [h1, h2] at q
          refine I.e1 Hf G2 Hb σ2 δ2 _ S2 ?_
          rw [h1]
          intro p1 xs1 G3 H3 e3 hp1 hg1 hl1 r1
          refine ⟨.ref x, s0, x, C, dx, [], rfl, e3.h _ _ (e2.h _ _ insx), rc.cl, rc.at1, by decide, ?_⟩
          have f3 := e3.freeze hp1 hg1 hl1
          have eA := (e2.trans f3)
          have x3 : upd G3 p1 (.lst xs1) x = none := eA.n x Gx (by rw [insx]; trivial)
          have eB := (E0.trans eA).write (o := .ins C dx (putF "chests" (.ref p1) [])) hx x3
          have S3 := S2.rebase hpl f3.g eB.s
          refine I.e2 _ _ _ σ2 δ2 _ S3 ?_
          rw [h2]
          intro p2 xs2 G4 H4 e4 hp2 hg2 hl2 r2
          refine ⟨.ref x, s0, x, C, dx, _, rfl, e4.h _ _ upd_same, rc.cl, rc.at2, Nat.lt_of_le_of_lt (length_putF _ _ _) (by decide), ?_⟩
          have f4 := e4.freeze hp2 hg2 hl2
          have x4 : upd G4 p2 (.lst xs2) x = none := f4.n x x3 (by rw [upd_same]; trivial)
          have eC := (eB.trans f4).write (o := .ins C dx (putF "stands" (.ref p2) (putF "chests" (.ref p1) []))) hx x4
          have S4 := S3.rebase hpl f4.g eC.s
          refine I.e3 _ _ _ σ2 δ2 _ S4 ?_
          have h3 : fLst fANil δ2 = .new [] := by
            show (if ([] : List D).length ≤ LIM then R.new [] else .bad) = _
            exact if_pos (Nat.zero_le _)
          rw [h3]
          intro p3 xs3 G5 H5 e5 hp3 hg3 hl3 r3
          refine ⟨.ref x, s0, x, C, dx, _, rfl, e5.h _ _ upd_same, rc.cl, rc.at3, Nat.lt_of_le_of_lt (length_putF _ _ _) (Nat.lt_of_le_of_lt (Nat.succ_le_succ (length_putF _ _ _)) (by decide)), ?_⟩
          have f5 := e5.freeze hp3 hg3 hl3
          have x5 : upd G5 p3 (.lst xs3) x = none := f5.n x x4 (by rw [upd_same]; trivial)
          have eD := (eC.trans f5).keep (o := .ins C dx (putF "done_so_far" (.ref p3) (putF "stands" (.ref p2) (putF "chests" (.ref p1) [])))) hx x5
          have g5 : Same (upd G5 p3 (.lst xs3)) (upd (upd G5 p3 (.lst xs3)) x (.ins C dx (putF "done_so_far" (.ref p3) (putF "stands" (.ref p2) (putF "chests" (.ref p1) []))))) := same_new x5
          unfold rkR at q
          cases ha : decL a with
          | none => rw [ha] at q; exact q.elim
          | some css =>
            cases hb : decT b with
            | none => rw [ha, hb] at q; exact q.elim
            | some rss =>
              rw [ha, hb] at q
              have e3n : xs3 = [] := r3
              have l1 := ls_of ha r1
              have l2 := ts_of hb r2
              have g3 : Same G3 (upd G3 p1 (.lst xs1)) := same_new hg1
              have g4 : Same G4 (upd G4 p2 (.lst xs2)) := same_new hg2
              have m1 := g3.trans ((f4.g.trans f5.g).trans g5)
              have m2 := g4.trans (f5.g.trans g5)
              refine q (.ref x) _ _ eD (.inr (.inr (.inr (.inr ⟨css, rss, [], x, rfl, rfl, C, dx, p1, p2, p3, xs1, xs2, xs3, rc, ?_, ?_, ?_, ?_, ?_, ?_, ?_⟩)))) rfl
              · rw [upd_same, put3]
              · exact g5 _ _ (f5.g _ _ (f4.g _ _ upd_same))
              · exact g5 _ _ (f5.g _ _ upd_same)
              · exact g5 _ _ upd_same
              · exact paired_mono (fun _ _ ⟨p, z, w⟩ => ⟨p, z, m1 _ _ w⟩) l1
              · exact paired_mono (fun _ _ ⟨p, z, w⟩ => ⟨p, z, w.mono m2⟩) l2
              · rw [e3n]; exact .nil
        | _ => simp only [h1, h2] at q; exact q.elim
      | _ => simp only [h1] at q; exact q.elim
    | _ => simp only [hF2] at q; exact q.elim
  | _ => simp only [hF1] at q; exact q.elim
end
end
end DL
set_option Elab.async false
set_option linter.all false
set_option maxRecDepth 100000
set_option maxHeartbeats 4000000
namespace DL
open PySem PySem.Spec PyProof.Rows L2
section
variable {K : PySem.W.Frag} {mg : Str → Option Value} {P : Program} {w : World} {base : Heap} {x y qual : Str} {st : Stmt} {f C : Addr} {fd : FuncData} {N ps : List Str} {k n : Nat}
theorem rq_mono {E : XK} {G H : Hp} {Q1 Q2 : VK} {a : Addr} (h : ∀ H2, Q1 (.ref a) H2 → Q2 .non H2) : ∀ {r : R}, RQ K mg E G H Q1 r → RQ K mg E G H (fun v H2 => v = .ref a → Q2 .non H2) r
  | .ok _, q => fun v G' H' e r1 ev => by subst ev; exact h H' (q _ G' H' e r1)
  | .new _, q => fun p xs G' H' e h1 h2 h3 h4 ev => by cases ev; exact h H' (q _ xs G' H' e h1 h2 h3 h4)
  | .exc _, q => q
  | .bad, q => q
/-- the promise of __init__, its context given -/
theorem fnI (Fn : Fun K y qual st f fd) (S : FnScope N ps (defScope st)) (hn : ps.length = 2) (hN : 2 ≤ N.length) (rc : RkC K C) (F1 F2 : List Sl → Fl) (f1 f2 : List Sl → R) (rI : List D → R) (hI : ∀ (x : Addr) (d : D), rI [d] ≠ .bad → initRun (N.length - 2) F1 F2 f1 f2 x [d] = rI [d])
    (hb : ∀ (cdv : Value) (A : Around) (outer : List Env) (s : Shared) (H : Hp) (E : XK) (X : Cx), X = cxOf (L2N.CX P w) P w K mg base N qual (defScope st) f cdv A outer s H E → Room k (A.deeper (envOfC qual (defScope st) s.heap.objs.size f cdv)) → L2N.Takes X (WD E) → PassesOwn (model X.prog X.w) X.A X.env X.xe →
      ∃ t1 t2 te1 te2 te3, DInit (cxOf (L2N.CX P w) P w K mg base N qual (defScope st) f cdv A outer s H E) (WD E) (defBody st) F1 F2 f1 f2 t1 t2 te1 te2 te3) : FnOk P w K mg base (L2N.CX P w) (k + 1) f fd ps (spI K mg C rI) :=
  okC Fn S (fun vs H Q E h => by
    obtain ⟨_, _, rfl, _⟩ := h
    rw [hn]; rfl) (fun cdv A outer s H vs Q E hr h => by
    obtain ⟨t1, t2, te1, te2, te3, I⟩ := hb cdv A outer s H E _ rfl hr (L2N.takes_of rfl rfl rfl rfl) (passes_of rfl)
    obtain ⟨a, v, rfl, dx, G, H1, d, Qc, rfl, hx, hdx, ne, sm, r, q, hq⟩ := h
    have hne : rI [d] ≠ .bad := fun z => by rw [z] at q; exact q
    refine ⟨_, I.pss, init_sem I rc hN (E := E) (fun _ _ _ e => e) hx hdx ne sm r ?_⟩
    rw [hI a d hne]
    exact rq_mono hq q)
/-- a def of a class that reads: its promise -/
theorem fnM (Fn : Fun K y qual st f fd) (S : FnScope N ps (defScope st)) (hn : ps.length = n) (Fb : List Sl → Fl)
    (hb : ∀ (cdv : Value) (A : Around) (outer : List Env) (s : Shared) (H : Hp) (E : XK) (X : Cx), X = cxOf (L2N.CX P w) P w K mg base N qual (defScope st) f cdv A outer s H E → Room k (A.deeper (envOfC qual (defScope st) s.heap.objs.size f cdv)) → L2N.Takes X (WD E) → PassesOwn (model X.prog X.w) X.A X.env X.xe →
      ∃ t F', DSs (cxOf (L2N.CX P w) P w K mg base N qual (defScope st) f cdv A outer s H E) (WD E) (defBody st) t F' ∧ F' = Fb) (b : Binds K fd ps []) (hm : Meth K C x f) (nm : PySem.W.nsIn K mainGlobals "Rack" = some (some (.ref C))) (cl : Cls K C) (no : ∀ a b c : V, List.lookup x [(("chests" : Str), a), ("stands", b), ("done_so_far", c)] = none := by intro _ _ _; rfl) :
    CalM P w K mg base (k + 1) C x n (run n N.length Fb) :=
  ⟨nm, cl, ⟨f, fd, ps, hn, hm, okC Fn S (fun vs H Q E h => by rw [hn]; exact h.1) (fun cdv A outer s H vs Q E hr h => by
    obtain ⟨hl, G, ds, sm, r, q⟩ := h
    obtain ⟨t, F', d, rfl⟩ := hb cdv A outer s H E _ rfl hr (L2N.takes_of rfl rfl rfl rfl) (passes_of rfl)
    have e := run_len (F := F') ds fun z => by rw [z] at q; exact q
    unfold run at q
    rw [if_pos e] at q
    refine ⟨t, d.pss, d.sem G H _ H _ (slots0 N.length ds) ⟨G, Ext.refl sm, st_start sm r⟩ ?_⟩
    cases hF : F' (slots0 N.length ds) with
    | nx δ =>
      rw [hF] at q
      exact fun σ' H' S' => by
        obtain ⟨G', e', _⟩ := S'
        exact q .non G' H' e' rfl
    | rt d => rw [hF] at q; exact q
    | rn ds => rw [hF] at q; exact q
    | exc c δ =>
      rw [hF] at q
      exact fun σ' H' C S' hm => by
        obtain ⟨G', e', _⟩ := S'
        exact q G' H' C e' hm
    | bk δ => rw [hF] at q; exact q.elim
    | ct δ => rw [hF] at q; exact q.elim
    | bad => rw [hF] at q; exact q.elim), b⟩, run_len, no⟩
structure CalI (P : Program) (w : World) (K : PySem.W.Frag) (mg : Str → Option Value) (base : Heap) (k : Nat) (C : Addr) (r : List D → R) : Prop where
  g : mg "Rack" = some (.ref C)
  ex : ∃ fa fd ps, Mk K C fa ∧ FnOk P w K mg base (L2N.CX P w) k fa fd ps (spI K mg C r) ∧ Binds K fd ps []
  len : ∀ ds, r ds ≠ .bad → ds.length = 1
end
def tMakeS (C : Addr) (sp : Sp) (E : L2.St → XK) (t : TA) : TE := fun σ H Q => t σ H fun vs H1 => ∀ x dx, H1 x = none → H1 dx = none → dx ≠ x →
  sp (.ref x :: vs) (upd (upd H1 dx (.own x)) x (.ins C dx [])) (fun v H2 => v = .non ∧ Q (.ref x) H2) (E σ)
section
variable {X : Cx} {W : WX} {k : Nat} {C : Addr} {r : List D → R} {e a o : Expr} {es : List Expr} {t : TA} {fa : List Sl → RL} {p pos apos : Pos}
theorem make_run {CX : CXT} {f : Addr} {fd : FuncData} {ps : List Str} {sp : Sp} {E : L2.St → XK} {pins : List (Addr × Obj)} {σ : L2.St} {H : Hp} {s : Shared} {Q : VK} {us : List Value} {vs : List V} (M : Mk X.K C f) (F : FnOk X.prog X.w X.K X.mg X.base CX k f fd ps sp) (hr : Room (k + 1) X.A) (hb : Binds X.K fd ps [])
    (hx : PassesAt CX X σ (E σ)) (I : Inv X pins σ H s) (r : Vals vs us)
    (h : ∀ x dx, H x = none → H dx = none → dx ≠ x → sp (.ref x :: vs) (upd (upd H dx (.own x)) x (.ins C dx [])) (fun v H2 => v = .non ∧ Q (.ref x) H2) (E σ)) :
    wpAny (model X.prog X.w) X.A (call (.ref C) us) (EP X pins σ Q) X.xe s := by
  have h1 := I.hok.fresh (Nat.le_succ s.heap.objs.size)
  have h2 := I.hok.fresh (Nat.le_refl s.heap.objs.size)
  have hq := h _ _ h1 h2 (Nat.ne_of_lt (Nat.lt_succ_self _))
  have J := Inv.made (C := C) I
  have rr : Vals (V.ref (s.heap.objs.size + 1) :: vs) (Value.ref (s.heap.objs.size + 1) :: us) := .cons rfl r
  have hl : ((Value.ref (s.heap.objs.size + 1) :: us) ++ []).length = ps.length := by
    rw [List.append_nil, ← rr.length]
    exact F.len _ _ _ _ hq
  have bb := hb _ (Value.ref (s.heap.objs.size + 1) :: us) J.kIn hl
  rw [List.append_nil] at bb
  refine wpAny_call (make_map (f := f) I.kIn M.makes M.init (beq_iff_eq.mp M.fn) (codeAny_mono (F.run _ X.stack _ _ ⟨_, []⟩ _ _ _ _ (hr.make C us []) (J.env0.make C us []) bb rr hq) fun z s' hz => ?_))
  cases z with
  | error e => exact hx pins _ _ e s' J hz
  | ok fl =>
    cases fl with
    | ret u =>
      obtain ⟨v, H', I3, rv, ev, q3⟩ := J.after hz
      cases ev
      exact ⟨rv, V.ref (s.heap.objs.size + 1), H', I3, rfl, q3⟩
    | _ => exact hz.elim
theorem de_make (M : CalI X.prog X.w X.K X.mg X.base k C r) (hr : Room (k + 1) X.A) (tk : L2N.Takes X W) (ha : DA X W [a] t fa) (hg : Gl X "Rack" := by rfl)
    (he : starEach [a] X.env = (false, eval a X.env) :: starEach [] X.env := by rfl) (hpl : (backTo pos (starEach [] X.env)).any (·.1) = false := by rfl) :
    DE X W (.Call (.Name "Rack" p) [a] [] pos) (tMakeS C (spI X.K X.mg C r) (WE W) t) (fCall r fa) := by
  obtain ⟨f, fd, ps, mk, F, hb⟩ := M.ex
  refine ⟨⟨fun pins s σ H Q I h => ?_⟩, fun H0 G H σ δ Q S q => ?_⟩
  · refine wpAny_Call_Name_kw (ld_glob I hg M.g ?_ (by decide))
    refine PySem.W.callWith_K (h₀ := X.base) I.ok.mod.kin mk.kp (thn (ha.pa.run pos pins s σ H _ I h) fun us s1 z => ?_) he hpl
    obtain ⟨vs, H1, I1, rr, q⟩ := z
    exact ⟨I1.kIn, make_run mk F hr hb (L2N.passAt tk σ) I1 rr q⟩
  · refine ha.sem H0 G H σ δ _ S (RL.to_q q fun ds vs G1 H1 e1 r1 q1 => fun x dx hx hdx ne => ?_)
    have hl := M.len ds fun z => by rw [z] at q1; exact q1
    match ds, r1, hl, q1 with
    | [d], r1, _, q1 =>
      obtain ⟨v, rfl, rv⟩ := repL1 r1
      exact ⟨x, v, rfl, dx, G1, H1, d, Q, rfl, hx, hdx, ne, e1.s, rv, q1, fun H2 q => ⟨rfl, q⟩⟩
theorem k_make {P : Program} {w : World} {K : PySem.W.Frag} {mg : Str → Option Value} {base : Heap} {j : Nat} (M : CalI P w K mg base j C r) (hr : Room k X.A) (hj : j + 1 ≤ k) (tk : L2N.Takes X W) (ha : DA X W [a] t fa) (hP : X.prog = P := by rfl) (hw : X.w = w := by rfl) (hK : X.K = K := by rfl) (hm : X.mg = mg := by rfl) (hb : X.base = base := by rfl) (hg : Gl X "Rack" := by rfl)
    (he : starEach [a] X.env = (false, eval a X.env) :: starEach [] X.env := by rfl) (hpl : (backTo pos (starEach [] X.env)).any (·.1) = false := by rfl) : DE X W (.Call (.Name "Rack" p) [a] [] pos) (tMakeS C (spI K mg C r) (WE W) t) (fCall r fa) := by
  subst hP hw hK hm hb
  exact de_make M (hr.mono hj) tk ha hg he hpl
variable {to : TE} {fo : List Sl → R} {m : Str} {n : Nat}
theorem k_meth {P : Program} {w : World} {K : PySem.W.Frag} {mg : Str → Option Value} {base : Heap} {j : Nat} (M : CalM P w K mg base j C m n r) (hr : Room k X.A) (hj : j ≤ k) (tk : L2N.Takes X W) (ho : DE X W o to fo) (ha : DA X W (e :: es) t fa) {pl : Sem Bool} (hP : X.prog = P := by rfl) (hw : X.w = w := by rfl) (hK : X.K = K := by rfl) (hm : X.mg = mg := by rfl) (hb : X.base = base := by rfl)
    (hst : starEach (e :: es) X.env = (false, eval e X.env) :: starEach es X.env := by rfl) (hpl : (backTo pos (starEach es X.env)).any (·.1) = false := by rfl)
    (ht : eval (.Call (.Attribute o m apos) (e :: es) [] pos) X.env = (do
      let ov ← eval o X.env
      standAt apos.atName
      let (f, first) ← holding [ov] (getMethod ov m pl)
      callWith pos f first (backTo pos (starEach (e :: es) X.env)) (backToKw pos (keywordEach [] X.env))) := by rfl) :
    DE X W (.Call (.Attribute o m apos) (e :: es) [] pos) (tMethS C m (spD K mg n r) (WE W) to t) (fMeth r fo fa) := by
  subst hP hw hK hm hb
  exact de_meth M (hr.mono hj) tk ho ha hst hpl ht
theorem k_meth0 {P : Program} {w : World} {K : PySem.W.Frag} {mg : Str → Option Value} {base : Heap} {j : Nat} (M : CalM P w K mg base j C m n r) (hr : Room k X.A) (hj : j ≤ k) (tk : L2N.Takes X W) (ho : DE X W o to fo) {pl : Sem Bool} (hP : X.prog = P := by rfl) (hw : X.w = w := by rfl) (hK : X.K = K := by rfl) (hm : X.mg = mg := by rfl) (hb : X.base = base := by rfl)
    (ht : eval (.Call (.Attribute o m apos) [] [] pos) X.env = (do
      let ov ← eval o X.env
      standAt apos.atName
      let (f, first) ← holding [ov] (getMethod ov m pl)
      callWith pos f first (backTo pos (starEach [] X.env)) (backToKw pos (keywordEach [] X.env))) := by rfl) :
    DE X W (.Call (.Attribute o m apos) [] [] pos) (tMethS C m (spD K mg n r) (WE W) to tNil) (fMeth r fo fANil) := by
  subst hP hw hK hm hb
  exact de_meth0 M (hr.mono hj) tk ho ht
end
end DL
set_option Elab.async false
set_option linter.all false
set_option maxRecDepth 100000
set_option maxHeartbeats 4000000
/-! a def called out of a displayed list of three -/
namespace DL
open PySem PySem.Spec PyProof.Rows L2
section
variable {X : Cx} {W : WX} {mg : Str → Option Value} {x1 x2 x3 : Str} {e ie : Expr} {ti : TE} {fi : List Sl → R} {t : TA} {fa : List Sl → RL} {q1 q2 q3 lp sp pos : Pos} {r1 r2 r3 : List D → R}
def tCall3 (K : PySem.W.Frag) (mg : Str → Option Value) (W : WX) (x1 x2 x3 : Str) (r1 r2 r3 : List D → R) (ti : TE) (t : TA) : TE := fun σ H Q => ∃ f1 f2 f3 : Addr, mg x1 = some (.ref f1) ∧ mg x2 = some (.ref f2) ∧ mg x3 = some (.ref f3) ∧
  ∀ p, H p = none → ti σ (upd H p (.lst [.ref f1, .ref f2, .ref f3])) fun y H2 => rIx K (.ref p) y H2 fun z H3 =>
    (z = .ref f1 ∧ t σ H3 fun vs H4 => spD K mg 1 r1 vs H4 Q (WE W σ)) ∨ (z = .ref f2 ∧ t σ H3 fun vs H4 => spD K mg 1 r2 vs H4 Q (WE W σ)) ∨ (z = .ref f3 ∧ t σ H3 fun vs H4 => spD K mg 1 r3 vs H4 Q (WE W σ))
def fCall3 (r1 r2 r3 : List D → R) (fi : List Sl → R) (fa : List Sl → RL) : List Sl → R := fun δ => (fi δ).bind fun d => match d with
  | .int i => if i = 0 then (fa δ).to r1 else if i = 1 then (fa δ).to r2 else if i = 2 then (fa δ).to r3 else .bad
  | _ => .bad
theorem pe_call3 {k k1 k2 k3 : Nat} (C1 : Cal X.prog X.w X.K X.mg X.base k1 x1 1 r1) (C2 : Cal X.prog X.w X.K X.mg X.base k2 x2 1 r2) (C3 : Cal X.prog X.w X.K X.mg X.base k3 x3 1 r3) (hr : Room k X.A) (h1 : k1 ≤ k) (h2 : k2 ≤ k) (h3 : k3 ≤ k) (tk : L2N.Takes X W) (hi : PE X ie ti) (ha : PA X [e] t)
    (g1 : Gl X x1 := by rfl) (g2 : Gl X x2 := by rfl) (g3 : Gl X x3 := by rfl) (d1 : (x1 == ("__debug__" : Str)) = false := by decide) (d2 : (x2 == ("__debug__" : Str)) = false := by decide) (d3 : (x3 == ("__debug__" : Str)) = false := by decide) (hs : PlainIx ie := by exact fun _ _ => rfl)
    (l1 : starEach [.Name x1 q1, .Name x2 q2, .Name x3 q3] X.env = (false, eval (.Name x1 q1) X.env) :: starEach [.Name x2 q2, .Name x3 q3] X.env := by rfl) (l2 : starEach [.Name x2 q2, .Name x3 q3] X.env = (false, eval (.Name x2 q2) X.env) :: starEach [.Name x3 q3] X.env := by rfl) (l3 : starEach [.Name x3 q3] X.env = (false, eval (.Name x3 q3) X.env) :: starEach [] X.env := by rfl)
    (ht : eval (.Call (.Subscript (.List [.Name x1 q1, .Name x2 q2, .Name x3 q3] lp) ie sp) [e] [] pos) X.env = (do callWith pos (← eval (.Subscript (.List [.Name x1 q1, .Name x2 q2, .Name x3 q3] lp) ie sp) X.env) [] (backTo pos (starEach [e] X.env)) (backToKw pos (keywordEach [] X.env))) := by rfl)
    (he : starEach [e] X.env = (false, eval e X.env) :: starEach [] X.env := by rfl) (hpl : (backTo pos (starEach [] X.env)).any (·.1) = false := by rfl) :
    PE X (.Call (.Subscript (.List [.Name x1 q1, .Name x2 q2, .Name x3 q3] lp) ie sp) [e] [] pos) (tCall3 X.K X.mg W x1 x2 x3 r1 r2 r3 ti t) := by
  refine ⟨fun pins s σ H Q I h => ?_⟩
  obtain ⟨f1, f2, f3, m1, m2, m3, h⟩ := h
  have pl := pe_lst (pos := lp) (pa_cons (pe_glob (v := .ref f1) g1 m1 rfl d1) (pa_cons (pe_glob (v := .ref f2) g2 m2 rfl d2) (pa_cons (pe_glob (v := .ref f3) g3 m3 rfl d3) pa_nil l3) l2) l1)
  have go : ∀ {x : Str} {f : Addr} {r : List D → R} {j : Nat}, Cal X.prog X.w X.K X.mg X.base j x 1 r → j ≤ k → X.mg x = some (.ref f) → ∀ {s1 : Shared} {H2 : Hp}, Inv X pins σ H2 s1 → (t σ H2 fun vs H3 => spD X.K X.mg 1 r vs H3 Q (WE W σ)) →
      wpAny (model X.prog X.w) X.A (callWith pos (.ref f) [] (backTo pos (starEach [e] X.env)) []) (EP X pins σ Q) X.xe s1 := fun {x f r j} C hj hm {s1 H2} I1 q => by
    obtain ⟨⟨fa', fd, ps, hps, F, hm', hk, hb⟩, hlen⟩ := C
    have ef : fa' = f := by
      rw [hm] at hm'
      cases hm'
      rfl
    subst ef
    refine PySem.W.callWith_K (h₀ := X.base) I.ok.mod.kin hk (thn (ha.run pos pins s1 σ _ _ I1 q) fun us s2 z => ?_) he hpl
    obtain ⟨vs, H3, I3, r3, q3⟩ := z
    exact ⟨I3.kIn, run_fnS F (hr.mono hj) hb (L2N.passAt tk σ) I3 r3 q3⟩
  refine Call_ (thn ((pe_ix (pos := sp) ix_seq pl hi hs).run pins s σ H (fun z H2 => ((z = .ref f1 ∧ t σ H2 fun vs H3 => spD X.K X.mg 1 r1 vs H3 Q (WE W σ)) ∨ (z = .ref f2 ∧ t σ H2 fun vs H3 => spD X.K X.mg 1 r2 vs H3 Q (WE W σ)) ∨ (z = .ref f3 ∧ t σ H2 fun vs H3 => spD X.K X.mg 1 r3 vs H3 Q (WE W σ)))) I ?_) fun u s1 z => ?_) ht
  · exact ⟨by rw [sizeLine_eq]; show 3 ≤ 16777216; decide, h⟩
  · obtain ⟨y, H2, I2, ry, q⟩ := z
    rcases q with ⟨rfl, q⟩ | ⟨rfl, q⟩ | ⟨rfl, q⟩
    · cases ry; exact go C1 h1 m1 I2 q
    · cases ry; exact go C2 h2 m2 I2 q
    · cases ry; exact go C3 h3 m3 I2 q
theorem de_call3 {k k1 k2 k3 : Nat} (C1 : Cal X.prog X.w X.K X.mg X.base k1 x1 1 r1) (C2 : Cal X.prog X.w X.K X.mg X.base k2 x2 1 r2) (C3 : Cal X.prog X.w X.K X.mg X.base k3 x3 1 r3) (hr : Room k X.A) (h1 : k1 ≤ k) (h2 : k2 ≤ k) (h3 : k3 ≤ k) (tk : L2N.Takes X W) (hi : DE X W ie ti fi) (ha : DA X W [e] t fa)
    (g1 : Gl X x1 := by rfl) (g2 : Gl X x2 := by rfl) (g3 : Gl X x3 := by rfl) (d1 : (x1 == ("__debug__" : Str)) = false := by decide) (d2 : (x2 == ("__debug__" : Str)) = false := by decide) (d3 : (x3 == ("__debug__" : Str)) = false := by decide) (hs : PlainIx ie := by exact fun _ _ => rfl)
    (l1 : starEach [.Name x1 q1, .Name x2 q2, .Name x3 q3] X.env = (false, eval (.Name x1 q1) X.env) :: starEach [.Name x2 q2, .Name x3 q3] X.env := by rfl) (l2 : starEach [.Name x2 q2, .Name x3 q3] X.env = (false, eval (.Name x2 q2) X.env) :: starEach [.Name x3 q3] X.env := by rfl) (l3 : starEach [.Name x3 q3] X.env = (false, eval (.Name x3 q3) X.env) :: starEach [] X.env := by rfl)
    (ht : eval (.Call (.Subscript (.List [.Name x1 q1, .Name x2 q2, .Name x3 q3] lp) ie sp) [e] [] pos) X.env = (do callWith pos (← eval (.Subscript (.List [.Name x1 q1, .Name x2 q2, .Name x3 q3] lp) ie sp) X.env) [] (backTo pos (starEach [e] X.env)) (backToKw pos (keywordEach [] X.env))) := by rfl)
    (he : starEach [e] X.env = (false, eval e X.env) :: starEach [] X.env := by rfl) (hpl : (backTo pos (starEach [] X.env)).any (·.1) = false := by rfl) :
    DE X W (.Call (.Subscript (.List [.Name x1 q1, .Name x2 q2, .Name x3 q3] lp) ie sp) [e] [] pos) (tCall3 X.K X.mg W x1 x2 x3 r1 r2 r3 ti t) (fCall3 r1 r2 r3 fi fa) := by
  refine ⟨pe_call3 C1 C2 C3 hr h1 h2 h3 tk hi.pe ha.pa g1 g2 g3 d1 d2 d3 hs l1 l2 l3 ht he hpl, fun H0 G H σ δ Q S q => ?_⟩
  obtain ⟨f1, _, _, _, _, m1, _⟩ := C1.ex
  obtain ⟨f2, _, _, _, _, m2, _⟩ := C2.ex
  obtain ⟨f3, _, _, _, _, m3, _⟩ := C3.ex
  refine ⟨f1, f2, f3, m1, m2, m3, fun p hp => ?_⟩
  have e0 := Ext.own (o := .lst [.ref f1, .ref f2, .ref f3]) S.s hp
  refine hi.sem H0 G _ σ δ _ (S.go e0) (RQ.bind (q.trans e0) fun d y G1 H1 e1 r1' q1 => ?_)
  have hl : SqL X.K H1 p [.ref f1, .ref f2, .ref f3] := sq_inj (e1.h _ _ upd_same)
  have fin : ∀ {r : List D → R}, (∀ ds, r ds ≠ .bad → ds.length = 1) → RQ X.K X.mg (WE W σ) G1 H1 Q ((fa δ).to r) → t σ H1 fun vs H4 => spD X.K X.mg 1 r vs H4 Q (WE W σ) := fun {r} hlen q => by
    refine ha.sem H0 G1 H1 σ δ _ ((S.go e0).go e1) (RL.to_q q fun ds vs G2 H2 e2 r2 q2 => ?_)
    refine ⟨?_, G2, ds, e2.s, r2, q2⟩
    rw [r2.length]
    exact hlen ds fun z => by rw [z] at q2; exact q2
  split at q1
  · rename_i i
    cases r1'
    by_cases c0 : i = (0 : Int)
    · rw [if_pos c0] at q1
      exact .inl ⟨p, _, _, .ref f1, rfl, rfl, hl, by rw [c0]; rfl, .inl ⟨rfl, fin C1.len q1⟩⟩
    · rw [if_neg c0] at q1
      by_cases c1 : i = (1 : Int)
      · rw [if_pos c1] at q1
        exact .inl ⟨p, _, _, .ref f2, rfl, rfl, hl, by rw [c1]; rfl, .inr (.inl ⟨rfl, fin C2.len q1⟩)⟩
      · rw [if_neg c1] at q1
        obtain ⟨c2, q1⟩ := rq_if q1
        exact .inl ⟨p, _, _, .ref f3, rfl, rfl, hl, by rw [c2]; rfl, .inr (.inr ⟨rfl, fin C3.len q1⟩)⟩
  · exact q1.elim
theorem k_call3 {P : Program} {w : World} {K : PySem.W.Frag} {base : Heap} {k k1 k2 k3 : Nat} (C1 : Cal P w K mg base k1 x1 1 r1) (C2 : Cal P w K mg base k2 x2 1 r2) (C3 : Cal P w K mg base k3 x3 1 r3) (hr : Room k X.A) (h1 : k1 ≤ k) (h2 : k2 ≤ k) (h3 : k3 ≤ k) (tk : L2N.Takes X W) (hi : DE X W ie ti fi) (ha : DA X W [e] t fa) (hP : X.prog = P := by rfl) (hw : X.w = w := by rfl) (hK : X.K = K := by rfl) (hm : X.mg = mg := by rfl) (hb : X.base = base := by rfl)
    (g1 : Gl X x1 := by rfl) (g2 : Gl X x2 := by rfl) (g3 : Gl X x3 := by rfl) (d1 : (x1 == ("__debug__" : Str)) = false := by decide) (d2 : (x2 == ("__debug__" : Str)) = false := by decide) (d3 : (x3 == ("__debug__" : Str)) = false := by decide) (hs : PlainIx ie := by exact fun _ _ => rfl)
    (l1 : starEach [.Name x1 q1, .Name x2 q2, .Name x3 q3] X.env = (false, eval (.Name x1 q1) X.env) :: starEach [.Name x2 q2, .Name x3 q3] X.env := by rfl) (l2 : starEach [.Name x2 q2, .Name x3 q3] X.env = (false, eval (.Name x2 q2) X.env) :: starEach [.Name x3 q3] X.env := by rfl) (l3 : starEach [.Name x3 q3] X.env = (false, eval (.Name x3 q3) X.env) :: starEach [] X.env := by rfl)
    (ht : eval (.Call (.Subscript (.List [.Name x1 q1, .Name x2 q2, .Name x3 q3] lp) ie sp) [e] [] pos) X.env = (do callWith pos (← eval (.Subscript (.List [.Name x1 q1, .Name x2 q2, .Name x3 q3] lp) ie sp) X.env) [] (backTo pos (starEach [e] X.env)) (backToKw pos (keywordEach [] X.env))) := by rfl)
    (he : starEach [e] X.env = (false, eval e X.env) :: starEach [] X.env := by rfl) (hpl : (backTo pos (starEach [] X.env)).any (·.1) = false := by rfl) :
    DE X W (.Call (.Subscript (.List [.Name x1 q1, .Name x2 q2, .Name x3 q3] lp) ie sp) [e] [] pos) (tCall3 K mg W x1 x2 x3 r1 r2 r3 ti t) (fCall3 r1 r2 r3 fi fa) := by
  subst hP hw hK hm hb
  exact de_call3 C1 C2 C3 hr h1 h2 h3 tk hi ha g1 g2 g3 d1 d2 d3 hs l1 l2 l3 ht he hpl
end
end DL
set_option Elab.async false
set_option linter.all false
set_option maxRecDepth 100000
set_option maxHeartbeats 4000000
/-! Evaluating denotations: what simp is told. -/
namespace DL
open PySem PySem.Spec PyProof.Rows L2
section
variable {δ : List Sl} {f g fa fb fc fe : List Sl → R} {F F1 F2 : List Sl → Fl} {i j n m : Nat} {d a b : D} {ds : List D} {c : Str}
@[simp] theorem bind_ok {k : D → R} : (R.ok d).bind k = k d := rfl
@[simp] theorem bind_new {k : D → R} : (R.new ds).bind k = k (.list ds) := rfl
@[simp] theorem bind_exc {k : D → R} : (R.exc c).bind k = .exc c := rfl
@[simp] theorem bind_bad {k : D → R} : R.bad.bind k = .bad := rfl
@[simp] theorem fVar_z : fVar 0 (.v d :: δ) = .ok d := rfl
@[simp] theorem fVar_s {s : Sl} : fVar (n + 1) (s :: δ) = fVar n δ := rfl
@[simp] theorem fVar_o : fVar 0 (.own ds :: δ) = .bad := rfl
@[simp] theorem fC_ap : fC d δ = .ok d := rfl
@[simp] theorem fOp_ap {g : D → D → R} : fOp g fa fb δ = (fa δ).bind fun a => (fb δ).bind fun b => g a b := rfl
@[simp] theorem fNeg_ap : fNeg fa δ = (fa δ).bind fun a => match a with | .int i => .ok (.int (-i)) | _ => .bad := rfl
@[simp] theorem cnd_t1 {y z : R} : (R.ok (.bool true)).cnd y z = y := rfl
@[simp] theorem cnd_f1 {y z : R} : (R.ok (.bool false)).cnd y z = z := rfl
@[simp] theorem cnd_e1 {y z : R} : (R.exc c).cnd y z = .exc c := rfl
@[simp] theorem cnd_dec {y z : R} {b : Bool} : (R.ok (.bool b)).cnd y z = if b = true then y else z := by cases b <;> rfl
@[simp] theorem fAnd_ap : fAnd f g δ = (f δ).cnd (g δ) (.ok (.bool false)) := rfl
@[simp] theorem fOr_ap : fOr f g δ = (f δ).cnd (.ok (.bool true)) (g δ) := rfl
@[simp] theorem fNot_ap : fNot f δ = (f δ).cnd (.ok (.bool false)) (.ok (.bool true)) := rfl
@[simp] theorem fIf_ap : fIf fc fa fb δ = (fc δ).cnd (fa δ) (fb δ) := rfl
@[simp] theorem tst_ok {b : Bool} : (R.ok (.bool b)).tst = .ok (.bool b) := rfl
@[simp] theorem tst_exc : (R.exc c).tst = .exc c := rfl
@[simp] theorem fTst_ap : fTst f δ = (f δ).tst := rfl
@[simp] theorem fChain_ap {g g' : D → D → R} : fChain g g' fa fb fc δ = (fa δ).bind fun a => (fb δ).bind fun b => (g a b).cnd ((fc δ).bind fun c => g' b c) (.ok (.bool false)) := rfl
@[simp] theorem fIsi_ap {T : String} : fIsi T fe δ = (fe δ).bind fun d => .ok (.bool (isT T d)) := rfl
@[simp] theorem fANil_ap : fANil δ = .ok [] := rfl
@[simp] theorem fACons_ap {fs : List Sl → RL} : fACons fe fs δ = (match fe δ with | .ok d => (fs δ).consTo d | .new ds => (fs δ).consTo (.list ds) | .exc c => .exc c | .bad => .bad) := rfl
@[simp] theorem consTo_ok : (RL.ok ds).consTo d = .ok (d :: ds) := rfl
@[simp] theorem to_ok {k : List D → R} : (RL.ok ds).to k = k ds := rfl
@[simp] theorem fCall_ap {h : List D → R} {fs : List Sl → RL} : fCall h fs δ = (fs δ).to h := rfl
@[simp] theorem fTup_ap {fs : List Sl → RL} : fTup fs δ = (fs δ).to fun ds => if ds.length ≤ LIM then .ok (.tuple ds) else .bad := rfl
@[simp] theorem fLst_ap {fs : List Sl → RL} : fLst fs δ = (fs δ).to fun ds => if ds.length ≤ LIM then .new ds else .bad := rfl
@[simp] theorem fPart_ap : fPart f δ = (match f δ with | .ok (.int i) => .ok (some i) | .exc c => .exc c | _ => .bad) := rfl
@[simp] theorem robind_ok {o : Option Int} {k : Option Int → R} : (RO.ok o).bind k = k o := rfl
@[simp] theorem fUx_ap0 : True := trivial
@[simp] theorem fSl_ap {fl fh : List Sl → RO} : fSl fa fl fh δ = (fa δ).bind fun a => (fl δ).bind fun lo => (fh δ).bind fun hi => gSl a lo hi := rfl
/-- statements -/
@[simp] theorem fSeq_ap : fSeq F1 F2 δ = (F1 δ).andThen F2 := rfl
@[simp] theorem then_nx {k : List Sl → Fl} : (Fl.nx δ).andThen k = k δ := rfl
@[simp] theorem then_rt {k : List Sl → Fl} : (Fl.rt d).andThen k = .rt d := rfl
@[simp] theorem then_rn {k : List Sl → Fl} : (Fl.rn ds).andThen k = .rn ds := rfl
@[simp] theorem then_exc {k : List Sl → Fl} : (Fl.exc c δ).andThen k = .exc c δ := rfl
@[simp] theorem then_bk {k : List Sl → Fl} : (Fl.bk δ).andThen k = .bk δ := rfl
@[simp] theorem then_ct {k : List Sl → Fl} : (Fl.ct δ).andThen k = .ct δ := rfl
@[simp] theorem then_bad {k : List Sl → Fl} : Fl.bad.andThen k = .bad := rfl
@[simp] theorem then_ite {p : Prop} [Decidable p] {x y : Fl} {k : List Sl → Fl} : (if p then x else y).andThen k = if p then x.andThen k else y.andThen k := by split <;> rfl
@[simp] theorem toR_nx : (Fl.nx δ).toR = .ok .none := rfl
@[simp] theorem toR_rt : (Fl.rt d).toR = .ok d := rfl
@[simp] theorem toR_rn : (Fl.rn ds).toR = .new ds := rfl
@[simp] theorem toR_exc : (Fl.exc c δ).toR = .exc c := rfl
@[simp] theorem toR_ite {p : Prop} [Decidable p] {x y : Fl} : (if p then x else y).toR = if p then x.toR else y.toR := by split <;> rfl
@[simp] theorem thaw_nil : thaw [] = [] := rfl
@[simp] theorem thaw_v : thaw (.v d :: δ) = .v d :: thaw δ := rfl
@[simp] theorem thaw_un : thaw (.un :: δ) = .un :: thaw δ := rfl
@[simp] theorem thaw_dct {m : Dm} : thaw (.dct m :: δ) = .rd m :: thaw δ := rfl
@[simp] theorem thaw_rd {m : Dm} : thaw (.rd m :: δ) = .rd m :: thaw δ := rfl
@[simp] theorem thaw_br {p : Addr} : thaw (.br p ds :: δ) = .v (.list ds) :: thaw δ := rfl
@[simp] theorem thaw_ob {a : Addr} : thaw (.ob a :: δ) = .ob a :: thaw δ := rfl
@[simp] theorem thaw_own : thaw (.own ds :: δ) = .v (.list ds) :: thaw δ := rfl
/-- what statements make of an answer -/
def R.drop (r : R) (δ : List Sl) : Fl := match r with | .ok _ => .nx δ | .new _ => .nx δ | .exc c => .exc c δ | .bad => .bad
def R.ret (r : R) (δ : List Sl) : Fl := match r with | .ok d => .rt d | .new ds => .rn ds | .exc c => .exc c δ | .bad => .bad
def R.retB (r : R) (δ : List Sl) : Fl := match r with | .ok d => if flat d = true then .rt d else .bad | .new ds => if flatL ds = true then .rn ds else .bad | .exc c => .exc c δ | .bad => .bad
def R.sto (r : R) (δ : List Sl) (i : Nat) : Fl := match r with | .ok d => .nx (δ.set i (.v d)) | .new ds => .nx (δ.set i (.v (.list ds))) | .exc c => .exc c δ | .bad => .bad
def R.stoO (r : R) (δ : List Sl) (i : Nat) : Fl := match r with | .ok d => .nx (δ.set i (.v d)) | .new ds => .nx (δ.set i (.own ds)) | .exc c => .exc c δ | .bad => .bad
def R.stoB (r : R) (δ : List Sl) (i : Nat) : Fl := match r with | .ok d => if flat d = true then .nx (δ.set i (.v d)) else .bad | .new ds => if flatL ds = true then .nx (δ.set i (.v (.list ds))) else .bad | .exc c => .exc c δ | .bad => .bad
def R.stoBO (r : R) (δ : List Sl) (i : Nat) : Fl := match r with | .ok d => if flat d = true then .nx (δ.set i (.v d)) else .bad | .new ds => if flatL ds = true then .nx (δ.set i (.own ds)) else .bad | .exc c => .exc c δ | .bad => .bad
section
variable {x : R}
@[simp] theorem drop_ok : (R.ok d).drop δ = .nx δ := rfl
@[simp] theorem drop_new : (R.new ds).drop δ = .nx δ := rfl
@[simp] theorem drop_exc : (R.exc c).drop δ = .exc c δ := rfl
@[simp] theorem ret_ok : (R.ok d).ret δ = .rt d := rfl
@[simp] theorem ret_new : (R.new ds).ret δ = .rn ds := rfl
@[simp] theorem ret_exc : (R.exc c).ret δ = .exc c δ := rfl
@[simp] theorem ret_ite {p : Prop} [Decidable p] {x y : R} : (if p then x else y).ret δ = if p then x.ret δ else y.ret δ := by split <;> rfl
@[simp] theorem retB_ok : (R.ok d).retB δ = if flat d = true then .rt d else .bad := rfl
@[simp] theorem retB_new : (R.new ds).retB δ = if flatL ds = true then .rn ds else .bad := rfl
@[simp] theorem retB_exc : (R.exc c).retB δ = .exc c δ := rfl
@[simp] theorem sto_ok : (R.ok d).sto δ i = .nx (δ.set i (.v d)) := rfl
@[simp] theorem sto_new : (R.new ds).sto δ i = .nx (δ.set i (.v (.list ds))) := rfl
@[simp] theorem sto_exc : (R.exc c).sto δ i = .exc c δ := rfl
@[simp] theorem stoO_ok : (R.ok d).stoO δ i = .nx (δ.set i (.v d)) := rfl
@[simp] theorem stoO_new : (R.new ds).stoO δ i = .nx (δ.set i (.own ds)) := rfl
@[simp] theorem stoO_exc : (R.exc c).stoO δ i = .exc c δ := rfl
@[simp] theorem stoB_ok : (R.ok d).stoB δ i = if flat d = true then .nx (δ.set i (.v d)) else .bad := rfl
@[simp] theorem stoB_new : (R.new ds).stoB δ i = if flatL ds = true then .nx (δ.set i (.v (.list ds))) else .bad := rfl
@[simp] theorem stoB_exc : (R.exc c).stoB δ i = .exc c δ := rfl
@[simp] theorem stoBO_ok : (R.ok d).stoBO δ i = if flat d = true then .nx (δ.set i (.v d)) else .bad := rfl
@[simp] theorem stoBO_new : (R.new ds).stoBO δ i = if flatL ds = true then .nx (δ.set i (.own ds)) else .bad := rfl
@[simp] theorem stoBO_exc : (R.exc c).stoBO δ i = .exc c δ := rfl
end
@[simp high] theorem cnd_and {b c : Bool} : (R.ok (.bool b)).cnd (.ok (.bool c)) (.ok (.bool false)) = .ok (.bool (b && c)) := by cases b <;> rfl
@[simp high] theorem cnd_or {b c : Bool} : (R.ok (.bool b)).cnd (.ok (.bool true)) (.ok (.bool c)) = .ok (.bool (b || c)) := by cases b <;> rfl
@[simp high] theorem cnd_not {b : Bool} : (R.ok (.bool b)).cnd (.ok (.bool false)) (.ok (.bool true)) = .ok (.bool (!b)) := by cases b <;> rfl
@[simp] theorem bind_ite {p : Prop} [Decidable p] {x y : R} {k : D → R} : (if p then x else y).bind k = if p then x.bind k else y.bind k := by split <;> rfl
@[simp] theorem tst_ite {p : Prop} [Decidable p] {x y : R} : (if p then x else y).tst = if p then x.tst else y.tst := by split <;> rfl
@[simp] theorem fDrop_ap : fDrop f δ = (f (thaw δ)).drop δ := rfl
@[simp] theorem fRet_ap : fRet f δ = (f δ).ret δ := rfl
@[simp] theorem fRetB_ap : fRetB f δ = (f (thaw δ)).retB δ := rfl
@[simp] theorem fRetV_v {d : D} : fRetV 0 (.v d :: δ) = .rt d := rfl
@[simp] theorem fRetV_o : fRetV 0 (.own ds :: δ) = .rn ds := rfl
@[simp] theorem fRetV_s {s : Sl} : fRetV (n + 1) (s :: δ) = fRetV n δ := rfl
@[simp] theorem fSet_ap : fSet i f δ = (f δ).sto δ i := rfl
@[simp] theorem fSetO_ap : fSetO i f δ = (f δ).stoO δ i := rfl
@[simp] theorem fSetB_ap : fSetB i f δ = (f (thaw δ)).stoB δ i := rfl
@[simp] theorem fSetBO_ap : fSetBO i f δ = (f (thaw δ)).stoBO δ i := rfl
theorem fIfS_ap0 : fIfS fc F1 F2 δ = (match fc (thaw δ) with | .ok (.bool true) => F1 δ | .ok (.bool false) => F2 δ | .exc c => .exc c δ | _ => .bad) := rfl
/-- the flow behind a test's answer -/
def R.cnf (r : R) (δ : List Sl) (y n : Fl) : Fl := match r with
  | .ok (.bool true) => y
  | .ok (.bool false) => n
  | .exc c => .exc c δ
  | _ => .bad
@[simp] theorem fIfS_ap : fIfS fc F1 F2 δ = (fc (thaw δ)).cnf δ (F1 δ) (F2 δ) := by
  rw [fIfS_ap0]
  unfold R.cnf
  split <;> rfl
@[simp] theorem cnf_b {y z : Fl} {b : Bool} : (R.ok (.bool b)).cnf δ y z = if b = true then y else z := by cases b <;> rfl
@[simp] theorem cnf_e {y z : Fl} : (R.exc c).cnf δ y z = .exc c δ := rfl
@[simp] theorem fFor_ap {fi : List Sl → RL} {set : D → List Sl → Option (List Sl)} : fFor fi set F δ = (match fi δ with | .ok ds => forGo set F ds δ | .exc c => .exc c δ | .bad => .bad) := rfl
@[simp] theorem fRg_ap {h : List D → RL} {fs : List Sl → RL} : fRg h fs δ = (match fs δ with | .ok ds => h ds | .exc c => .exc c | .bad => .bad) := rfl
@[simp] theorem fRgB_ap {h : List D → RL} {fs : List Sl → RL} : fRgB h fs δ = fRg h fs (thaw δ) := rfl
@[simp] theorem fSeqI_ap : fSeqI fe δ = RL.to2 (fe δ) seqD := rfl
@[simp] theorem fRevI_ap : fRevI fe δ = RL.to2 (fe δ) revD := rfl
@[simp] theorem to2_ok {k : D → RL} : RL.to2 (.ok d) k = k d := rfl
@[simp] theorem to2_new {k : D → RL} : RL.to2 (.new ds) k = k (.list ds) := rfl
@[simp] theorem seqD_l : seqD (.list ds) = .ok ds := rfl
@[simp] theorem seqD_t : seqD (.tuple ds) = .ok ds := rfl
@[simp] theorem revD_l : revD (.list ds) = .ok ds.reverse := rfl
@[simp] theorem revD_t : revD (.tuple ds) = .ok ds.reverse := rfl
@[simp] theorem setN_ap : setN i d δ = some (δ.set i (.v d)) := rfl
/-- operators -/
@[simp] theorem gAdd_i {i j : Int} : gAdd (.int i) (.int j) = .ok (.int (i + j)) := rfl
@[simp] theorem gSub_i {i j : Int} : gSub (.int i) (.int j) = .ok (.int (i - j)) := rfl
@[simp] theorem gCmp_i {p : Int → Int → Bool} {i j : Int} : gCmp p (.int i) (.int j) = .ok (.bool (p i j)) := rfl
@[simp] theorem gMod_i {i j : Int} : gMod (.int i) (.int j) = if 0 < j then .ok (.int (i % j)) else .bad := rfl
@[simp] theorem gFdiv_i {i j : Int} : gFdiv (.int i) (.int j) = if 0 < j ∧ j < 2 ^ 64 then .ok (.int (i / j)) else .bad := rfl
@[simp] theorem gMul_i {i j : Int} : gMul (.int i) (.int j) = if (-(2 ^ 64) < i ∧ i < 2 ^ 64) ∨ (-(2 ^ 64) < j ∧ j < 2 ^ 64) then .ok (.int (i * j)) else .bad := rfl
@[simp] theorem gLen_l : gLen [.list ds] = .ok (.int ds.length) := rfl
@[simp] theorem gLen_t : gLen [.tuple ds] = .ok (.int ds.length) := rfl
@[simp] theorem gTuple_l : gTuple [.list ds] = .ok (.tuple ds) := rfl
@[simp] theorem gTuple_t : gTuple [.tuple ds] = .ok (.tuple ds) := rfl
@[simp] theorem gList_l : gList [.list ds] = .new ds := rfl
@[simp] theorem gList_t : gList [.tuple ds] = .new ds := rfl
@[simp] theorem gMin2_i {i j : Int} : gMin2 [.int i, .int j] = .ok (.int (if j < i then j else i)) := rfl
@[simp] theorem gMax2_i {i j : Int} : gMax2 [.int i, .int j] = .ok (.int (if j > i then j else i)) := rfl
@[simp] theorem gAbs_i {i : Int} : gAbs [.int i] = .ok (.int (if i < 0 then -i else i)) := rfl
@[simp] theorem gSl_t {lo hi : Option Int} : gSl (.tuple ds) lo hi = .ok (.tuple (cutD ds lo hi)) := rfl
@[simp] theorem gSl_l {lo hi : Option Int} : gSl (.list ds) lo hi = .new (cutD ds lo hi) := rfl
/-- == on numbers, tuples and lists of numbers -/
def ins (ns : List Int) : List D := ns.map PyData.int
theorem plain_ints : ∀ ns : List Int, PyData.plainAll (ins ns) = true
  | [] => by unfold ins; simp [PyData.plainAll]
  | n :: ns => by
    have := plain_ints ns
    unfold ins at this ⊢
    simp only [List.map_cons, PyData.plainAll, PyData.plain, Bool.true_and]
    exact this
theorem depth_ints : ∀ ns : List Int, PyData.depthAll (ins ns) = 0
  | [] => by unfold ins; simp [PyData.depthAll]
  | n :: ns => by
    have := depth_ints ns
    unfold ins at this ⊢
    simp only [List.map_cons, PyData.depthAll, PyData.depth, this]
    rfl
theorem eqv_ints : ∀ ns ms : List Int, PyData.eqvAll (ins ns) (ins ms) = decide (ns = ms)
  | [], [] => by unfold ins; simp [PyData.eqvAll]
  | [], _ :: _ => by unfold ins; simp [PyData.eqvAll]
  | _ :: _, [] => by unfold ins; simp [PyData.eqvAll]
  | n :: ns, m :: ms => by
    have := eqv_ints ns ms
    unfold ins at this ⊢
    simp only [List.map_cons, PyData.eqvAll, PyData.eqv, this]
    by_cases h : n = m <;> simp [h]
theorem cmpb_int {i : Int} : cmpb (.int i) = true := by simp [cmpb, PyData.plain, PyData.depth]
theorem cmpb_tints {ns : List Int} : cmpb (.tuple (ins ns)) = true := by simp [cmpb, PyData.plain, PyData.depth, plain_ints, depth_ints]
theorem cmpb_lints {ns : List Int} : cmpb (.list (ins ns)) = true := by simp [cmpb, PyData.plain, PyData.depth, plain_ints, depth_ints]
@[simp] theorem gEq_i {i j : Int} : gEq (.int i) (.int j) = .ok (.bool (decide (i = j))) := by
  unfold gEq
  rw [if_pos ⟨cmpb_int, cmpb_int⟩, PyData.eqv]
  by_cases h : i = j <;> simp [h]
@[simp] theorem gNe_i {i j : Int} : gNe (.int i) (.int j) = .ok (.bool (!decide (i = j))) := by
  unfold gNe
  rw [if_pos ⟨cmpb_int, cmpb_int⟩, PyData.eqv]
  by_cases h : i = j <;> simp [h]
theorem gEq_t {ns ms : List Int} : gEq (.tuple (ins ns)) (.tuple (ins ms)) = .ok (.bool (decide (ns = ms))) := by
  unfold gEq
  rw [if_pos ⟨cmpb_tints, cmpb_tints⟩, PyData.eqv, eqv_ints]
theorem gNe_t {ns ms : List Int} : gNe (.tuple (ins ns)) (.tuple (ins ms)) = .ok (.bool (!decide (ns = ms))) := by
  unfold gNe
  rw [if_pos ⟨cmpb_tints, cmpb_tints⟩, PyData.eqv, eqv_ints]
theorem gEq_l {ns ms : List Int} : gEq (.list (ins ns)) (.list (ins ms)) = .ok (.bool (decide (ns = ms))) := by
  unfold gEq
  rw [if_pos ⟨cmpb_lints, cmpb_lints⟩, PyData.eqv, eqv_ints]
theorem gNe_l {ns ms : List Int} : gNe (.list (ins ns)) (.list (ins ms)) = .ok (.bool (!decide (ns = ms))) := by
  unfold gNe
  rw [if_pos ⟨cmpb_lints, cmpb_lints⟩, PyData.eqv, eqv_ints]
theorem inD_ints {i : Int} : ∀ {ns : List Int}, inD (.int i) (ins ns) = decide (i ∈ ns)
  | [] => by unfold inD ins; simp
  | n :: ns => by
    have := inD_ints (i := i) (ns := ns)
    unfold inD ins at this ⊢
    rw [List.map_cons, List.any_cons, this, PyData.eqv]
    by_cases h : i = n
    · simp [h]
    · simp [h, Ne.symm h]
theorem gIn_t {b : Bool} {i : Int} {ns : List Int} : gIn b (.int i) (.tuple (ins ns)) = .ok (.bool (if b then !decide (i ∈ ns) else decide (i ∈ ns))) := by
  show (if cmpb (.int i) = true ∧ PyData.plainAll (ins ns) = true then R.ok (.bool (if b then !inD (.int i) (ins ns) else inD (.int i) (ins ns))) else .bad) = _
  rw [if_pos ⟨cmpb_int, plain_ints ns⟩, inD_ints]
theorem gIn_l {b : Bool} {i : Int} {ns : List Int} : gIn b (.int i) (.list (ins ns)) = .ok (.bool (if b then !decide (i ∈ ns) else decide (i ∈ ns))) := by
  show (if cmpb (.int i) = true ∧ PyData.plainAll (ins ns) = true then R.ok (.bool (if b then !inD (.int i) (ins ns) else inD (.int i) (ins ns))) else .bad) = _
  rw [if_pos ⟨cmpb_int, plain_ints ns⟩, inD_ints]
theorem flat_ints : ∀ ns : List Int, flatL (ins ns) = true
  | [] => by unfold ins; simp [flatL]
  | n :: ns => by
    have := flat_ints ns
    unfold ins at this ⊢
    simp only [List.map_cons, flatL, flat, Bool.true_and]
    exact this
@[simp] theorem flat_int {i : Int} : flat (.int i) = true := by rw [flat]
@[simp] theorem flat_bool {b : Bool} : flat (.bool b) = true := by rw [flat]
@[simp] theorem flat_none : flat .none = true := by rw [flat]
@[simp] theorem flat_str {x : Str} : flat (.str x) = true := by rw [flat]
@[simp] theorem flat_tup : flat (.tuple ds) = flatL ds := by rw [flat]
@[simp] theorem ints_length {ns : List Int} : (ins ns).length = ns.length := by unfold ins; simp
@[simp] theorem gLen_scr {ns : List Int} : gLen [scr ns] = .ok (.int ns.length) := by
  show R.ok (.int ((ns.map PyData.int).length : Int)) = _
  rw [List.length_map]
theorem atI_lt {α : Type} {xs : List α} {k : Nat} (h : k < xs.length) : atI xs (k : Int) = some xs[k] := atI_nat (List.getElem?_eq_getElem h)
theorem gIx_scr {ns : List Int} {k : Nat} (h : k < ns.length) : gIx (scr ns) (.int k) = .ok (.int ns[k]) := by
  show (match atI (ns.map PyData.int) (k : Int) with | some d => R.ok d | none => .bad) = _
  rw [atI_lt (by simpa using h)]
  simp
theorem gIx_t {ns : List Int} {k : Nat} (h : k < ns.length) : gIx (.tuple (ins ns)) (.int k) = .ok (.int ns[k]) := by
  show (match atI (ns.map PyData.int) (k : Int) with | some d => R.ok d | none => .bad) = _
  rw [atI_lt (by simpa using h)]
  simp
theorem gIx_l {ns : List Int} {k : Nat} (h : k < ns.length) : gIx (.list (ins ns)) (.int k) = .ok (.int ns[k]) := by
  show (match atI (ns.map PyData.int) (k : Int) with | some d => R.ok d | none => .bad) = _
  rw [atI_lt (by simpa using h)]
  simp
/-- whether a thing is a whole number -/
def isWhole : D → Bool
  | .int _ => true
  | _ => false
@[simp] theorem LIM1 : (1 ≤ LIM) = True := eq_true (by unfold LIM; omega)
@[simp] theorem LIM2 : (2 ≤ LIM) = True := eq_true (by unfold LIM; omega)
@[simp] theorem LIM3 : (3 ≤ LIM) = True := eq_true (by unfold LIM; omega)
theorem LIMn {n : Nat} (h : n ≤ 100000) : n ≤ LIM := by unfold LIM; exact h
@[simp] theorem isWhole_int {i : Int} : isWhole (.int i) = true := rfl
theorem cat_t {xs ys : List D} (h : xs.length + ys.length ≤ 100000) : gAdd (.tuple xs) (.tuple ys) = .ok (.tuple (xs ++ ys)) := by
  have e : gAdd (.tuple xs) (.tuple ys) = if xs.length + ys.length ≤ LIM then .ok (.tuple (xs ++ ys)) else .bad := rfl
  rw [e]; exact if_pos h
theorem cat_l {xs ys : List D} (h : xs.length + ys.length ≤ 100000) : gAdd (.list xs) (.list ys) = .new (xs ++ ys) := by
  have e : gAdd (.list xs) (.list ys) = if xs.length + ys.length ≤ LIM then .new (xs ++ ys) else .bad := rfl
  rw [e]; exact if_pos h
theorem isWhole_eq (d : D) : (isT "int" d && !isT "bool" d) = isWhole d := by
  cases d with
  | dict kvs =>
    show ((("int" : String) == tyN (.dict kvs)) && !(("bool" : String) == tyN (.dict kvs))) = false
    unfold tyN
    split <;> first | rfl | (rename_i h; cases h)
  | _ => rfl
/-! ### loops -/
theorem rgD_zero {lo c : Int} : rgD lo c 0 = [] := rfl
theorem rgD_succ {lo c : Int} {n : Nat} : rgD lo c (n + 1) = .int lo :: rgD (lo + c) c n := by
  unfold rgD
  rw [List.range_succ_eq_map, List.map_cons, List.map_map]
  congr 1
  · simp
  · apply List.map_congr_left
    intro i _
    show PyData.int (lo + ((i + 1 : Nat) : Int) * c) = PyData.int (lo + c + (i : Int) * c)
    congr 1
    have : ((i + 1 : Nat) : Int) = (i : Int) + 1 := by omega
    rw [this, Int.add_mul, Int.one_mul]
    omega
theorem rgD_nat {n : Nat} : rgD 0 1 n = ins ((List.range n).map fun i => ((i : Nat) : Int)) := by
  unfold rgD ins
  rw [List.map_map]
  apply List.map_congr_left
  intro i _
  simp
/-- a loop whose turns only store -/
theorem forGo_fold {α : Type} {set : D → List Sl → Option (List Sl)} {body : List Sl → Fl} (Φ : Sl → α → List Sl) (upd : α → D → α) (I : α → Prop) : ∀ (ds : List D) (s : Sl) (a : α),
    (∀ d ∈ ds, ∀ s a, I a → ∃ δ', set d (Φ s a) = some δ' ∧ (body δ' = .nx (Φ (.v d) (upd a d)) ∨ body δ' = .ct (Φ (.v d) (upd a d))) ∧ I (upd a d)) → I a → ∃ s', forGo set body ds (Φ s a) = .nx (Φ s' (ds.foldl upd a)) ∧ I (ds.foldl upd a)
  | [], s, a, _, h => ⟨s, rfl, h⟩
  | d :: ds, s, a, h, hi => by
    obtain ⟨δ', h1, h2, h3⟩ := h d List.mem_cons_self s a hi
    obtain ⟨s', e, i'⟩ := forGo_fold Φ upd I ds (.v d) (upd a d) (fun d' hd => h d' (List.mem_cons_of_mem _ hd)) h3
    refine ⟨s', ?_, i'⟩
    unfold forGo
    simp only [h1]
    rcases h2 with h2 | h2
    · simp only [h2]; exact e
    · simp only [h2]; exact e
/-- comprehensions -/
theorem lcGo_filter {step : D → Option (Option D)} (p : D → Bool) (g : D → D) : ∀ ds : List D, (∀ d ∈ ds, step d = if p d = true then some (some (g d)) else some none) → lcGo step ds = some ((ds.filter p).map g)
  | [], _ => rfl
  | d :: ds, h => by
    unfold lcGo
    rw [h d List.mem_cons_self, lcGo_filter p g ds fun d' hd => h d' (List.mem_cons_of_mem _ hd)]
    cases hp : p d with
    | true => simp [hp]
    | false => simp [hp]
theorem lcGo_none {step : D → Option (Option D)} : ∀ ds : List D, (∀ d ∈ ds, step d = some none) → lcGo step ds = some []
  | [], _ => rfl
  | d :: ds, h => by
    unfold lcGo
    rw [h d List.mem_cons_self]
    exact lcGo_none ds fun d' hd => h d' (List.mem_cons_of_mem _ hd)
@[simp] theorem take_ins {ns : List Int} {k : Nat} : (ins ns).take k = ins (ns.take k) := by unfold ins; simp
@[simp] theorem drop_ins {ns : List Int} {k : Nat} : (ins ns).drop k = ins (ns.drop k) := by unfold ins; simp
@[simp] theorem app_ins {ns ms : List Int} : ins ns ++ ins ms = ins (ns ++ ms) := by unfold ins; simp
theorem ins_nil : ([] : List D) = ins [] := rfl
theorem ins_cons {n : Int} {ns : List Int} : .int n :: ins ns = ins (n :: ns) := rfl
theorem mem_ins {d : D} {ns : List Int} : d ∈ ins ns ↔ ∃ x ∈ ns, d = .int x := by
  unfold ins
  rw [List.mem_map]
  exact ⟨fun ⟨x, h, e⟩ => ⟨x, h, e.symm⟩, fun ⟨x, h, e⟩ => ⟨x, h, e.symm⟩⟩
theorem lcGo_map {step : D → Option (Option D)} (g : D → D) : ∀ ds : List D, (∀ d ∈ ds, step d = some (some (g d))) → lcGo step ds = some (ds.map g)
  | [], _ => rfl
  | d :: ds, h => by
    unfold lcGo
    rw [h d List.mem_cons_self, lcGo_map g ds fun d' hd => h d' (List.mem_cons_of_mem _ hd)]
    rfl
@[simp] theorem fLc_ap {fi : List Sl → RL} {set : D → List Sl → Option (List Sl)} {ft fe : List Sl → R} {vs : List Nat} : fLc fi set ft fe vs δ = (match fi δ with | .ok ds => (match lcGo (lcStep set ft fe (wipeD δ vs)) ds with | some r => if ds.length ≤ LIM then .new r else .bad | none => .bad) | .exc c => .exc c | .bad => .bad) := rfl
end
end DL
set_option Elab.async false
set_option linter.all false
set_option maxRecDepth 100000
set_option maxHeartbeats 4000000
namespace DM
open PySem DL
noncomputable section
def F_b_is_whole : List Sl → Fl := (fRet (fAnd (fIsi "int" (fVar 0)) (fNot (fIsi "bool" (fVar 0)))))
def r_b_is_whole : List D → R := run 1 1 F_b_is_whole
def F_b_is_among : List Sl → Fl := (fRet (fAnd (fCall r_b_is_whole (fACons (fVar 0) fANil)) (fChain gLe gLe (fVar 1) (fVar 0) (fVar 2))))
def r_b_is_among : List D → R := run 3 3 F_b_is_among
def F_b_need_setting : List Sl → Fl := (fSeq (fIfS (fOr (fNot (fTst (fIsi "tuple" (fVar 0)))) (fNot (fTst (fChain gLe gLe (fC (.int 1)) (fCall gLen (fACons (fVar 0) fANil)) (fC (.int 40)))))) (fun δ => .exc (Str.ofString "BadSetting") δ) (.nx))
    (fFor (fSeqI (fVar 0)) (setN 1) (fIfS (fNot (fTst (fCall r_b_is_among (fACons (fVar 1) (fACons (fC (.int 0)) (fACons (fC (.int 1)) fANil)))))) (fun δ => .exc (Str.ofString "BadSetting") δ) (.nx))))
def r_b_need_setting : List D → R := run 1 2 F_b_need_setting
def F_b_free_rings3 : List Sl → Fl := (fSeq (fSetO 1 (fLst (fACons (fC (.int 0)) fANil)))
    (fSeq (fIfS (fTst (fOp (gIn false) (fC (.int 1)) (fVar 0))) (fSeq (fSet 2 (fOp gAdd (fIdx (fVar 0) (fC (.int 1))) (fC (.int 1))))
      (fIfS (fTst (fOp gLt (fVar 2) (fCall gLen (fACons (fVar 0) fANil)))) (fApp 1 (fVar 2)) (.nx))) (.nx))
    (fRetV 1)))
def r_b_free_rings3 : List D → R := run 1 3 F_b_free_rings3
def F_b_turned : List Sl → Fl := (fRet (fOp gAdd (fOp gAdd (fSl (fVar 0) (fun _ => .ok none) (fPart (fVar 1))) (fTup (fACons (fOp gSub (fC (.int 1)) (fOp gIx (fVar 0) (fVar 1))) fANil))) (fSl (fVar 0) (fPart (fOp gAdd (fVar 1) (fC (.int 1)))) (fun _ => .ok none))))
def r_b_turned : List D → R := run 2 2 F_b_turned
def F_b_changeable3 : List Sl → Fl := (fSeq (fDrop (fCall r_b_need_setting (fACons (fVar 0) fANil)))
    (fRet (fCall r_b_free_rings3 (fACons (fVar 0) fANil))))
def r_b_changeable3 : List D → R := run 1 1 F_b_changeable3
def F_b_changed3 : List Sl → Fl := (fSeq (fDrop (fCall r_b_need_setting (fACons (fVar 0) fANil)))
    (fSeq (fIfS (fOr (fNot (fTst (fCall r_b_is_whole (fACons (fVar 1) fANil)))) (fTst (fOp (gIn true) (fVar 1) (fCall r_b_free_rings3 (fACons (fVar 0) fANil))))) (fun δ => .exc (Str.ofString "NoMove") δ) (.nx))
    (fRet (fCall r_b_turned (fACons (fVar 0) (fACons (fVar 1) fANil))))))
def r_b_changed3 : List D → R := run 2 2 F_b_changed3
def F_l_cell_at : List Sl → Fl := (fSeq (fIfS (fTst (fOp gLt (fVar 1) (fCall gLen (fACons (fVar 0) fANil)))) (fRet (fOp gIx (fVar 0) (fVar 1))) (.nx))
    (fRet (fC (.int 0))))
def r_l_cell_at : List D → R := run 2 2 F_l_cell_at
def F_l_mixed : List Sl → Fl := (fRet (fOp gMod (fOp gMul (fOp gAdd (fOp gAdd (fCall r_l_cell_at (fACons (fVar 0) (fACons (fVar 1) fANil))) (fOp gMul (fC (.int 7919)) (fVar 1))) (fC (.int 1))) (fC (.int 48271))) (fC (.int 2147483647))))
def r_l_mixed : List D → R := run 2 2 F_l_mixed
def F_l_whole : List Sl → Fl := (fRet (fAnd (fIsi "int" (fVar 0)) (fNot (fIsi "bool" (fVar 0)))))
def r_l_whole : List D → R := run 1 1 F_l_whole
def F_l_twos : List Sl → Fl := (fSeq (fSet 1 (fC (.int 1)))
    (fSeq (fFor (fRg rg1 (fACons (fVar 0) fANil)) (setN 2) (fSet 1 (fOp gMul (fVar 1) (fC (.int 2)))))
    (fRetV 1)))
def r_l_twos : List D → R := run 1 3 F_l_twos
def F_l_setting : List Sl → Fl := (fSeq (fSet 3 (fOp gMod (fOp gAdd (fOp gMul (fCall r_l_cell_at (fACons (fVar 0) (fACons (fVar 1) fANil))) (fC (.int 1234577))) (fOp gMul (fCall r_l_mixed (fACons (fVar 0) (fACons (fVar 1) fANil))) (fC (.int 40503)))) (fCall r_l_twos (fACons (fVar 2) fANil))))
    (fSeq (fIfS (fTst (fOp gEq (fOp gMod (fCall r_l_mixed (fACons (fVar 0) (fACons (fOp gAdd (fVar 1) (fC (.int 1))) fANil))) (fC (.int 2))) (fC (.int 1)))) (fSet 3 (fOp gSub (fVar 3) (fOp gMod (fVar 3) (fCall r_l_twos (fACons (fOp gMod (fOp gFdiv (fCall r_l_mixed (fACons (fVar 0) (fACons (fOp gAdd (fVar 1) (fC (.int 1))) fANil))) (fC (.int 2))) (fVar 2)) fANil))))) (.nx))
    (fRet (fCall gTuple (fACons (fLc (fRg rg1 (fACons (fVar 2) fANil)) (setN 4) (fC (.bool true)) (fOp gMod (fOp gFdiv (fVar 3) (fCall r_l_twos (fACons (fVar 4) fANil))) (fC (.int 2))) [4]) fANil)))))
def r_l_setting : List D → R := run 3 5 F_l_setting
def F_l_may : List Sl → Fl := (fSeq (fIfS (fTst (fOp gEq (fVar 1) (fC (.int 0)))) (fRet (fC (.bool true))) (.nx))
    (fRet (fAnd (fOp gEq (fOp gIx (fVar 0) (fOp gSub (fVar 1) (fC (.int 1)))) (fC (.int 1))) (fOp (gIn true) (fC (.int 1)) (fSl (fVar 0) (fun _ => .ok none) (fPart (fOp gSub (fVar 1) (fC (.int 1)))))))))
def r_l_may : List D → R := run 2 2 F_l_may
def F_l_turned : List Sl → Fl := (fRet (fOp gAdd (fOp gAdd (fSl (fVar 0) (fun _ => .ok none) (fPart (fVar 1))) (fTup (fACons (fOp gSub (fC (.int 1)) (fOp gIx (fVar 0) (fVar 1))) fANil))) (fSl (fVar 0) (fPart (fOp gAdd (fVar 1) (fC (.int 1)))) (fun _ => .ok none))))
def r_l_turned : List D → R := run 2 2 F_l_turned
def F_l_is_setting : List Sl → Fl := (fSeq (fIfS (fOr (fNot (fTst (fIsi "tuple" (fVar 0)))) (fTst (fOp gNe (fCall gLen (fACons (fVar 0) fANil)) (fVar 1)))) (fRet (fC (.bool false))) (.nx))
    (fRet (fOp gEq (fLc (fSeqI (fVar 0)) (setN 2) (fOr (fNot (fTst (fCall r_l_whole (fACons (fVar 2) fANil)))) (fTst (fOp (gIn true) (fVar 2) (fTup (fACons (fC (.int 0)) (fACons (fC (.int 1)) fANil)))))) (fVar 2) [2]) (fLst fANil))))
def r_l_is_setting : List D → R := run 2 3 F_l_is_setting
def F_l_word (a : Addr) (c : Str) : List Sl → Fl := (fSeq (fSet 1 (fLst (fACons (fIsX a (c == "BadBar") 0) (fACons (fIsX a (c == "BadSetting") 0) (fACons (fIsX a (c == "BadChest") 0) (fACons (fIsX a (c == "BadRow") 0) fANil))))))
    (fSeq (fSet 1 (fOp gAdd (fVar 1) (fLst (fACons (fIsX a (c == "BadNumber") 0) (fACons (fIsX a (c == "NoMove") 0) (fACons (fIsX a (c == "TooMany") 0) (fACons (fIsX a (c == "NoNote") 0) fANil)))))))
    (fSeq (fSet 2 (fLst (fACons (fC (.str (Str.ofString "bar"))) (fACons (fC (.str (Str.ofString "setting"))) (fACons (fC (.str (Str.ofString "chest"))) (fACons (fC (.str (Str.ofString "row"))) (fACons (fC (.str (Str.ofString "number"))) (fACons (fC (.str (Str.ofString "move"))) (fACons (fC (.str (Str.ofString "many"))) (fACons (fC (.str (Str.ofString "note"))) fANil))))))))))
    (fRet (fOp gAdd (fOp gMul (fLst (fACons (fC (.str (Str.ofString "no value error"))) fANil)) (fCall gInt (fACons (fNot (fIsX a true 0)) fANil))) (fLc (fRg zipLL (fACons (fVar 2) (fACons (fVar 1) fANil))) (setT [3, 4]) (fTst (fVar 4)) (fVar 3) [3, 4]))))))
def F_l_refused : List Sl → Fl := (fSeq (fTry 2 ["NoMove"] (fDrop (fCall r_b_changed3 (fACons (fVar 0) (fACons (fVar 1) fANil)))) fun c => .rt (.bool (PyData.eqv (.list (word c)) (.list [.str (Str.ofString "move")]))))
    (fRet (fC (.bool false))))
def r_l_refused : List D → R := run 2 3 F_l_refused
def F_law_k013 : List Sl → Fl := (fSeq (fSet 1 (fOp gAdd (fC (.int 1)) (fOp gMod (fCall r_l_mixed (fACons (fVar 0) (fACons (fC (.int 0)) fANil))) (fC (.int 40)))))
    (fSeq (fSet 2 (fCall r_l_setting (fACons (fVar 0) (fACons (fC (.int 1)) (fACons (fVar 1) fANil)))))
    (fSeq (fSet 4 (fLc (fRg rg1 (fACons (fVar 1) fANil)) (setN 3) (fTst (fCall r_l_may (fACons (fVar 2) (fACons (fVar 3) fANil)))) (fVar 3) [3]))
    (fSeq (fSetO 5 (fLst fANil))
    (fSeq (fFor (fRg rg1 (fACons (fC (.int 2)) fANil)) (setN 6) (fSeq (fSetO 7 (fCall r_b_changeable3 (fACons (fVar 2) fANil)))
      (fSeq (fIfS (fOr (fNot (fTst (fIsi "list" (fVar 7)))) (fOr (fTst (fOp gNe (fVar 7) (fVar 4))) (fTst (fOp gNe (fLc (fSeqI (fVar 7)) (setN 9) (fNot (fTst (fCall r_l_whole (fACons (fVar 9) fANil)))) (fVar 9) [9]) (fLst fANil))))) (fRet (fC (.bool false))) (.nx))
      (fSeq (fApp 7 (fVar 6))
      (fFrz 7 (fApp 5 (fTup (fACons (fVar 7) (fACons (fCall gList (fACons (fVar 7) fANil)) fANil)))))))))
    (fSeq (fFor (fRg rg1 (fACons (fVar 1) fANil)) (setN 3) (fIfS (fTst (fOp (gIn false) (fVar 3) (fVar 4))) (fSeq (fSetO 7 (fCall r_b_changed3 (fACons (fVar 2) (fACons (fVar 3) fANil))))
        (fIfS (fOr (fNot (fTst (fCall r_l_is_setting (fACons (fVar 7) (fACons (fVar 1) fANil))))) (fTst (fOp gNe (fVar 7) (fCall r_l_turned (fACons (fVar 2) (fACons (fVar 3) fANil)))))) (fRet (fC (.bool false))) (.nx))) (fIfS (fNot (fTst (fCall r_l_refused (fACons (fVar 2) (fACons (fVar 3) fANil))))) (fRet (fC (.bool false))) (.nx))))
    (fSeq (fFor (fSeqI (fLst (fACons (fNeg (fC (.int 1))) (fACons (fVar 1) (fACons (fOp gAdd (fVar 1) (fOp gPow (fC (.int 10)) (fC (.int 20)))) (fACons (fC (.bool true)) (fACons (fC (.bool false)) (fACons (fC (.str (Str.ofString "0"))) (fACons (fC .none) (fACons (fLst (fACons (fC (.int 0)) fANil)) (fACons (fTup (fACons (fC (.int 0)) fANil)) fANil))))))))))) (setN 8) (fIfS (fNot (fTst (fCall r_l_refused (fACons (fVar 2) (fACons (fVar 8) fANil))))) (fRet (fC (.bool false))) (.nx)))
    (fRetB (fOp gEq (fLc (fSeqI (fVar 5)) (setN 10) (fTst (fOp gNe (fOp gIx (fVar 10) (fC (.int 0))) (fOp gIx (fVar 10) (fC (.int 1))))) (fVar 10) [10]) (fLst fANil))))))))))
def r_law_k013 : List D → R := run 1 11 F_law_k013
def F_b_need_most : List Sl → Fl := (fIfS (fNot (fTst (fCall r_b_is_among (fACons (fVar 0) (fACons (fC (.int 0)) (fACons (fC (.int 1000)) fANil)))))) (fun δ => .exc (Str.ofString "BadNumber") δ) (.nx))
def r_b_need_most : List D → R := run 1 1 F_b_need_most
def F_b_number_by : List Sl → Fl := (fSeq (fSet 1 (fC (.int 0)))
    (fSeq (fFor (fRg rg3 (fACons (fOp gSub (fCall gLen (fACons (fVar 0) fANil)) (fC (.int 1))) (fACons (fNeg (fC (.int 1))) (fACons (fNeg (fC (.int 1))) fANil)))) (setN 2) (fSet 1 (fOp gAdd (fOp gMul (fC (.int 2)) (fVar 1)) (fOp gMod (fOp gAdd (fOp gIx (fVar 0) (fVar 2)) (fVar 1)) (fC (.int 2))))))
    (fRetV 1)))
def r_b_number_by : List D → R := run 1 3 F_b_number_by
def F_b_setting_by : List Sl → Fl := (fSeq (fSetO 2 (fLst fANil))
    (fSeq (fFor (fRg rg1 (fACons (fVar 0) fANil)) (setN 3) (fSeq (fApp 2 (fOp gMod (fOp gAdd (fVar 1) (fOp gFdiv (fVar 1) (fC (.int 2)))) (fC (.int 2))))
      (fSet 1 (fOp gFdiv (fVar 1) (fC (.int 2))))))
    (fRetB (fCall gTuple (fACons (fVar 2) fANil)))))
def r_b_setting_by : List D → R := run 2 4 F_b_setting_by
def F_b_settings_of : List Sl → Fl := (fSeq (fSet 1 (fC (.int 1)))
    (fSeq (fFor (fRg rg1 (fACons (fVar 0) fANil)) (setN 2) (fSet 1 (fOp gMul (fVar 1) (fC (.int 2)))))
    (fRetV 1)))
def r_b_settings_of : List D → R := run 1 3 F_b_settings_of
def F_b_ring_between : List Sl → Fl := (fSeq (fSet 1 (fC (.int 0)))
    (fSeq (fWhile (fTst (fOp gEq (fOp gMod (fVar 0) (fC (.int 2))) (fC (.int 1)))) (fSeq (fSet 0 (fOp gFdiv (fVar 0) (fC (.int 2))))
      (fSet 1 (fOp gAdd (fVar 1) (fC (.int 1))))))
    (fRetV 1)))
def r_b_ring_between : List D → R := run 1 2 F_b_ring_between
def F_b_rings_between : List Sl → Fl := (fSeq (fSetO 3 (fLst fANil))
    (fSeq (fWhile (fAnd (fTst (fOp gNe (fVar 0) (fVar 1))) (fTst (fOp gLt (fCall gLen (fACons (fVar 3) fANil)) (fVar 2)))) (fIfS (fTst (fOp gLt (fVar 0) (fVar 1))) (fSeq (fApp 3 (fCall r_b_ring_between (fACons (fVar 0) fANil)))
        (fSet 0 (fOp gAdd (fVar 0) (fC (.int 1))))) (fSeq (fSet 0 (fOp gSub (fVar 0) (fC (.int 1))))
        (fApp 3 (fCall r_b_ring_between (fACons (fVar 0) fANil))))))
    (fRetV 3)))
def r_b_rings_between : List D → R := run 3 4 F_b_rings_between
def F_b_need_two : List Sl → Fl := (fSeq (fDrop (fCall r_b_need_setting (fACons (fVar 0) fANil)))
    (fSeq (fDrop (fCall r_b_need_setting (fACons (fVar 1) fANil)))
    (fIfS (fTst (fOp gNe (fCall gLen (fACons (fVar 0) fANil)) (fCall gLen (fACons (fVar 1) fANil)))) (fun δ => .exc (Str.ofString "BadSetting") δ) (.nx))))
def r_b_need_two : List D → R := run 2 2 F_b_need_two
def F_b_number_of : List Sl → Fl := (fSeq (fDrop (fCall r_b_need_setting (fACons (fVar 0) fANil)))
    (fRet (fCall r_b_number_by (fACons (fVar 0) fANil))))
def r_b_number_of : List D → R := run 1 1 F_b_number_of
def F_b_setting_at : List Sl → Fl := (fSeq (fIfS (fNot (fTst (fCall r_b_is_among (fACons (fVar 0) (fACons (fC (.int 1)) (fACons (fC (.int 40)) fANil)))))) (fun δ => .exc (Str.ofString "BadBar") δ) (.nx))
    (fSeq (fIfS (fNot (fTst (fCall r_b_is_among (fACons (fVar 1) (fACons (fC (.int 0)) (fACons (fOp gSub (fCall r_b_settings_of (fACons (fVar 0) fANil)) (fC (.int 1))) fANil)))))) (fun δ => .exc (Str.ofString "BadNumber") δ) (.nx))
    (fRet (fCall r_b_setting_by (fACons (fVar 0) (fACons (fVar 1) fANil))))))
def r_b_setting_at : List D → R := run 2 2 F_b_setting_at
def F_b_apart : List Sl → Fl := (fSeq (fDrop (fCall r_b_need_two (fACons (fVar 0) (fACons (fVar 1) fANil))))
    (fRet (fCall gAbs (fACons (fOp gSub (fCall r_b_number_by (fACons (fVar 0) fANil)) (fCall r_b_number_by (fACons (fVar 1) fANil))) fANil))))
def r_b_apart : List D → R := run 2 2 F_b_apart
def F_b_way : List Sl → Fl := (fSeq (fDrop (fCall r_b_need_two (fACons (fVar 0) (fACons (fVar 1) fANil))))
    (fSeq (fDrop (fCall r_b_need_most (fACons (fVar 2) fANil)))
    (fRet (fCall r_b_rings_between (fACons (fCall r_b_number_by (fACons (fVar 0) fANil)) (fACons (fCall r_b_number_by (fACons (fVar 1) fANil)) (fACons (fVar 2) fANil)))))))
def r_b_way : List D → R := run 3 3 F_b_way
def F_n_shown2 : List Sl → Fl := (fSeq (fDrop (fCall r_b_need_setting (fACons (fVar 0) fANil)))
    (fRet (fJoin (fC (.str (Str.ofString ""))) (fLc (fSeqI (fVar 0)) (setN 1) (fC (.bool true)) (fOp gIx (fC (.str (Str.ofString ".o"))) (fVar 1)) [1]))))
def r_n_shown2 : List D → R := run 1 2 F_n_shown2
def F_l_spoilt : List Sl → Fl := (fSeq (fSet 2 (fOp gMod (fOp gFdiv (fVar 1) (fC (.int 13))) (fCall gLen (fACons (fVar 0) fANil))))
    (fSeq (fSet 3 (fLst (fACons (fC (.int 2)) (fACons (fNeg (fC (.int 1))) (fACons (fC (.bool true)) (fACons (fC (.bool false)) (fACons (fC (.str (Str.ofString "1"))) (fACons (fC .none) (fACons (fTup (fACons (fC (.int 0)) fANil)) fANil)))))))))
    (fSeq (fSet 4 (fLst (fACons (fCall gList (fACons (fVar 0) fANil)) (fACons (fC (.str (Str.ofString "01"))) (fACons (fC .none) (fACons (fC (.int 1)) (fACons (fC (.dict [])) (fACons (fTup fANil) (fACons (fOp gAdd (fVar 0) (fOp gMul (fTup (fACons (fC (.int 0)) fANil)) (fOp gSub (fC (.int 41)) (fCall gLen (fACons (fVar 0) fANil))))) fANil)))))))))
    (fSeq (fIfS (fTst (fOp gLt (fOp gMod (fVar 1) (fC (.int 14))) (fC (.int 7)))) (fRet (fOp gIx (fVar 4) (fOp gMod (fVar 1) (fC (.int 14))))) (.nx))
    (fRet (fOp gAdd (fOp gAdd (fSl (fVar 0) (fun _ => .ok none) (fPart (fVar 2))) (fTup (fACons (fOp gIx (fVar 3) (fOp gSub (fOp gMod (fVar 1) (fC (.int 14))) (fC (.int 7)))) fANil))) (fSl (fVar 0) (fPart (fOp gAdd (fVar 2) (fC (.int 1)))) (fun _ => .ok none))))))))
def r_l_spoilt : List D → R := run 2 5 F_l_spoilt
def F_l_asked4 : List Sl → Fl := (fSeq (fIfS (fTst (fOp gEq (fVar 0) (fC (.int 0)))) (fRet (fCall r_b_need_setting (fACons (fVar 1) fANil))) (.nx))
    (fSeq (fIfS (fTst (fOp gEq (fVar 0) (fC (.int 1)))) (fRet (fCall r_b_changeable3 (fACons (fVar 1) fANil))) (.nx))
    (fSeq (fIfS (fTst (fOp gEq (fVar 0) (fC (.int 2)))) (fRet (fCall r_b_changed3 (fACons (fVar 1) (fACons (fNeg (fC (.int 1))) fANil)))) (.nx))
    (fSeq (fIfS (fTst (fOp gEq (fVar 0) (fC (.int 3)))) (fRet (fCall r_b_number_of (fACons (fVar 1) fANil))) (.nx))
    (fSeq (fIfS (fTst (fOp gEq (fVar 0) (fC (.int 4)))) (fRet (fCall r_b_apart (fACons (fVar 1) (fACons (fC .none) fANil)))) (.nx))
    (fSeq (fIfS (fTst (fOp gEq (fVar 0) (fC (.int 5)))) (fRet (fCall r_b_apart (fACons (fVar 2) (fACons (fVar 1) fANil)))) (.nx))
    (fSeq (fIfS (fTst (fOp gEq (fVar 0) (fC (.int 6)))) (fRet (fCall r_b_way (fACons (fVar 1) (fACons (fVar 2) (fACons (fNeg (fC (.int 1))) fANil))))) (.nx))
    (fSeq (fIfS (fTst (fOp gEq (fVar 0) (fC (.int 7)))) (fRet (fCall r_b_way (fACons (fVar 2) (fACons (fVar 1) (fACons (fNeg (fC (.int 1))) fANil))))) (.nx))
    (fRet (fCall r_n_shown2 (fACons (fVar 1) fANil)))))))))))
def r_l_asked4 : List D → R := run 3 3 F_l_asked4
def F_l_told4 : List Sl → Fl := (fSeq (fTry 3 ["BadSetting", "BadBar", "BadNumber"] (fDrop (fCall r_l_asked4 (fACons (fVar 0) (fACons (fVar 1) (fACons (fVar 2) fANil))))) fun c => .rn (word c))
    (fRet (fLst fANil)))
def r_l_told4 : List D → R := run 3 4 F_l_told4
def F_l_made : List Sl → Fl := (fSeq (fTry 2 ["BadSetting", "BadBar", "BadNumber"] (fDrop (fCall r_b_setting_at (fACons (fVar 0) (fACons (fVar 1) fANil)))) fun c => .rn (word c))
    (fRet (fLst fANil)))
def r_l_made : List D → R := run 2 3 F_l_made
def F_l_way : List Sl → Fl := (fSeq (fTry 3 ["BadSetting", "BadBar", "BadNumber"] (fDrop (fCall r_b_way (fACons (fVar 0) (fACons (fVar 1) (fACons (fVar 2) fANil))))) fun c => .rn (word c))
    (fRet (fLst fANil)))
def r_l_way : List D → R := run 3 4 F_l_way
def F_law_k026 : List Sl → Fl := (fSeq (fSet 1 (fOp gAdd (fC (.int 1)) (fOp gMod (fCall r_l_mixed (fACons (fVar 0) (fACons (fC (.int 0)) fANil))) (fC (.int 40)))))
    (fSeq (fSet 2 (fCall r_l_setting (fACons (fVar 0) (fACons (fC (.int 1)) (fACons (fVar 1) fANil)))))
    (fSeq (fSet 3 (fCall r_l_mixed (fACons (fVar 0) (fACons (fC (.int 4)) fANil))))
    (fSeq (fSet 4 (fCall r_l_spoilt (fACons (fVar 2) (fACons (fOp gFdiv (fVar 3) (fC (.int 9))) fANil))))
    (fSeq (fIfS (fOr (fTst (fOp (gIs true) (fCall r_b_need_setting (fACons (fVar 2) fANil)) (fC .none))) (fTst (fOp gNe (fCall r_l_told4 (fACons (fOp gMod (fVar 3) (fC (.int 9))) (fACons (fVar 4) (fACons (fVar 2) fANil)))) (fLst (fACons (fC (.str (Str.ofString "setting"))) fANil))))) (fRet (fC (.bool false))) (.nx))
    (fSeq (fFor (fSeqI (fLst (fACons (fC (.int 0)) (fACons (fC (.int 41)) (fACons (fNeg (fVar 1)) (fACons (fOp gAdd (fC (.int 40)) (fVar 1)) (fACons (fC (.bool true)) (fACons (fC (.str (Str.ofString "3"))) (fACons (fC .none) (fACons (fLst (fACons (fVar 1) fANil)) fANil)))))))))) (setN 5) (fIfS (fTst (fOp gNe (fCall r_l_made (fACons (fVar 5) (fACons (fNeg (fC (.int 1))) fANil))) (fLst (fACons (fC (.str (Str.ofString "bar"))) fANil)))) (fRet (fC (.bool false))) (.nx)))
    (fSeq (fFor (fSeqI (fLst (fACons (fNeg (fC (.int 1))) (fACons (fCall r_l_twos (fACons (fVar 1) fANil)) (fACons (fOp gSub (fC (.int 0)) (fCall r_l_twos (fACons (fVar 1) fANil))) (fACons (fOp gPow (fC (.int 10)) (fC (.int 30))) (fACons (fC (.bool true)) (fACons (fC (.str (Str.ofString "0"))) (fACons (fC .none) (fACons (fTup (fACons (fC (.int 0)) fANil)) fANil)))))))))) (setN 5) (fIfS (fTst (fOp gNe (fCall r_l_made (fACons (fVar 1) (fACons (fVar 5) fANil))) (fLst (fACons (fC (.str (Str.ofString "number"))) fANil)))) (fRet (fC (.bool false))) (.nx)))
    (fSeq (fSet 6 (fSl (fVar 2) (fun _ => .ok none) (fPart (fNeg (fC (.int 1))))))
    (fSeq (fIfS (fTst (fOp gEq (fVar 1) (fC (.int 1)))) (fSet 6 (fOp gAdd (fVar 2) (fTup (fACons (fC (.int 1)) fANil)))) (.nx))
    (fSeq (fIfS (fOr (fTst (fOp gNe (fCall r_l_way (fACons (fVar 2) (fACons (fVar 6) (fACons (fNeg (fC (.int 1))) fANil)))) (fLst (fACons (fC (.str (Str.ofString "setting"))) fANil)))) (fTst (fOp gNe (fCall r_l_told4 (fACons (fC (.int 5)) (fACons (fVar 6) (fACons (fVar 2) fANil)))) (fLst (fACons (fC (.str (Str.ofString "setting"))) fANil))))) (fRet (fC (.bool false))) (.nx))
    (fSeq (fFor (fSeqI (fLst (fACons (fNeg (fC (.int 1))) (fACons (fC (.int 1001)) (fACons (fC (.bool true)) (fACons (fC (.str (Str.ofString "1"))) (fACons (fC .none) (fACons (fOp gPow (fC (.int 10)) (fC (.int 20))) fANil)))))))) (setN 5) (fIfS (fTst (fOp gNe (fCall r_l_way (fACons (fVar 2) (fACons (fVar 2) (fACons (fVar 5) fANil)))) (fLst (fACons (fC (.str (Str.ofString "number"))) fANil)))) (fRet (fC (.bool false))) (.nx)))
    (fSeq (fIfS (fOr (fTst (fOp gNe (fC (.int 40)) (fC (.int 40)))) (fTst (fOp gNe (fC (.int 1000)) (fC (.int 1000))))) (fRet (fC (.bool false))) (.nx))
    (fRet (fAnd (fOp gEq (fCall r_b_way (fACons (fVar 2) (fACons (fVar 2) (fACons (fC (.int 1000)) fANil)))) (fLst fANil)) (fOp gEq (fCall r_b_way (fACons (fVar 2) (fACons (fVar 2) (fACons (fC (.int 0)) fANil)))) (fLst fANil))))))))))))))))
def r_law_k026 : List D → R := run 1 7 F_law_k026
def F_l_number : List Sl → Fl := (fSeq (fSet 2 (fCall r_l_twos (fACons (fVar 1) fANil)))
    (fSeq (fSet 3 (fOp gMod (fOp gAdd (fOp gMul (fCall r_l_cell_at (fACons (fVar 0) (fACons (fC (.int 1)) fANil))) (fC (.int 1234577))) (fOp gMul (fCall r_l_mixed (fACons (fVar 0) (fACons (fC (.int 1)) fANil))) (fC (.int 40503)))) (fVar 2)))
    (fSeq (fIfS (fTst (fOp gEq (fOp gMod (fCall r_l_mixed (fACons (fVar 0) (fACons (fC (.int 2)) fANil))) (fC (.int 4))) (fC (.int 1)))) (fRet (fOp gMod (fVar 3) (fCall gMin2 (fACons (fC (.int 16)) (fACons (fVar 2) fANil))))) (.nx))
    (fSeq (fIfS (fTst (fOp gEq (fOp gMod (fCall r_l_mixed (fACons (fVar 0) (fACons (fC (.int 2)) fANil))) (fC (.int 4))) (fC (.int 2)))) (fRet (fOp gSub (fOp gSub (fVar 2) (fC (.int 1))) (fOp gMod (fVar 3) (fCall gMin2 (fACons (fC (.int 16)) (fACons (fVar 2) fANil)))))) (.nx))
    (fRetV 3)))))
def r_l_number : List D → R := run 2 4 F_l_number
def F_law_k03 : List Sl → Fl := (fSeq (fSet 1 (fOp gAdd (fC (.int 1)) (fOp gMod (fCall r_l_mixed (fACons (fVar 0) (fACons (fC (.int 0)) fANil))) (fC (.int 40)))))
    (fSeq (fSet 2 (fCall r_l_number (fACons (fVar 0) (fACons (fVar 1) fANil))))
    (fSeq (fSet 3 (fCall r_b_setting_at (fACons (fVar 1) (fACons (fVar 2) fANil))))
    (fSeq (fIfS (fOr (fNot (fTst (fCall r_l_is_setting (fACons (fVar 3) (fACons (fVar 1) fANil))))) (fOr (fNot (fTst (fCall r_l_whole (fACons (fCall r_b_number_of (fACons (fVar 3) fANil)) fANil)))) (fTst (fOp gNe (fCall r_b_number_of (fACons (fVar 3) fANil)) (fVar 2))))) (fRet (fC (.bool false))) (.nx))
    (fSeq (fIfS (fTst (fOp gLt (fOp gAdd (fVar 2) (fC (.int 1))) (fCall r_l_twos (fACons (fVar 1) fANil)))) (fSeq (fSet 4 (fCall r_b_setting_at (fACons (fVar 1) (fACons (fOp gAdd (fVar 2) (fC (.int 1))) fANil))))
      (fSeq (fIfS (fOr (fNot (fTst (fCall r_l_is_setting (fACons (fVar 4) (fACons (fVar 1) fANil))))) (fTst (fOp gNe (fCall r_b_number_of (fACons (fVar 4) fANil)) (fOp gAdd (fVar 2) (fC (.int 1)))))) (fRet (fC (.bool false))) (.nx))
      (fSeq (fSet 5 (fLc (fRg rg1 (fACons (fVar 1) fANil)) (setN 6) (fTst (fOp gNe (fOp gIx (fVar 3) (fVar 6)) (fOp gIx (fVar 4) (fVar 6)))) (fVar 6) [6]))
      (fIfS (fOr (fTst (fOp gNe (fCall gLen (fACons (fVar 5) fANil)) (fC (.int 1)))) (fOr (fNot (fTst (fCall r_l_may (fACons (fVar 3) (fACons (fOp gIx (fVar 5) (fC (.int 0))) fANil))))) (fNot (fTst (fCall r_l_may (fACons (fVar 4) (fACons (fOp gIx (fVar 5) (fC (.int 0))) fANil))))))) (fRet (fC (.bool false))) (.nx))))) (.nx))
    (fSeq (fIfS (fOr (fTst (fOp gNe (fCall r_b_setting_at (fACons (fVar 1) (fACons (fC (.int 0)) fANil))) (fOp gMul (fTup (fACons (fC (.int 0)) fANil)) (fVar 1)))) (fTst (fOp gNe (fCall r_b_setting_at (fACons (fVar 1) (fACons (fOp gSub (fCall r_l_twos (fACons (fVar 1) fANil)) (fC (.int 1))) fANil))) (fOp gAdd (fOp gMul (fTup (fACons (fC (.int 0)) fANil)) (fOp gSub (fVar 1) (fC (.int 1)))) (fTup (fACons (fC (.int 1)) fANil)))))) (fRet (fC (.bool false))) (.nx))
    (fRet (fAnd (fOp gEq (fCall r_b_setting_at (fACons (fVar 1) (fACons (fVar 2) fANil))) (fVar 3)) (fOp gEq (fCall r_b_number_of (fACons (fVar 3) fANil)) (fVar 2))))))))))
def r_law_k03 : List D → R := run 1 7 F_law_k03
def F_law_k04 : List Sl → Fl := (fSeq (fSet 1 (fOp gAdd (fC (.int 1)) (fOp gMod (fCall r_l_mixed (fACons (fVar 0) (fACons (fC (.int 0)) fANil))) (fC (.int 7)))))
    (fSeq (fSet 2 (fOp gMul (fTup (fACons (fC (.int 0)) fANil)) (fVar 1)))
    (fSeq (fSet 3 (fNeg (fC (.int 1))))
    (fSeq (fNewD 4)
    (fSeq (fFor (fRg rg1 (fACons (fCall r_l_twos (fACons (fVar 1) fANil)) fANil)) (setN 5) (fSeq (fIfS (fOr (fTst (fInV false 4 (fVar 2))) (fOr (fTst (fOp gNe (fCall r_b_setting_at (fACons (fVar 1) (fACons (fVar 5) fANil))) (fVar 2))) (fTst (fOp gNe (fCall r_b_number_of (fACons (fVar 2) fANil)) (fVar 5))))) (fRet (fC (.bool false))) (.nx))
      (fSeq (fDPut 4 (fVar 2) (fC (.bool true)))
      (fSeq (fSet 6 (fLc (fRg rg1 (fACons (fVar 1) fANil)) (setN 7) (fAnd (fTst (fCall r_l_may (fACons (fVar 2) (fACons (fVar 7) fANil)))) (fTst (fOp gNe (fVar 7) (fVar 3)))) (fVar 7) [7]))
      (fSeq (fIfS (fTst (fOp gEq (fOp gAdd (fVar 5) (fC (.int 1))) (fCall r_l_twos (fACons (fVar 1) fANil)))) (fRet (fAnd (fOp gEq (fVar 2) (fOp gAdd (fOp gMul (fTup (fACons (fC (.int 0)) fANil)) (fOp gSub (fVar 1) (fC (.int 1)))) (fTup (fACons (fC (.int 1)) fANil)))) (fOr (fOp gEq (fVar 6) (fLst fANil)) (fOp gEq (fVar 1) (fC (.int 1)))))) (.nx))
      (fSeq (fIfS (fTst (fOp gEq (fVar 3) (fNeg (fC (.int 1))))) (fSet 6 (fLst (fACons (fC (.int 0)) fANil))) (.nx))
      (fSeq (fIfS (fTst (fOp gNe (fCall gLen (fACons (fVar 6) fANil)) (fC (.int 1)))) (fRet (fC (.bool false))) (.nx))
      (fSeq (fSet 3 (fOp gIx (fVar 6) (fC (.int 0))))
      (fSet 2 (fCall r_l_turned (fACons (fVar 2) (fACons (fVar 3) fANil))))))))))))
    (fRet (fC (.bool false))))))))
def r_law_k04 : List D → R := run 1 8 F_law_k04
def F_l_number2 : List Sl → Fl := (fSeq (fSet 1 (fC (.int 0)))
    (fSeq (fFor (fRevI (fVar 0)) (setN 2) (fSet 1 (fOp gAdd (fOp gMul (fC (.int 2)) (fVar 1)) (fOp gIx (fLst (fACons (fVar 2) (fACons (fOp gSub (fC (.int 1)) (fVar 2)) fANil))) (fOp gMod (fVar 1) (fC (.int 2)))))))
    (fRetV 1)))
def r_l_number2 : List D → R := run 1 3 F_l_number2
def F_law_k053 : List Sl → Fl := (fSeq (fSet 1 (fOp gAdd (fC (.int 1)) (fOp gMod (fCall r_l_mixed (fACons (fVar 0) (fACons (fC (.int 0)) fANil))) (fC (.int 40)))))
    (fSeq (fSet 2 (fCall r_l_setting (fACons (fVar 0) (fACons (fC (.int 1)) (fACons (fVar 1) fANil)))))
    (fSeq (fSet 3 (fCall r_l_number2 (fACons (fVar 2) fANil)))
    (fSeq (fIfS (fOr (fTst (fOp gNe (fCall r_b_number_of (fACons (fVar 2) fANil)) (fVar 3))) (fTst (fOp gNe (fCall r_b_setting_at (fACons (fVar 1) (fACons (fVar 3) fANil))) (fVar 2)))) (fRet (fC (.bool false))) (.nx))
    (fSeq (fSetO 4 (fLst fANil))
    (fSeq (fFor (fSeqI (fCall r_b_changeable3 (fACons (fVar 2) fANil))) (setN 5) (fSeq (fIfS (fNot (fTst (fCall r_l_may (fACons (fVar 2) (fACons (fVar 5) fANil))))) (fRet (fC (.bool false))) (.nx))
      (fSeq (fSet 6 (fCall r_b_changed3 (fACons (fVar 2) (fACons (fVar 5) fANil))))
      (fSeq (fIfS (fOr (fTst (fOp gNe (fVar 6) (fCall r_l_turned (fACons (fVar 2) (fACons (fVar 5) fANil))))) (fTst (fOp gNe (fCall r_b_number_of (fACons (fVar 6) fANil)) (fCall r_l_number2 (fACons (fVar 6) fANil))))) (fRet (fC (.bool false))) (.nx))
      (fApp 4 (fOp gSub (fCall r_b_number_of (fACons (fVar 6) fANil)) (fVar 3)))))))
    (fSeq (fIfS (fTst (fOp gEq (fCall gSorted (fACons (fVar 4) fANil)) (fLst (fACons (fNeg (fC (.int 1))) (fACons (fC (.int 1)) fANil))))) (fRet (fC (.bool true))) (.nx))
    (fSeq (fIfS (fTst (fOp gEq (fVar 3) (fC (.int 0)))) (fRetB (fOp gEq (fVar 4) (fLst (fACons (fC (.int 1)) fANil)))) (.nx))
    (fRetB (fAnd (fOp gEq (fVar 4) (fLst (fACons (fNeg (fC (.int 1))) fANil))) (fOp gEq (fVar 3) (fOp gSub (fCall r_l_twos (fACons (fVar 1) fANil)) (fC (.int 1))))))))))))))
def r_law_k053 : List D → R := run 1 7 F_law_k053
def F_l_near : List Sl → Fl := (fSeq (fSet 3 (fNeg (fC (.int 1))))
    (fSeq (fFor (fRg rg1 (fACons (fVar 2) fANil)) (setN 4) (fSeq (fSetO 5 (fLc (fRg rg1 (fACons (fCall gLen (fACons (fVar 1) fANil)) fANil)) (setN 6) (fTst (fCall r_l_may (fACons (fVar 1) (fACons (fVar 6) fANil)))) (fVar 6) [6]))
      (fSeq (fIfS (fAnd (fTst (fOp gGt (fCall gLen (fACons (fVar 5) fANil)) (fC (.int 1)))) (fTst (fOp (gIn false) (fVar 3) (fVar 5)))) (fRem 5 (fVar 3)) (.nx))
      (fSeq (fSetB 3 (fOp gIx (fVar 5) (fOp gMod (fOp gFdiv (fCall r_l_mixed (fACons (fVar 0) (fACons (fC (.int 10)) fANil))) (fOp gAdd (fC (.int 1)) (fVar 4))) (fCall gLen (fACons (fVar 5) fANil)))))
      (fSet 1 (fCall r_l_turned (fACons (fVar 1) (fACons (fVar 3) fANil))))))))
    (fRetV 1)))
def r_l_near : List D → R := run 3 7 F_l_near
def F_l_gone : List Sl → Fl := (fSeq (fSet 2 (fNeg (fC (.int 1))))
    (fSeq (fFor (fSeqI (fVar 1)) (setN 3) (fSeq (fIfS (fOr (fNot (fTst (fCall r_l_whole (fACons (fVar 3) fANil)))) (fOr (fNot (fTst (fChain gLe gLt (fC (.int 0)) (fVar 3) (fCall gLen (fACons (fVar 0) fANil))))) (fOr (fTst (fOp gEq (fVar 3) (fVar 2))) (fNot (fTst (fCall r_l_may (fACons (fVar 0) (fACons (fVar 3) fANil)))))))) (fRet (fC .none)) (.nx))
      (fSeq (fSet 0 (fCall r_l_turned (fACons (fVar 0) (fACons (fVar 3) fANil))))
      (fSet 2 (fVar 3)))))
    (fRetV 0)))
def r_l_gone : List D → R := run 2 4 F_l_gone
def F_law_k06 : List Sl → Fl := (fSeq (fSet 1 (fOp gAdd (fC (.int 1)) (fOp gMod (fCall r_l_mixed (fACons (fVar 0) (fACons (fC (.int 0)) fANil))) (fC (.int 40)))))
    (fSeq (fSet 2 (fCall r_l_setting (fACons (fVar 0) (fACons (fC (.int 1)) (fACons (fVar 1) fANil)))))
    (fSeq (fSet 3 (fCall r_l_setting (fACons (fVar 0) (fACons (fC (.int 4)) (fACons (fVar 1) fANil)))))
    (fSeq (fIfS (fTst (fOp gGt (fOp gMod (fCall r_l_mixed (fACons (fVar 0) (fACons (fC (.int 7)) fANil))) (fC (.int 3))) (fC (.int 0)))) (fSet 3 (fCall r_l_near (fACons (fVar 0) (fACons (fVar 2) (fACons (fOp gMod (fCall r_l_mixed (fACons (fVar 0) (fACons (fC (.int 8)) fANil))) (fC (.int 41))) fANil))))) (.nx))
    (fSeq (fSet 4 (fOp gMod (fCall r_l_mixed (fACons (fVar 0) (fACons (fC (.int 9)) fANil))) (fC (.int 71))))
    (fSeq (fIfS (fTst (fOp gEq (fOp gMod (fOp gFdiv (fCall r_l_mixed (fACons (fVar 0) (fACons (fC (.int 7)) fANil))) (fC (.int 3))) (fC (.int 8))) (fC (.int 1)))) (fSet 4 (fC (.int 1000))) (.nx))
    (fSeq (fSet 5 (fCall gAbs (fACons (fOp gSub (fCall r_l_number2 (fACons (fVar 2) fANil)) (fCall r_l_number2 (fACons (fVar 3) fANil))) fANil)))
    (fSeq (fIfS (fOr (fNot (fTst (fCall r_l_whole (fACons (fCall r_b_apart (fACons (fVar 2) (fACons (fVar 3) fANil))) fANil)))) (fOr (fTst (fOp gNe (fCall r_b_apart (fACons (fVar 2) (fACons (fVar 3) fANil))) (fVar 5))) (fTst (fOp gNe (fCall r_b_apart (fACons (fVar 3) (fACons (fVar 2) fANil))) (fVar 5))))) (fRet (fC (.bool false))) (.nx))
    (fSeq (fSetO 6 (fLst fANil))
    (fSeq (fFor (fRg rg1 (fACons (fC (.int 2)) fANil)) (setN 7) (fSeq (fSetO 8 (fCall r_b_way (fACons (fVar 2) (fACons (fVar 3) (fACons (fVar 4) fANil)))))
      (fSeq (fIfS (fOr (fNot (fTst (fIsi "list" (fVar 8)))) (fTst (fOp gNe (fCall gLen (fACons (fVar 8) fANil)) (fCall gMin2 (fACons (fVar 5) (fACons (fVar 4) fANil)))))) (fRet (fC (.bool false))) (.nx))
      (fSeq (fSetB 9 (fCall r_l_gone (fACons (fVar 2) (fACons (fVar 8) fANil))))
      (fSeq (fIfS (fOr (fTst (fOp (gIs false) (fVar 9) (fC .none))) (fAnd (fTst (fOp gEq (fCall gLen (fACons (fVar 8) fANil)) (fVar 5))) (fTst (fOp gNe (fVar 9) (fVar 3))))) (fRet (fC (.bool false))) (.nx))
      (fSeq (fIfS (fAnd (fTst (fOp gLe (fVar 5) (fVar 4))) (fTst (fOp gNe (fCall r_b_way (fACons (fVar 3) (fACons (fVar 2) (fACons (fVar 4) fANil)))) (fLstRev (fVar 8))))) (fRet (fC (.bool false))) (.nx))
      (fSeq (fIfS (fTst (fOp gNe (fCall gAbs (fACons (fOp gSub (fCall r_l_number2 (fACons (fVar 9) fANil)) (fCall r_l_number2 (fACons (fVar 3) fANil))) fANil)) (fOp gSub (fVar 5) (fCall gLen (fACons (fVar 8) fANil))))) (fRet (fC (.bool false))) (.nx))
      (fSeq (fApp 8 (fVar 7))
      (fFrz 8 (fApp 6 (fTup (fACons (fVar 8) (fACons (fCall gList (fACons (fVar 8) fANil)) fANil)))))))))))))
    (fRetB (fOp gEq (fLc (fSeqI (fVar 6)) (setN 10) (fTst (fOp gNe (fOp gIx (fVar 10) (fC (.int 0))) (fOp gIx (fVar 10) (fC (.int 1))))) (fVar 10) [10]) (fLst fANil)))))))))))))
def r_law_k06 : List D → R := run 1 11 F_law_k06
def F_l_layers : List Sl → Fl := (fSeq (fNewD1 1 (fVar 0) (fC (.int 0)))
    (fSeq (fSetO 2 (fLst (fACons (fVar 0) fANil)))
    (fSeq (fSet 3 (fC (.int 0)))
    (fSeq (fWhile (fTst (fOp gLt (fVar 3) (fCall gLen (fACons (fVar 2) fANil)))) (fSeq (fSetB 4 (fOp gIx (fVar 2) (fVar 3)))
      (fSeq (fSet 3 (fOp gAdd (fVar 3) (fC (.int 1))))
      (fFor (fRg rg1 (fACons (fCall gLen (fACons (fVar 4) fANil)) fANil)) (setN 5) (fIfS (fTst (fCall r_l_may (fACons (fVar 4) (fACons (fVar 5) fANil)))) (fSeq (fSet 6 (fCall r_l_turned (fACons (fVar 4) (fACons (fVar 5) fANil))))
          (fIfS (fTst (fInV true 1 (fVar 6))) (fSeq (fDPut 1 (fVar 6) (fOp gAdd (fGetD 1 (fVar 4)) (fC (.int 1))))
            (fApp 2 (fVar 6))) (.nx))) (.nx))))))
    (fRetD 1)))))
def r_l_layers : List D → R := run 1 7 F_l_layers
def F_l_leads : List Sl → Fl := (fSeq (fFor (fSeqI (fVar 1)) (setN 2) (fSeq (fIfS (fOr (fNot (fTst (fCall r_l_whole (fACons (fVar 2) fANil)))) (fOr (fNot (fTst (fChain gLe gLt (fC (.int 0)) (fVar 2) (fCall gLen (fACons (fVar 0) fANil))))) (fNot (fTst (fCall r_l_may (fACons (fVar 0) (fACons (fVar 2) fANil))))))) (fRet (fC .none)) (.nx))
      (fSet 0 (fCall r_l_turned (fACons (fVar 0) (fACons (fVar 2) fANil))))))
    (fRetV 0))
def r_l_leads : List D → R := run 2 3 F_l_leads
def F_law_k072 : List Sl → Fl := (fSeq (fSet 1 (fOp gAdd (fC (.int 1)) (fOp gMod (fCall r_l_mixed (fACons (fVar 0) (fACons (fC (.int 0)) fANil))) (fC (.int 6)))))
    (fSeq (fSet 2 (fOp gMod (fCall r_l_mixed (fACons (fVar 0) (fACons (fC (.int 1)) fANil))) (fCall r_l_twos (fACons (fVar 1) fANil))))
    (fSeq (fSet 3 (fCall gTuple (fACons (fLc (fRg rg1 (fACons (fVar 1) fANil)) (setN 8) (fC (.bool true)) (fOp gMod (fOp gFdiv (fVar 2) (fCall r_l_twos (fACons (fVar 8) fANil))) (fC (.int 2))) [8]) fANil)))
    (fSeq (fSet 4 (fCall r_l_layers (fACons (fVar 3) fANil)))
    (fSeq (fIfS (fTst (fOp gNe (fCall gLenD (fACons (fVar 4) fANil)) (fCall r_l_twos (fACons (fVar 1) fANil)))) (fRet (fC (.bool false))) (.nx))
    (fSeq (fFor (fKeysI (fVar 4)) (setN 5) (fIfS (fTst (fOp gNe (fCall r_b_apart (fACons (fVar 3) (fACons (fVar 5) fANil))) (fDGet (fVar 4) (fVar 5)))) (fRet (fC (.bool false))) (.nx)))
    (fSeq (fSet 6 (fOp gIx (fCall gListD (fACons (fVar 4) fANil)) (fOp gMod (fCall r_l_mixed (fACons (fVar 0) (fACons (fC (.int 2)) fANil))) (fCall r_l_twos (fACons (fVar 1) fANil)))))
    (fSeq (fSet 7 (fCall r_b_way (fACons (fVar 3) (fACons (fVar 6) (fACons (fC (.int 1000)) fANil)))))
    (fRet (fAnd (fOp gEq (fCall gLen (fACons (fVar 7) fANil)) (fDGet (fVar 4) (fVar 6))) (fOp gEq (fCall r_l_leads (fACons (fVar 3) (fACons (fVar 7) fANil))) (fVar 6))))))))))))
def r_law_k072 : List D → R := run 1 9 F_law_k072
def F_c_need_counts : List Sl → Fl := (fSeq (fIfS (fOr (fNot (fTst (fIsi "list" (fVar 0)))) (fNot (fTst (fChain gLe gLe (fC (.int 1)) (fCall gLen (fACons (fVar 0) fANil)) (fC (.int 12)))))) (fun δ => .exc (Str.ofString "BadChest") δ) (.nx))
    (fFor (fSeqI (fVar 0)) (setN 1) (fIfS (fNot (fTst (fCall r_b_is_among (fACons (fVar 1) (fACons (fC (.int 2)) (fACons (fC (.int 9)) fANil)))))) (fun δ => .exc (Str.ofString "BadChest") δ) (.nx))))
def r_c_need_counts : List D → R := run 1 2 F_c_need_counts
def F_c_is_row : List Sl → Fl := (fSeq (fIfS (fOr (fNot (fTst (fIsi "tuple" (fVar 1)))) (fTst (fOp gNe (fCall gLen (fACons (fVar 1) fANil)) (fCall gLen (fACons (fVar 0) fANil))))) (fRet (fC (.bool false))) (.nx))
    (fSeq (fFor (fRg zipD (fACons (fVar 1) (fACons (fVar 0) fANil))) (setT [2, 3]) (fIfS (fNot (fTst (fCall r_b_is_among (fACons (fVar 2) (fACons (fC (.int 0)) (fACons (fOp gSub (fVar 3) (fC (.int 1))) fANil)))))) (fRet (fC (.bool false))) (.nx)))
    (fRet (fC (.bool true)))))
def r_c_is_row : List D → R := run 2 4 F_c_is_row
def F_c_need_row : List Sl → Fl := (fSeq (fDrop (fCall r_c_need_counts (fACons (fVar 0) fANil)))
    (fIfS (fNot (fTst (fCall r_c_is_row (fACons (fVar 0) (fACons (fVar 1) fANil))))) (fun δ => .exc (Str.ofString "BadRow") δ) (.nx)))
def r_c_need_row : List D → R := run 2 2 F_c_need_row
def F_c_product_of : List Sl → Fl := (fSeq (fSet 1 (fC (.int 1)))
    (fSeq (fFor (fSeqI (fVar 0)) (setN 2) (fSet 1 (fOp gMul (fVar 1) (fVar 2))))
    (fRetV 1)))
def r_c_product_of : List D → R := run 1 3 F_c_product_of
def F_c_number_by : List Sl → Fl := (fSeq (fSet 2 (fC (.int 0)))
    (fSeq (fFor (fRg rg3 (fACons (fOp gSub (fCall gLen (fACons (fVar 0) fANil)) (fC (.int 1))) (fACons (fNeg (fC (.int 1))) (fACons (fNeg (fC (.int 1))) fANil)))) (setN 3) (fSeq (fSet 4 (fOp gIx (fVar 1) (fVar 3)))
      (fSeq (fIfS (fTst (fOp gEq (fOp gMod (fVar 2) (fC (.int 2))) (fC (.int 1)))) (fSet 4 (fOp gSub (fOp gSub (fOp gIx (fVar 0) (fVar 3)) (fC (.int 1))) (fVar 4))) (.nx))
      (fSet 2 (fOp gAdd (fOp gMul (fVar 2) (fOp gIx (fVar 0) (fVar 3))) (fVar 4))))))
    (fRetV 2)))
def r_c_number_by : List D → R := run 2 5 F_c_number_by
def F_c_row_by : List Sl → Fl := (fSeq (fSetO 2 (fLst fANil))
    (fSeq (fFor (fSeqI (fVar 0)) (setN 3) (fSeq (fSet 4 (fOp gMod (fVar 1) (fVar 3)))
      (fSeq (fSet 1 (fOp gFdiv (fVar 1) (fVar 3)))
      (fSeq (fIfS (fTst (fOp gEq (fOp gMod (fVar 1) (fC (.int 2))) (fC (.int 1)))) (fSet 4 (fOp gSub (fOp gSub (fVar 3) (fC (.int 1))) (fVar 4))) (.nx))
      (fApp 2 (fVar 4))))))
    (fRetB (fCall gTuple (fACons (fVar 2) fANil)))))
def r_c_row_by : List D → R := run 2 5 F_c_row_by
def F_c_many : List Sl → Fl := (fSeq (fDrop (fCall r_c_need_counts (fACons (fVar 0) fANil)))
    (fRet (fCall r_c_product_of (fACons (fVar 0) fANil))))
def r_c_many : List D → R := run 1 1 F_c_many
def F_c_number_in : List Sl → Fl := (fSeq (fDrop (fCall r_c_need_row (fACons (fVar 0) (fACons (fVar 1) fANil))))
    (fRet (fCall r_c_number_by (fACons (fVar 0) (fACons (fVar 1) fANil)))))
def r_c_number_in : List D → R := run 2 2 F_c_number_in
def F_c_row_at : List Sl → Fl := (fSeq (fDrop (fCall r_c_need_counts (fACons (fVar 0) fANil)))
    (fSeq (fIfS (fNot (fTst (fCall r_b_is_among (fACons (fVar 1) (fACons (fC (.int 0)) (fACons (fOp gSub (fCall r_c_product_of (fACons (fVar 0) fANil)) (fC (.int 1))) fANil)))))) (fun δ => .exc (Str.ofString "BadNumber") δ) (.nx))
    (fRet (fCall r_c_row_by (fACons (fVar 0) (fACons (fVar 1) fANil))))))
def r_c_row_at : List D → R := run 2 2 F_c_row_at
def F_l_counts : List Sl → Fl := (fSeq (fSet 3 (fOp gAdd (fC (.int 1)) (fOp gMod (fCall r_l_mixed (fACons (fVar 0) (fACons (fVar 1) fANil))) (fVar 2))))
    (fSeq (fSet 4 (fOp gMod (fOp gFdiv (fCall r_l_mixed (fACons (fVar 0) (fACons (fVar 1) fANil))) (fVar 2)) (fC (.int 3))))
    (fSeq (fSetO 5 (fLst fANil))
    (fSeq (fFor (fRg rg1 (fACons (fVar 3) fANil)) (setN 6) (fSeq (fSet 7 (fOp gFdiv (fCall r_l_mixed (fACons (fVar 0) (fACons (fOp gAdd (fOp gAdd (fVar 1) (fC (.int 1))) (fOp gMod (fVar 6) (fC (.int 3)))) fANil))) (fOp gAdd (fC (.int 1)) (fOp gMul (fC (.int 7)) (fVar 6)))))
      (fApp 5 (fOp gIx (fLst (fACons (fOp gAdd (fC (.int 2)) (fOp gMod (fVar 7) (fC (.int 8)))) (fACons (fOp gAdd (fC (.int 2)) (fOp gMod (fVar 7) (fC (.int 3)))) (fACons (fOp gAdd (fC (.int 2)) (fOp gMod (fOp gFdiv (fVar 7) (fC (.int 8))) (fC (.int 2)))) fANil)))) (fVar 4)))))
    (fRetV 5)))))
def r_l_counts : List D → R := run 3 8 F_l_counts
def F_l_product : List Sl → Fl := (fSeq (fSet 1 (fC (.int 1)))
    (fSeq (fFor (fSeqI (fVar 0)) (setN 2) (fSet 1 (fOp gMul (fVar 1) (fVar 2))))
    (fRetV 1)))
def r_l_product : List D → R := run 1 3 F_l_product
def F_l_row : List Sl → Fl := (fSeq (fSetO 3 (fLst fANil))
    (fSeq (fFor (fRg enumD (fACons (fVar 2) fANil)) (setT [4, 5]) (fSeq (fSet 6 (fOp gFdiv (fCall r_l_mixed (fACons (fVar 0) (fACons (fOp gAdd (fVar 1) (fOp gMod (fVar 4) (fC (.int 4)))) fANil))) (fOp gAdd (fC (.int 1)) (fOp gMul (fC (.int 5)) (fVar 4)))))
      (fApp 3 (fOp gMod (fVar 6) (fVar 5)))))
    (fSeq (fIfS (fTst (fOp gEq (fOp gMod (fCall r_l_mixed (fACons (fVar 0) (fACons (fOp gAdd (fVar 1) (fC (.int 4))) fANil))) (fC (.int 2))) (fC (.int 1)))) (fFor (fRg rg1 (fACons (fOp gMod (fOp gFdiv (fCall r_l_mixed (fACons (fVar 0) (fACons (fOp gAdd (fVar 1) (fC (.int 4))) fANil))) (fC (.int 2))) (fCall gLen (fACons (fVar 2) fANil))) fANil)) (setN 4) (fPut 3 (fVar 4) (fOp gMul (fOp gSub (fOp gIx (fVar 2) (fVar 4)) (fC (.int 1))) (fOp gMod (fOp gFdiv (fCall r_l_mixed (fACons (fVar 0) (fACons (fOp gAdd (fVar 1) (fC (.int 5))) fANil))) (fOp gAdd (fC (.int 1)) (fVar 4))) (fC (.int 2)))))) (.nx))
    (fRetB (fCall gTuple (fACons (fVar 3) fANil))))))
def r_l_row : List D → R := run 3 7 F_l_row
def F_l_number3 : List Sl → Fl := (fSeq (fSet 2 (fC (.int 0)))
    (fSeq (fFor (fRv1 (fCall gLen (fACons (fVar 0) fANil))) (setN 3) (fSeq (fSet 4 (fVar 2))
      (fSeq (fSet 2 (fOp gMul (fVar 2) (fOp gIx (fVar 0) (fVar 3))))
      (fIfS (fTst (fOp gEq (fOp gMod (fVar 4) (fC (.int 2))) (fC (.int 0)))) (fSet 2 (fOp gAdd (fVar 2) (fOp gIx (fVar 1) (fVar 3)))) (fSet 2 (fOp gSub (fOp gSub (fOp gAdd (fVar 2) (fOp gIx (fVar 0) (fVar 3))) (fC (.int 1))) (fOp gIx (fVar 1) (fVar 3))))))))
    (fRetV 2)))
def r_l_number3 : List D → R := run 2 5 F_l_number3
def F_l_is_row : List Sl → Fl := (fSeq (fIfS (fOr (fNot (fTst (fIsi "tuple" (fVar 0)))) (fTst (fOp gNe (fCall gLen (fACons (fVar 0) fANil)) (fCall gLen (fACons (fVar 1) fANil))))) (fRet (fC (.bool false))) (.nx))
    (fSeq (fFor (fRg zipD (fACons (fVar 0) (fACons (fVar 1) fANil))) (setT [2, 3]) (fIfS (fOr (fNot (fTst (fCall r_l_whole (fACons (fVar 2) fANil)))) (fNot (fTst (fChain gLe gLt (fC (.int 0)) (fVar 2) (fVar 3))))) (fRet (fC (.bool false))) (.nx)))
    (fRet (fC (.bool true)))))
def r_l_is_row : List D → R := run 2 4 F_l_is_row
def F_law_k08 : List Sl → Fl := (fSeq (fSet 1 (fCall r_l_counts (fACons (fVar 0) (fACons (fC (.int 0)) (fACons (fC (.int 12)) fANil)))))
    (fSeq (fSet 2 (fCall r_l_row (fACons (fVar 0) (fACons (fC (.int 5)) (fACons (fVar 1) fANil)))))
    (fSeq (fSet 3 (fCall r_l_product (fACons (fVar 1) fANil)))
    (fSeq (fSet 4 (fOp gMod (fOp gAdd (fOp gMul (fCall r_l_cell_at (fACons (fVar 0) (fACons (fC (.int 12)) fANil))) (fC (.int 1234577))) (fOp gMul (fCall r_l_mixed (fACons (fVar 0) (fACons (fC (.int 12)) fANil))) (fC (.int 40503)))) (fVar 3)))
    (fSeq (fIfS (fTst (fOp gLt (fOp gMod (fCall r_l_mixed (fACons (fVar 0) (fACons (fC (.int 13)) fANil))) (fC (.int 4))) (fC (.int 2)))) (fSet 4 (fOp gIx (fLst (fACons (fOp gMod (fVar 4) (fCall gMin2 (fACons (fVar 3) (fACons (fC (.int 20)) fANil)))) (fACons (fOp gSub (fOp gSub (fVar 3) (fC (.int 1))) (fOp gMod (fVar 4) (fCall gMin2 (fACons (fVar 3) (fACons (fC (.int 20)) fANil))))) fANil))) (fOp gMod (fCall r_l_mixed (fACons (fVar 0) (fACons (fC (.int 13)) fANil))) (fC (.int 2))))) (.nx))
    (fSeq (fSetO 5 (fCall gList (fACons (fVar 1) fANil)))
    (fSeq (fIfS (fOr (fNot (fTst (fCall r_l_whole (fACons (fCall r_c_many (fACons (fVar 5) fANil)) fANil)))) (fOr (fTst (fOp gNe (fCall r_c_many (fACons (fVar 5) fANil)) (fVar 3))) (fTst (fOp gNe (fCall r_c_row_at (fACons (fVar 5) (fACons (fC (.int 0)) fANil))) (fOp gMul (fTup (fACons (fC (.int 0)) fANil)) (fCall gLen (fACons (fVar 1) fANil))))))) (fRet (fC (.bool false))) (.nx))
    (fSeq (fSet 6 (fCall r_l_number3 (fACons (fVar 1) (fACons (fVar 2) fANil))))
    (fSeq (fIfS (fOr (fNot (fTst (fCall r_l_whole (fACons (fCall r_c_number_in (fACons (fVar 5) (fACons (fVar 2) fANil))) fANil)))) (fOr (fTst (fOp gNe (fCall r_c_number_in (fACons (fVar 5) (fACons (fVar 2) fANil))) (fVar 6))) (fTst (fOp gNe (fCall r_c_row_at (fACons (fVar 5) (fACons (fVar 6) fANil))) (fVar 2))))) (fRet (fC (.bool false))) (.nx))
    (fSeq (fSetB 7 (fCall r_c_row_at (fACons (fVar 5) (fACons (fVar 4) fANil))))
    (fSeq (fIfS (fOr (fNot (fTst (fCall r_l_is_row (fACons (fVar 7) (fACons (fVar 1) fANil))))) (fOr (fTst (fOp gNe (fCall r_c_number_in (fACons (fVar 5) (fACons (fVar 7) fANil))) (fVar 4))) (fTst (fOp gNe (fVar 5) (fVar 1))))) (fRet (fC (.bool false))) (.nx))
    (fSeq (fIfS (fTst (fOp gLt (fOp gAdd (fVar 4) (fC (.int 1))) (fVar 3))) (fSeq (fSetB 8 (fCall r_c_row_at (fACons (fVar 5) (fACons (fOp gAdd (fVar 4) (fC (.int 1))) fANil))))
      (fSeq (fSet 9 (fLc (fRg rg1 (fACons (fCall gLen (fACons (fVar 1) fANil)) fANil)) (setN 10) (fTst (fOp gNe (fOp gIx (fVar 7) (fVar 10)) (fOp gIx (fVar 8) (fVar 10)))) (fVar 10) [10]))
      (fSeq (fIfS (fOr (fNot (fTst (fCall r_l_is_row (fACons (fVar 8) (fACons (fVar 1) fANil))))) (fTst (fOp gNe (fCall gLen (fACons (fVar 9) fANil)) (fC (.int 1))))) (fRet (fC (.bool false))) (.nx))
      (fIfS (fTst (fOp gNe (fCall gAbs (fACons (fOp gSub (fOp gIx (fVar 7) (fOp gIx (fVar 9) (fC (.int 0)))) (fOp gIx (fVar 8) (fOp gIx (fVar 9) (fC (.int 0))))) fANil)) (fC (.int 1)))) (fRet (fC (.bool false))) (.nx))))) (.nx))
    (fSeq (fPut 5 (fC (.int 0)) (fC (.int 9)))
    (fRetB (fAnd (fOp gEq (fCall r_c_row_at (fACons (fVar 1) (fACons (fVar 4) fANil))) (fVar 7)) (fOp gEq (fCall r_c_number_in (fACons (fVar 5) (fACons (fVar 7) fANil))) (fCall r_l_number3 (fACons (fVar 5) (fACons (fVar 7) fANil)))))))))))))))))))
def r_law_k08 : List D → R := run 1 11 F_law_k08
def F_c_move_between : List Sl → Fl := (fSeq (fFor (fRg rg1 (fACons (fCall gLen (fACons (fVar 0) fANil)) fANil)) (setN 2) (fIfS (fTst (fOp gNe (fOp gIx (fVar 0) (fVar 2)) (fOp gIx (fVar 1) (fVar 2)))) (fRet (fTup (fACons (fVar 2) (fACons (fOp gSub (fOp gIx (fVar 1) (fVar 2)) (fOp gIx (fVar 0) (fVar 2))) fANil)))) (.nx)))
    (fRet (fTup (fACons (fC (.int 0)) (fACons (fC (.int 0)) fANil)))))
def r_c_move_between : List D → R := run 2 3 F_c_move_between
def F_c_moves_by2 : List Sl → Fl := (fSeq (fSet 2 (fCall r_c_number_by (fACons (fVar 0) (fACons (fVar 1) fANil))))
    (fSeq (fSetO 3 (fLst fANil))
    (fSeq (fFor (fSeqI (fTup (fACons (fOp gSub (fVar 2) (fC (.int 1))) (fACons (fOp gAdd (fVar 2) (fC (.int 1))) fANil)))) (setN 4) (fIfS (fTst (fChain gLe gLt (fC (.int 0)) (fVar 4) (fCall r_c_product_of (fACons (fVar 0) fANil)))) (fApp 3 (fCall r_c_move_between (fACons (fVar 1) (fACons (fCall r_c_row_by (fACons (fVar 0) (fACons (fVar 4) fANil))) fANil)))) (.nx)))
    (fRetB (fCall gSortedP (fACons (fVar 3) fANil))))))
def r_c_moves_by2 : List D → R := run 2 5 F_c_moves_by2
def F_c_moved_by : List Sl → Fl := (fRet (fOp gAdd (fOp gAdd (fSl (fVar 0) (fun _ => .ok none) (fPart (fOp gIx (fVar 1) (fC (.int 0))))) (fTup (fACons (fOp gAdd (fOp gIx (fVar 0) (fOp gIx (fVar 1) (fC (.int 0)))) (fOp gIx (fVar 1) (fC (.int 1)))) fANil))) (fSl (fVar 0) (fPart (fOp gAdd (fOp gIx (fVar 1) (fC (.int 0))) (fC (.int 1)))) (fun _ => .ok none))))
def r_c_moved_by : List D → R := run 2 2 F_c_moved_by
def F_c_is_move2 : List Sl → Fl := (fSeq (fIfS (fOr (fNot (fTst (fIsi "tuple" (fVar 2)))) (fOr (fTst (fOp gNe (fCall gLen (fACons (fVar 2) fANil)) (fC (.int 2)))) (fOr (fNot (fTst (fCall r_b_is_whole (fACons (fOp gIx (fVar 2) (fC (.int 0))) fANil)))) (fNot (fTst (fCall r_b_is_whole (fACons (fOp gIx (fVar 2) (fC (.int 1))) fANil))))))) (fRet (fC (.bool false))) (.nx))
    (fRet (fOp (gIn false) (fVar 2) (fCall r_c_moves_by2 (fACons (fVar 0) (fACons (fVar 1) fANil))))))
def r_c_is_move2 : List D → R := run 3 3 F_c_is_move2
def F_c_moves2 : List Sl → Fl := (fSeq (fDrop (fCall r_c_need_row (fACons (fVar 0) (fACons (fVar 1) fANil))))
    (fRet (fCall r_c_moves_by2 (fACons (fVar 0) (fACons (fVar 1) fANil)))))
def r_c_moves2 : List D → R := run 2 2 F_c_moves2
def F_c_moved2 : List Sl → Fl := (fSeq (fDrop (fCall r_c_need_row (fACons (fVar 0) (fACons (fVar 1) fANil))))
    (fSeq (fIfS (fNot (fTst (fCall r_c_is_move2 (fACons (fVar 0) (fACons (fVar 1) (fACons (fVar 2) fANil)))))) (fun δ => .exc (Str.ofString "NoMove") δ) (.nx))
    (fRet (fCall r_c_moved_by (fACons (fVar 1) (fACons (fVar 2) fANil))))))
def r_c_moved2 : List D → R := run 3 3 F_c_moved2
def F_l_turned2 : List Sl → Fl := (fRet (fOp gAdd (fOp gAdd (fSl (fVar 0) (fun _ => .ok none) (fPart (fVar 1))) (fTup (fACons (fOp gAdd (fOp gIx (fVar 0) (fVar 1)) (fVar 2)) fANil))) (fSl (fVar 0) (fPart (fOp gAdd (fVar 1) (fC (.int 1)))) (fun _ => .ok none))))
def r_l_turned2 : List D → R := run 3 3 F_l_turned2
def F_l_due : List Sl → Fl := (fSeq (fSetO 2 (fLst fANil))
    (fSeq (fSet 3 (fCall r_l_number3 (fACons (fVar 0) (fACons (fVar 1) fANil))))
    (fSeq (fFor (fRg enumD (fACons (fVar 0) fANil)) (setT [4, 5]) (fFor (fSeqI (fTup (fACons (fNeg (fC (.int 1))) (fACons (fC (.int 1)) fANil)))) (setN 6) (fIfS (fTst (fChain gLe gLt (fC (.int 0)) (fOp gAdd (fOp gIx (fVar 1) (fVar 4)) (fVar 6)) (fVar 5))) (fIfS (fTst (fOp gEq (fCall gAbs (fACons (fOp gSub (fCall r_l_number3 (fACons (fVar 0) (fACons (fCall r_l_turned2 (fACons (fVar 1) (fACons (fVar 4) (fACons (fVar 6) fANil)))) fANil))) (fVar 3)) fANil)) (fC (.int 1)))) (fApp 2 (fTup (fACons (fVar 4) (fACons (fVar 6) fANil)))) (.nx)) (.nx))))
    (fRetV 2))))
def r_l_due : List D → R := run 2 7 F_l_due
def F_l_refused4 : List Sl → Fl := (fSeq (fTry 3 ["NoMove"] (fDrop (fCall r_c_moved2 (fACons (fVar 0) (fACons (fVar 1) (fACons (fVar 2) fANil))))) fun c => .rt (.bool (PyData.eqv (.list (word c)) (.list [.str (Str.ofString "move")]))))
    (fRet (fC (.bool false))))
def r_l_refused4 : List D → R := run 3 4 F_l_refused4
def F_l_told : List Sl → Fl := (fSeq (fIfS (fOr (fNot (fTst (fIsi "list" (fVar 0)))) (fTst (fOp gNe (fVar 0) (fVar 1)))) (fRet (fC (.bool false))) (.nx))
    (fSeq (fFor (fSeqI (fVar 0)) (setN 2) (fIfS (fOr (fNot (fTst (fIsi "tuple" (fVar 2)))) (fOr (fNot (fTst (fCall r_l_whole (fACons (fOp gIx (fVar 2) (fC (.int 0))) fANil)))) (fNot (fTst (fCall r_l_whole (fACons (fOp gIx (fVar 2) (fC (.int 1))) fANil)))))) (fRet (fC (.bool false))) (.nx)))
    (fRet (fC (.bool true)))))
def r_l_told : List D → R := run 2 3 F_l_told
def F_law_k093 : List Sl → Fl := (fSeq (fSet 1 (fCall r_l_counts (fACons (fVar 0) (fACons (fC (.int 0)) (fACons (fC (.int 12)) fANil)))))
    (fSeq (fSet 2 (fCall r_l_row (fACons (fVar 0) (fACons (fC (.int 5)) (fACons (fVar 1) fANil)))))
    (fSeq (fSet 3 (fCall r_l_due (fACons (fVar 1) (fACons (fVar 2) fANil))))
    (fSeq (fIfS (fNot (fTst (fChain gLe gLe (fC (.int 1)) (fCall gLen (fACons (fVar 3) fANil)) (fC (.int 2))))) (fRet (fC (.bool false))) (.nx))
    (fSeq (fSetO 4 (fLst fANil))
    (fSeq (fFor (fRg rg1 (fACons (fC (.int 2)) fANil)) (setN 5) (fSeq (fSetO 6 (fCall r_c_moves2 (fACons (fVar 1) (fACons (fVar 2) fANil))))
      (fSeq (fIfS (fNot (fTst (fCall r_l_told (fACons (fVar 6) (fACons (fVar 3) fANil))))) (fRet (fC (.bool false))) (.nx))
      (fSeq (fApp 6 (fVar 5))
      (fFrz 6 (fApp 4 (fTup (fACons (fVar 6) (fACons (fCall gList (fACons (fVar 6) fANil)) fANil)))))))))
    (fSeq (fFor (fRg rg1 (fACons (fCall gLen (fACons (fVar 1) fANil)) fANil)) (setN 7) (fFor (fSeqI (fTup (fACons (fNeg (fC (.int 2))) (fACons (fNeg (fC (.int 1))) (fACons (fC (.int 0)) (fACons (fC (.int 1)) (fACons (fC (.int 2)) fANil))))))) (setN 8) (fIfS (fTst (fOp (gIn false) (fTup (fACons (fVar 7) (fACons (fVar 8) fANil))) (fVar 3))) (fSeq (fSetO 6 (fCall r_c_moved2 (fACons (fVar 1) (fACons (fVar 2) (fACons (fTup (fACons (fVar 7) (fACons (fVar 8) fANil))) fANil)))))
          (fIfS (fOr (fNot (fTst (fCall r_l_is_row (fACons (fVar 6) (fACons (fVar 1) fANil))))) (fTst (fOp gNe (fVar 6) (fCall r_l_turned2 (fACons (fVar 2) (fACons (fVar 7) (fACons (fVar 8) fANil))))))) (fRet (fC (.bool false))) (.nx))) (fIfS (fNot (fTst (fCall r_l_refused4 (fACons (fVar 1) (fACons (fVar 2) (fACons (fTup (fACons (fVar 7) (fACons (fVar 8) fANil))) fANil)))))) (fRet (fC (.bool false))) (.nx)))))
    (fSeq (fUnp [7, 8] (fOp gIx (fVar 3) (fC (.int 0))))
    (fSeq (fSet 9 (fLst (fACons (fC .none) (fACons (fLst (fACons (fVar 7) (fACons (fVar 8) fANil))) (fACons (fTup (fACons (fVar 7) fANil)) (fACons (fTup (fACons (fVar 7) (fACons (fVar 8) (fACons (fC (.int 0)) fANil)))) (fACons (fTup (fACons (fCall gLen (fACons (fVar 1) fANil)) (fACons (fC (.int 1)) fANil))) (fACons (fTup (fACons (fNeg (fC (.int 1))) (fACons (fVar 8) fANil))) (fACons (fC (.str (Str.ofString "01"))) (fACons (fTup (fACons (fC (.bool true)) (fACons (fVar 8) fANil))) (fACons (fTup (fACons (fC (.int 0)) (fACons (fC (.bool true)) fANil))) fANil)))))))))))
    (fSeq (fFor (fSeqI (fVar 9)) (setN 10) (fIfS (fNot (fTst (fCall r_l_refused4 (fACons (fVar 1) (fACons (fVar 2) (fACons (fVar 10) fANil)))))) (fRet (fC (.bool false))) (.nx)))
    (fRetB (fOp gEq (fLc (fSeqI (fVar 4)) (setN 11) (fTst (fOp gNe (fOp gIx (fVar 11) (fC (.int 0))) (fOp gIx (fVar 11) (fC (.int 1))))) (fVar 11) [11]) (fLst fANil)))))))))))))
def r_law_k093 : List D → R := run 1 12 F_law_k093
def F_c_rows : List Sl → Fl := (fSeq (fDrop (fCall r_c_need_counts (fACons (fVar 0) fANil)))
    (fSeq (fIfS (fTst (fOp gGt (fCall r_c_product_of (fACons (fVar 0) fANil)) (fC (.int 500)))) (fun δ => .exc (Str.ofString "TooMany") δ) (.nx))
    (fRet (fLc (fRg rg1 (fACons (fCall r_c_product_of (fACons (fVar 0) fANil)) fANil)) (setN 1) (fC (.bool true)) (fCall r_c_row_by (fACons (fVar 0) (fACons (fVar 1) fANil))) [1]))))
def r_c_rows : List D → R := run 1 2 F_c_rows
def F_l_refused3 : List Sl → Fl := (fSeq (fTry 1 ["TooMany"] (fDrop (fCall r_c_rows (fACons (fVar 0) fANil))) fun c => .rt (.bool (PyData.eqv (.list (word c)) (.list [.str (Str.ofString "many")]))))
    (fRet (fC (.bool false))))
def r_l_refused3 : List D → R := run 1 2 F_l_refused3
def F_l_one_apart : List Sl → Fl := (fSeq (fSet 2 (fLc (fRg rg1 (fACons (fCall gLen (fACons (fVar 0) fANil)) fANil)) (setN 3) (fTst (fOp gNe (fOp gIx (fVar 0) (fVar 3)) (fOp gIx (fVar 1) (fVar 3)))) (fVar 3) [3]))
    (fRet (fAnd (fOp gEq (fCall gLen (fACons (fVar 2) fANil)) (fC (.int 1))) (fOp gEq (fCall gAbs (fACons (fOp gSub (fOp gIx (fVar 0) (fOp gIx (fVar 2) (fC (.int 0)))) (fOp gIx (fVar 1) (fOp gIx (fVar 2) (fC (.int 0))))) fANil)) (fC (.int 1))))))
def r_l_one_apart : List D → R := run 2 4 F_l_one_apart
def F_law_k103 : List Sl → Fl := (fSeq (fSet 1 (fCall r_l_counts (fACons (fVar 0) (fACons (fC (.int 0)) (fACons (fC (.int 4)) fANil)))))
    (fSeq (fIfS (fTst (fOp gEq (fOp gMod (fCall r_l_mixed (fACons (fVar 0) (fACons (fC (.int 5)) fANil))) (fC (.int 8))) (fC (.int 3)))) (fSeq (fSet 2 (fLst (fACons (fLst (fACons (fC (.int 5)) (fACons (fC (.int 4)) (fACons (fC (.int 5)) (fACons (fC (.int 5)) fANil))))) (fACons (fOp gMul (fLst (fACons (fC (.int 2)) fANil)) (fC (.int 9))) (fACons (fLst (fACons (fC (.int 7)) (fACons (fC (.int 8)) (fACons (fC (.int 9)) fANil)))) (fACons (fLst (fACons (fC (.int 8)) (fACons (fC (.int 8)) (fACons (fC (.int 8)) fANil)))) (fACons (fLst (fACons (fC (.int 6)) (fACons (fC (.int 2)) (fACons (fC (.int 7)) (fACons (fC (.int 6)) fANil))))) (fACons (fLst (fACons (fC (.int 3)) (fACons (fC (.int 4)) (fACons (fC (.int 6)) (fACons (fC (.int 7)) fANil))))) (fACons (fLst (fACons (fC (.int 8)) (fACons (fC (.int 6)) (fACons (fC (.int 5)) (fACons (fC (.int 2)) fANil))))) (fACons (fOp gMul (fLst (fACons (fC (.int 2)) fANil)) (fC (.int 12))) fANil))))))))))
      (fSet 1 (fOp gIx (fVar 2) (fOp gMod (fOp gFdiv (fCall r_l_mixed (fACons (fVar 0) (fACons (fC (.int 5)) fANil))) (fC (.int 8))) (fC (.int 8)))))) (.nx))
    (fSeq (fSet 3 (fCall r_l_product (fACons (fVar 1) fANil)))
    (fSeq (fIfS (fTst (fOp gGt (fVar 3) (fC (.int 500)))) (fRet (fAnd (fCall r_l_refused3 (fACons (fVar 1) fANil)) (fCall r_l_refused3 (fACons (fCall gList (fACons (fVar 1) fANil)) fANil)))) (.nx))
    (fSeq (fSetO 4 (fCall gList (fACons (fVar 1) fANil)))
    (fSeq (fSetBO 5 (fCall r_c_rows (fACons (fVar 4) fANil)))
    (fSeq (fIfS (fOr (fNot (fTst (fIsi "list" (fVar 5)))) (fOr (fTst (fOp gNe (fCall gLen (fACons (fVar 5) fANil)) (fVar 3))) (fOr (fTst (fOp gNe (fVar 4) (fVar 1))) (fTst (fOp gNe (fOp gIx (fVar 5) (fC (.int 0))) (fOp gMul (fTup (fACons (fC (.int 0)) fANil)) (fCall gLen (fACons (fVar 1) fANil)))))))) (fRet (fC (.bool false))) (.nx))
    (fSeq (fNewD 6)
    (fSeq (fForO 5 (fRg enumD (fACons (fVar 5) fANil)) (setT [7, 8]) (fSeq (fIfS (fOr (fNot (fTst (fCall r_l_is_row (fACons (fVar 8) (fACons (fVar 1) fANil))))) (fOr (fTst (fInV false 6 (fVar 8))) (fTst (fOp gNe (fCall r_c_number_in (fACons (fVar 4) (fACons (fVar 8) fANil))) (fVar 7))))) (fRet (fC (.bool false))) (.nx))
      (fSeq (fDPut 6 (fVar 8) (fC (.bool true)))
      (fIfS (fAnd (fTst (fOp gGt (fVar 7) (fC (.int 0)))) (fNot (fTst (fCall r_l_one_apart (fACons (fOp gIx (fVar 5) (fOp gSub (fVar 7) (fC (.int 1)))) (fACons (fVar 8) fANil)))))) (fRet (fC (.bool false))) (.nx)))))
    (fSeq (fSetB 9 (fCall gList (fACons (fVar 5) fANil)))
    (fSeq (fPut 5 (fC (.int 0)) (fC .none))
    (fSeq (fApp 5 (fC .none))
    (fSeq (fSetB 10 (fCall gList (fACons (fVar 5) fANil)))
    (fSeq (fIfS (fTst (fOp gNe (fCall r_c_rows (fACons (fVar 4) fANil)) (fVar 9))) (fRet (fC (.bool false))) (.nx))
    (fSeq (fPut 4 (fC (.int 0)) (fC (.int 2)))
    (fRetB (fAnd (fOp gEq (fCall gLen (fACons (fCall r_c_rows (fACons (fVar 4) fANil)) fANil)) (fCall r_l_product (fACons (fVar 4) fANil))) (fAnd (fOp gEq (fCall r_c_rows (fACons (fVar 1) fANil)) (fVar 9)) (fOp gEq (fVar 5) (fVar 10))))))))))))))))))))
def r_law_k103 : List D → R := run 1 11 F_law_k103
def F_c_moves_between : List Sl → Fl := (fSeq (fSet 4 (fCall r_c_number_by (fACons (fVar 0) (fACons (fVar 1) fANil))))
    (fSeq (fSet 5 (fCall r_c_number_by (fACons (fVar 0) (fACons (fVar 2) fANil))))
    (fSeq (fSetO 6 (fLst fANil))
    (fSeq (fWhile (fAnd (fTst (fOp gNe (fVar 4) (fVar 5))) (fTst (fOp gLt (fCall gLen (fACons (fVar 6) fANil)) (fVar 3)))) (fSeq (fSet 4 (fOp gAdd (fVar 4) (fIf (fTst (fOp gLt (fVar 4) (fVar 5))) (fC (.int 1)) (fNeg (fC (.int 1))))))
      (fSeq (fSet 7 (fCall r_c_row_by (fACons (fVar 0) (fACons (fVar 4) fANil))))
      (fSeq (fApp 6 (fCall r_c_move_between (fACons (fVar 1) (fACons (fVar 7) fANil))))
      (fSet 1 (fVar 7))))))
    (fRetV 6)))))
def r_c_moves_between : List D → R := run 4 8 F_c_moves_between
def F_c_way_in : List Sl → Fl := (fSeq (fDrop (fCall r_c_need_row (fACons (fVar 0) (fACons (fVar 1) fANil))))
    (fSeq (fDrop (fCall r_c_need_row (fACons (fVar 0) (fACons (fVar 2) fANil))))
    (fSeq (fDrop (fCall r_b_need_most (fACons (fVar 3) fANil)))
    (fRet (fCall r_c_moves_between (fACons (fVar 0) (fACons (fVar 1) (fACons (fVar 2) (fACons (fVar 3) fANil)))))))))
def r_c_way_in : List D → R := run 4 4 F_c_way_in
def F_l_gone2 : List Sl → Fl := (fSeq (fSet 4 (fCall r_l_number3 (fACons (fVar 0) (fACons (fVar 1) fANil))))
    (fSeq (fFor (fSeqI (fVar 2)) (setN 5) (fSeq (fIfS (fOr (fNot (fTst (fIsi "tuple" (fVar 5)))) (fOr (fTst (fOp gNe (fCall gLen (fACons (fVar 5) fANil)) (fC (.int 2)))) (fOr (fNot (fTst (fCall r_l_whole (fACons (fOp gIx (fVar 5) (fC (.int 0))) fANil)))) (fNot (fTst (fCall r_l_whole (fACons (fOp gIx (fVar 5) (fC (.int 1))) fANil))))))) (fRet (fC .none)) (.nx))
      (fSeq (fIfS (fOr (fNot (fTst (fChain gLe gLt (fC (.int 0)) (fOp gIx (fVar 5) (fC (.int 0))) (fCall gLen (fACons (fVar 0) fANil))))) (fTst (fOp gNe (fCall gAbs (fACons (fOp gIx (fVar 5) (fC (.int 1))) fANil)) (fC (.int 1))))) (fRet (fC .none)) (.nx))
      (fSeq (fSet 1 (fOp gAdd (fOp gAdd (fSl (fVar 1) (fun _ => .ok none) (fPart (fOp gIx (fVar 5) (fC (.int 0))))) (fTup (fACons (fOp gAdd (fOp gIx (fVar 1) (fOp gIx (fVar 5) (fC (.int 0)))) (fOp gIx (fVar 5) (fC (.int 1)))) fANil))) (fSl (fVar 1) (fPart (fOp gAdd (fOp gIx (fVar 5) (fC (.int 0))) (fC (.int 1)))) (fun _ => .ok none))))
      (fSeq (fSet 4 (fOp gAdd (fVar 4) (fVar 3)))
      (fIfS (fOr (fNot (fTst (fCall r_l_is_row (fACons (fVar 1) (fACons (fVar 0) fANil))))) (fTst (fOp gNe (fCall r_l_number3 (fACons (fVar 0) (fACons (fVar 1) fANil))) (fVar 4)))) (fRet (fC .none)) (.nx)))))))
    (fRetV 1)))
def r_l_gone2 : List D → R := run 4 6 F_l_gone2
def F_law_k11 : List Sl → Fl := (fSeq (fSet 1 (fCall r_l_counts (fACons (fVar 0) (fACons (fC (.int 0)) (fACons (fC (.int 12)) fANil)))))
    (fSeq (fSet 2 (fCall r_l_row (fACons (fVar 0) (fACons (fC (.int 5)) (fACons (fVar 1) fANil)))))
    (fSeq (fSet 3 (fCall r_l_row (fACons (fVar 0) (fACons (fC (.int 12)) (fACons (fVar 1) fANil)))))
    (fSeq (fSet 4 (fCall r_l_product (fACons (fVar 1) fANil)))
    (fSeq (fIfS (fTst (fOp gGt (fOp gMod (fCall r_l_mixed (fACons (fVar 0) (fACons (fC (.int 18)) fANil))) (fC (.int 3))) (fC (.int 0)))) (fSeq (fSet 5 (fOp gSub (fOp gAdd (fCall r_l_number3 (fACons (fVar 1) (fACons (fVar 2) fANil))) (fOp gMod (fCall r_l_mixed (fACons (fVar 0) (fACons (fC (.int 19)) fANil))) (fC (.int 81)))) (fC (.int 40))))
      (fSet 3 (fCall r_c_row_at (fACons (fCall gList (fACons (fVar 1) fANil)) (fACons (fCall gMin2 (fACons (fOp gSub (fVar 4) (fC (.int 1))) (fACons (fCall gMax2 (fACons (fC (.int 0)) (fACons (fVar 5) fANil))) fANil))) fANil))))) (.nx))
    (fSeq (fSet 6 (fOp gMod (fCall r_l_mixed (fACons (fVar 0) (fACons (fC (.int 20)) fANil))) (fC (.int 51))))
    (fSeq (fIfS (fTst (fOp gEq (fOp gMod (fOp gFdiv (fCall r_l_mixed (fACons (fVar 0) (fACons (fC (.int 18)) fANil))) (fC (.int 3))) (fC (.int 8))) (fC (.int 1)))) (fSet 6 (fC (.int 1000))) (.nx))
    (fSeq (fSet 7 (fC (.int 1)))
    (fSeq (fIfS (fTst (fOp gLt (fCall r_l_number3 (fACons (fVar 1) (fACons (fVar 3) fANil))) (fCall r_l_number3 (fACons (fVar 1) (fACons (fVar 2) fANil))))) (fSet 7 (fNeg (fC (.int 1)))) (.nx))
    (fSeq (fSet 8 (fCall gAbs (fACons (fOp gSub (fCall r_l_number3 (fACons (fVar 1) (fACons (fVar 3) fANil))) (fCall r_l_number3 (fACons (fVar 1) (fACons (fVar 2) fANil)))) fANil)))
    (fSeq (fSetO 9 (fLst fANil))
    (fSeq (fFor (fRg rg1 (fACons (fC (.int 2)) fANil)) (setN 10) (fSeq (fSetO 11 (fCall r_c_way_in (fACons (fCall gList (fACons (fVar 1) fANil)) (fACons (fVar 2) (fACons (fVar 3) (fACons (fVar 6) fANil))))))
      (fSeq (fIfS (fOr (fNot (fTst (fIsi "list" (fVar 11)))) (fTst (fOp gNe (fCall gLen (fACons (fVar 11) fANil)) (fCall gMin2 (fACons (fVar 8) (fACons (fVar 6) fANil)))))) (fRet (fC (.bool false))) (.nx))
      (fSeq (fSetB 5 (fCall r_l_gone2 (fACons (fVar 1) (fACons (fVar 2) (fACons (fVar 11) (fACons (fVar 7) fANil))))))
      (fSeq (fIfS (fOr (fTst (fOp (gIs false) (fVar 5) (fC .none))) (fAnd (fTst (fOp gLe (fVar 8) (fVar 6))) (fTst (fOp gNe (fVar 5) (fVar 3))))) (fRet (fC (.bool false))) (.nx))
      (fSeq (fIfS (fTst (fOp gLe (fVar 8) (fVar 6))) (fSeq (fSetB 12 (fLc (fRevI (fVar 11)) (setT [13, 14]) (fC (.bool true)) (fTup (fACons (fVar 13) (fACons (fOp gSub (fC (.int 0)) (fVar 14)) fANil))) [13, 14]))
        (fIfS (fTst (fOp gNe (fCall r_c_way_in (fACons (fCall gList (fACons (fVar 1) fANil)) (fACons (fVar 3) (fACons (fVar 2) (fACons (fVar 6) fANil))))) (fVar 12))) (fRet (fC (.bool false))) (.nx))) (.nx))
      (fSeq (fApp 11 (fVar 10))
      (fFrz 11 (fApp 9 (fTup (fACons (fVar 11) (fACons (fCall gList (fACons (fVar 11) fANil)) fANil))))))))))))
    (fRetB (fOp gEq (fLc (fSeqI (fVar 9)) (setN 15) (fTst (fOp gNe (fOp gIx (fVar 15) (fC (.int 0))) (fOp gIx (fVar 15) (fC (.int 1))))) (fVar 15) [15]) (fLst fANil)))))))))))))))
def r_law_k11 : List D → R := run 1 16 F_law_k11
def F_n_shown_row2 : List Sl → Fl := (fSeq (fDrop (fCall r_c_need_row (fACons (fVar 0) (fACons (fVar 1) fANil))))
    (fRet (fJoin (fC (.str (Str.ofString ""))) (fLc (fSeqI (fVar 1)) (setN 2) (fC (.bool true)) (fCall gStr (fACons (fVar 2) fANil)) [2]))))
def r_n_shown_row2 : List D → R := run 2 3 F_n_shown_row2
def F_law_k122 : List Sl → Fl := (fSeq (fSet 1 (fOp gAdd (fC (.int 1)) (fOp gMod (fCall r_l_mixed (fACons (fVar 0) (fACons (fC (.int 0)) fANil))) (fC (.int 12)))))
    (fSeq (fSet 2 (fOp gMul (fLst (fACons (fC (.int 2)) fANil)) (fVar 1)))
    (fSeq (fSet 3 (fCall r_l_setting (fACons (fVar 0) (fACons (fC (.int 1)) (fACons (fVar 1) fANil)))))
    (fSeq (fSet 4 (fCall r_l_setting (fACons (fVar 0) (fACons (fC (.int 4)) (fACons (fVar 1) fANil)))))
    (fSeq (fSet 5 (fCall r_b_number_of (fACons (fVar 3) fANil)))
    (fSeq (fIfS (fOr (fTst (fOp gNe (fCall r_c_number_in (fACons (fVar 2) (fACons (fVar 3) fANil))) (fVar 5))) (fTst (fOp gNe (fCall r_c_row_at (fACons (fVar 2) (fACons (fVar 5) fANil))) (fCall r_b_setting_at (fACons (fVar 1) (fACons (fVar 5) fANil)))))) (fRet (fC (.bool false))) (.nx))
    (fSeq (fSet 6 (fLc (fSeqI (fCall r_b_changeable3 (fACons (fVar 3) fANil))) (setN 9) (fC (.bool true)) (fTup (fACons (fVar 9) (fACons (fOp gSub (fC (.int 1)) (fOp gMul (fC (.int 2)) (fOp gIx (fVar 3) (fVar 9)))) fANil))) [9]))
    (fSeq (fIfS (fOr (fTst (fOp gNe (fCall r_c_moves2 (fACons (fVar 2) (fACons (fVar 3) fANil))) (fVar 6))) (fTst (fOp gNe (fLc (fSeqI (fVar 6)) (setT [9, 10]) (fNot (fTst (fCall r_l_may (fACons (fVar 3) (fACons (fVar 9) fANil))))) (fVar 9) [9, 10]) (fLst fANil)))) (fRet (fC (.bool false))) (.nx))
    (fSeq (fSet 7 (fOp gMod (fCall r_l_mixed (fACons (fVar 0) (fACons (fC (.int 7)) fANil))) (fC (.int 40))))
    (fSeq (fSet 8 (fCall r_b_way (fACons (fVar 3) (fACons (fVar 4) (fACons (fVar 7) fANil)))))
    (fSeq (fIfS (fTst (fOp gNe (fLc (fSeqI (fCall r_c_way_in (fACons (fVar 2) (fACons (fVar 3) (fACons (fVar 4) (fACons (fVar 7) fANil)))))) (setT [11, 10]) (fC (.bool true)) (fVar 11) [11, 10]) (fVar 8))) (fRet (fC (.bool false))) (.nx))
    (fRet (fAnd (fOp gEq (fCall r_n_shown_row2 (fACons (fVar 2) (fACons (fVar 3) fANil))) (fRepl "." "0" (fRepl "o" "1" (fCall r_n_shown2 (fACons (fVar 3) fANil))))) (fOp gEq (fVar 2) (fOp gMul (fLst (fACons (fC (.int 2)) fANil)) (fVar 1))))))))))))))))
def r_law_k122 : List D → R := run 1 12 F_law_k122
def F_x_wall : List Sl → Fl := (fWhile (fTst (fC (.bool true))) (.nx))
def r_x_wall : List D → R := run 1 1 F_x_wall
def F_k_Rinit1 : List Sl → Fl := (fIfS (fOr (fNot (fTst (fIsi "list" (fVar 1)))) (fNot (fTst (fChain gLe gLe (fC (.int 1)) (fCall gLen (fACons (fVar 1) fANil)) (fC (.int 5)))))) (fun δ => .exc (Str.ofString "BadChest") δ) (.nx))
def F_k_Rinit2 : List Sl → Fl := (fFor (fSeqI (fVar 1)) (setN 2) (fDrop (fCall r_c_need_counts (fACons (fVar 2) fANil))))
def f_k_Rinit1 : List Sl → R := (fLc (fSeqI (fVar 1)) (setN 2) (fC (.bool true)) (fCall gList (fACons (fVar 2) fANil)) [2])
def f_k_Rinit2 : List Sl → R := (fLc (fSeqI (fVar 1)) (setN 2) (fC (.bool true)) (fOp gMul (fTup (fACons (fC (.int 0)) fANil)) (fCall gLen (fACons (fVar 2) fANil))) [2])
def r_k_Rinit : List D → R := initRun 1 F_k_Rinit1 F_k_Rinit2 f_k_Rinit1 f_k_Rinit2 0
def F_k_Rrows : List Sl → Fl := (fRet (fCall gList (fACons (fFld 1 (fVar 0)) fANil)))
def r_k_Rrows : List D → R := run 1 1 F_k_Rrows
def F_k_Rnumbers : List Sl → Fl := (fRet (fLc (fRg zipD (fACons (fFld 0 (fVar 0)) (fACons (fFld 1 (fVar 0)) fANil))) (setT [1, 2]) (fC (.bool true)) (fCall r_c_number_by (fACons (fVar 1) (fACons (fVar 2) fANil))) [1, 2]))
def r_k_Rnumbers : List D → R := run 1 3 F_k_Rnumbers
def F_k_Rdeeds : List Sl → Fl := (fRet (fCall gList (fACons (fFld 2 (fVar 0)) fANil)))
def r_k_Rdeeds : List D → R := run 1 1 F_k_Rdeeds
def F_k_Ris_deed : List Sl → Fl := (fSeq (fIfS (fOr (fNot (fTst (fIsi "tuple" (fVar 1)))) (fTst (fOp gNe (fCall gLen (fACons (fVar 1) fANil)) (fC (.int 3))))) (fRet (fC (.bool false))) (.nx))
    (fSeq (fSet 2 (fOp gIx (fVar 1) (fC (.int 0))))
    (fSeq (fIfS (fOr (fNot (fTst (fIsi "int" (fVar 2)))) (fOr (fTst (fIsi "bool" (fVar 2))) (fNot (fTst (fChain gLe gLt (fC (.int 0)) (fVar 2) (fCall gLen (fACons (fFld 0 (fVar 0)) fANil))))))) (fRet (fC (.bool false))) (.nx))
    (fRet (fCall r_c_is_move2 (fACons (fOp gIx (fFld 0 (fVar 0)) (fVar 2)) (fACons (fOp gIx (fFld 1 (fVar 0)) (fVar 2)) (fACons (fSl (fVar 1) (fPart (fC (.int 1))) (fun _ => .ok none)) fANil))))))))
def r_k_Ris_deed : List D → R := run 2 3 F_k_Ris_deed
def F_k_Rway_to : List Sl → Fl := (fDrop (fCall r_x_wall (fACons (fC (.int 0)) fANil)))
def r_k_Rway_to : List D → R := run 3 3 F_k_Rway_to
def F_l_moves : List Sl → Fl := (fSeq (fSetO 2 (fLst fANil))
    (fSeq (fSet 3 (fCall r_l_number3 (fACons (fVar 0) (fACons (fVar 1) fANil))))
    (fSeq (fFor (fRg enumD (fACons (fVar 0) fANil)) (setT [4, 5]) (fFor (fSeqI (fTup (fACons (fNeg (fC (.int 1))) (fACons (fC (.int 1)) fANil)))) (setN 6) (fIfS (fTst (fChain gLe gLt (fC (.int 0)) (fOp gAdd (fOp gIx (fVar 1) (fVar 4)) (fVar 6)) (fVar 5))) (fIfS (fTst (fOp gEq (fCall gAbs (fACons (fOp gSub (fCall r_l_number3 (fACons (fVar 0) (fACons (fCall r_l_turned2 (fACons (fVar 1) (fACons (fVar 4) (fACons (fVar 6) fANil)))) fANil))) (fVar 3)) fANil)) (fC (.int 1)))) (fApp 2 (fTup (fACons (fVar 4) (fACons (fVar 6) fANil)))) (.nx)) (.nx))))
    (fRetV 2))))
def r_l_moves : List D → R := run 2 7 F_l_moves
def F_l_asked5 : List Sl → Fl := (fSeq (fSetO 2 (fLst (fACons (fC .none) (fACons (fC .none) (fACons (fC .none) fANil)))))
    (fSeq (fFor (fRg rg1 (fACons (fC (.int 3)) fANil)) (setN 3) (fIfS (fTst (fOp gEq (fOp gMod (fOp gAdd (fVar 1) (fVar 3)) (fC (.int 3))) (fC (.int 0)))) (fPut 2 (fC (.int 0)) (fMeth r_k_Rrows (fVar 0) fANil)) (fIfS (fTst (fOp gEq (fOp gMod (fOp gAdd (fVar 1) (fVar 3)) (fC (.int 3))) (fC (.int 1)))) (fPut 2 (fC (.int 1)) (fMeth r_k_Rnumbers (fVar 0) fANil)) (fPut 2 (fC (.int 2)) (fMeth r_k_Rdeeds (fVar 0) fANil)))))
    (fRetV 2)))
def r_l_asked5 : List D → R := run 2 4 F_l_asked5
def F_l_all_whole : List Sl → Fl := (fSeq (fFor (fSeqI (fVar 0)) (setN 1) (fIfS (fOr (fNot (fTst (fIsi "tuple" (fVar 1)))) (fTst (fOp gNe (fLc (fSeqI (fVar 1)) (setN 2) (fNot (fTst (fCall r_l_whole (fACons (fVar 2) fANil)))) (fVar 2) [2]) (fLst fANil)))) (fRet (fC (.bool false))) (.nx)))
    (fRet (fC (.bool true))))
def r_l_all_whole : List D → R := run 1 3 F_l_all_whole
def F_l_right : List Sl → Fl := (fSeq (fSet 6 (fCall r_l_asked5 (fACons (fVar 0) (fACons (fVar 5) fANil))))
    (fSeq (fSet 7 (fLc (fRg zipD (fACons (fVar 1) (fACons (fVar 2) fANil))) (setT [10, 11]) (fC (.bool true)) (fCall r_l_number3 (fACons (fVar 10) (fACons (fVar 11) fANil))) [10, 11]))
    (fSeq (fFor (fRg zipD (fACons (fVar 6) (fACons (fLst (fACons (fVar 2) (fACons (fVar 7) (fACons (fVar 3) fANil)))) fANil))) (setT [8, 9]) (fSeq (fIfS (fOr (fNot (fTst (fIsi "list" (fVar 8)))) (fTst (fOp gNe (fVar 8) (fVar 9)))) (fRet (fC (.bool false))) (.nx))
      (fSeq (fApp 8 (fC .none))
      (fFrz 8 (fApp 4 (fTup (fACons (fVar 8) (fACons (fCall gList (fACons (fVar 8) fANil)) fANil))))))))
    (fSeq (fIfS (fTst (fOp gNe (fLc (fSeqI (fSl (fOp gIx (fVar 6) (fC (.int 1))) (fun _ => .ok none) (fPart (fNeg (fC (.int 1)))))) (setN 12) (fNot (fTst (fCall r_l_whole (fACons (fVar 12) fANil)))) (fVar 12) [12]) (fLst fANil))) (fRet (fC (.bool false))) (.nx))
    (fRet (fAnd (fCall r_l_all_whole (fACons (fSl (fOp gIx (fVar 6) (fC (.int 0))) (fun _ => .ok none) (fPart (fNeg (fC (.int 1))))) fANil)) (fCall r_l_all_whole (fACons (fSl (fOp gIx (fVar 6) (fC (.int 2))) (fun _ => .ok none) (fPart (fNeg (fC (.int 1))))) fANil))))))))
def r_l_right : List D → R := run 6 13 F_l_right
def F_l_bad : List Sl → Fl := (fSeq (fUnp [3, 4, 5] (fVar 1))
    (fSeq (fSet 6 (fLst (fACons (fTup (fACons (fVar 3) (fACons (fVar 4) (fACons (fOp gMul (fC (.int 2)) (fVar 5)) fANil)))) (fACons (fTup (fACons (fVar 3) (fACons (fCall gLen (fACons (fOp gIx (fVar 2) (fVar 3)) fANil)) (fACons (fVar 5) fANil)))) (fACons (fTup (fACons (fCall gLen (fACons (fVar 2) fANil)) (fACons (fVar 4) (fACons (fVar 5) fANil)))) (fACons (fTup (fACons (fNeg (fC (.int 1))) (fACons (fVar 4) (fACons (fVar 5) fANil)))) fANil))))))
    (fSeq (fSet 6 (fOp gAdd (fVar 6) (fLst (fACons (fCall gList (fACons (fVar 1) fANil)) (fACons (fSl (fVar 1) (fPart (fC (.int 1))) (fun _ => .ok none)) (fACons (fOp gAdd (fVar 1) (fTup (fACons (fC (.int 0)) fANil))) (fACons (fC .none) (fACons (fTup (fACons (fVar 3) (fACons (fVar 4) (fACons (fC (.int 0)) fANil)))) (fACons (fTup (fACons (fVar 3) (fACons (fNeg (fC (.int 1))) (fACons (fVar 5) fANil)))) (fACons (fTup (fACons (fVar 3) (fACons (fC (.bool true)) (fACons (fVar 5) fANil)))) fANil))))))))))
    (fSeq (fSet 6 (fOp gAdd (fVar 6) (fLst (fACons (fTup (fACons (fVar 3) (fACons (fVar 4) (fACons (fC (.bool true)) fANil)))) (fACons (fC (.str (Str.ofString "back "))) (fACons (fTup (fACons (fC .none) (fACons (fVar 4) (fACons (fVar 5) fANil)))) (fACons (fTup (fACons (fOp gEq (fVar 3) (fC (.int 1))) (fACons (fVar 4) (fACons (fVar 5) fANil)))) (fACons (fTup (fACons (fC (.bool false)) (fACons (fVar 4) (fACons (fVar 5) fANil)))) fANil))))))))
    (fRet (fOp gIx (fVar 6) (fOp gMod (fVar 0) (fC (.int 16)))))))))
def r_l_bad : List D → R := run 3 7 F_l_bad
def F_k_in_turn : List Sl → Fl := (fSeq (fSetO 2 (fLst fANil))
    (fSeq (fSet 3 (fC (.int 0)))
    (fSeq (fSet 5 (fCall gMax1 (fACons (fLc (fSeqI (fVar 0)) (setN 4) (fC (.bool true)) (fCall gLen (fACons (fVar 4) fANil)) [4]) fANil)))
    (fSeq (fWhile (fTst (fOp gLt (fVar 3) (fVar 5))) (fSeq (fFor (fRg enumD (fACons (fVar 0) fANil)) (setT [6, 4]) (fIfS (fAnd (fTst (fOp gLt (fVar 3) (fCall gLen (fACons (fVar 4) fANil)))) (fTst (fOp gLt (fCall gLen (fACons (fVar 2) fANil)) (fVar 1)))) (fApp 2 (fTup (fACons (fVar 6) (fACons (fOp gIx (fOp gIx (fVar 4) (fVar 3)) (fC (.int 0))) (fACons (fOp gIx (fOp gIx (fVar 4) (fVar 3)) (fC (.int 1))) fANil))))) (.nx)))
      (fSet 3 (fOp gAdd (fVar 3) (fC (.int 1))))))
    (fRetV 2)))))
def r_k_in_turn : List D → R := run 2 7 F_k_in_turn
def F_l_step : List Sl → Fl := (fSeq (fSet 3 (fCall r_l_number3 (fACons (fVar 0) (fACons (fVar 1) fANil))))
    (fSeq (fFor (fRg enumD (fACons (fVar 0) fANil)) (setT [4, 5]) (fFor (fSeqI (fTup (fACons (fNeg (fC (.int 1))) (fACons (fC (.int 1)) fANil)))) (setN 6) (fIfS (fTst (fChain gLe gLt (fC (.int 0)) (fOp gAdd (fOp gIx (fVar 1) (fVar 4)) (fVar 6)) (fVar 5))) (fSeq (fSet 7 (fOp gAdd (fOp gAdd (fSl (fVar 1) (fun _ => .ok none) (fPart (fVar 4))) (fTup (fACons (fOp gAdd (fOp gIx (fVar 1) (fVar 4)) (fVar 6)) fANil))) (fSl (fVar 1) (fPart (fOp gAdd (fVar 4) (fC (.int 1)))) (fun _ => .ok none))))
          (fIfS (fTst (fOp gEq (fCall r_l_number3 (fACons (fVar 0) (fACons (fVar 7) fANil))) (fOp gAdd (fVar 3) (fVar 2)))) (fRet (fTup (fACons (fVar 4) (fACons (fVar 6) (fACons (fVar 7) fANil))))) (.nx))) (.nx))))
    (fRet (fC .none))))
def r_l_step : List D → R := run 3 8 F_l_step
def F_l_due2 : List Sl → Fl := (fSeq (fSetO 4 (fCall gList (fACons (fVar 1) fANil)))
    (fSeq (fSetO 5 (fLst fANil))
    (fSeq (fWhile (fTst (fOp gNe (fVar 4) (fVar 2))) (fFor (fRg enumD (fACons (fVar 0) fANil)) (setT [6, 7]) (fIfS (fTst (fOp gNe (fOp gIx (fVar 4) (fVar 6)) (fOp gIx (fVar 2) (fVar 6)))) (fSeq (fSet 8 (fC (.int 1)))
          (fSeq (fIfS (fTst (fOp gLt (fCall r_l_number3 (fACons (fVar 7) (fACons (fOp gIx (fVar 2) (fVar 6)) fANil))) (fCall r_l_number3 (fACons (fVar 7) (fACons (fOp gIx (fVar 4) (fVar 6)) fANil))))) (fSet 8 (fNeg (fC (.int 1)))) (.nx))
          (fSeq (fUnp [9, 10, 11] (fCall r_l_step (fACons (fVar 7) (fACons (fOp gIx (fVar 4) (fVar 6)) (fACons (fVar 8) fANil)))))
          (fSeq (fPut 4 (fVar 6) (fVar 11))
          (fSeq (fApp 5 (fTup (fACons (fVar 6) (fACons (fVar 9) (fACons (fVar 10) fANil)))))
          (fIfS (fTst (fOp gEq (fCall gLen (fACons (fVar 5) fANil)) (fVar 3))) (fRetV 5) (.nx))))))) (.nx))))
    (fRetV 5))))
def r_l_due2 : List D → R := run 4 12 F_l_due2
def F_l_told_due : List Sl → Fl := (fSeq (fIfS (fTst (fOp gEq (fVar 3) (fC (.int 0)))) (fRet (fLst fANil)) (.nx))
    (fRet (fCall r_l_due2 (fACons (fVar 0) (fACons (fVar 1) (fACons (fVar 2) (fACons (fVar 3) fANil)))))))
def r_l_told_due : List D → R := run 4 4 F_l_told_due
def F_l_stands : List Sl → Fl := (fSeq (fFor (fRg rg1 (fACons (fC (.int 3)) fANil)) (setN 5) (fSeq (fIfS (fAnd (fTst (fOp gEq (fOp gMod (fOp gAdd (fVar 4) (fVar 5)) (fC (.int 3))) (fC (.int 0)))) (fTst (fOp gNe (fMeth r_k_Rrows (fVar 0) fANil) (fVar 2)))) (fRet (fC (.bool false))) (.nx))
      (fSeq (fIfS (fTst (fOp gEq (fOp gMod (fOp gAdd (fVar 4) (fVar 5)) (fC (.int 3))) (fC (.int 1)))) (fIfS (fTst (fOp gNe (fMeth r_k_Rnumbers (fVar 0) fANil) (fLc (fRg zipD (fACons (fVar 1) (fACons (fVar 2) fANil))) (setT [6, 7]) (fC (.bool true)) (fCall r_l_number3 (fACons (fVar 6) (fACons (fVar 7) fANil))) [6, 7]))) (fRet (fC (.bool false))) (.nx)) (.nx))
      (fIfS (fAnd (fTst (fOp gEq (fOp gMod (fOp gAdd (fVar 4) (fVar 5)) (fC (.int 3))) (fC (.int 2)))) (fTst (fOp gNe (fMeth r_k_Rdeeds (fVar 0) fANil) (fVar 3)))) (fRet (fC (.bool false))) (.nx)))))
    (fRet (fC (.bool true))))
def r_l_stands : List D → R := run 5 8 F_l_stands
def F_l_goals : List Sl → Fl := (fSeq (fSetO 4 (fLst fANil))
    (fSeq (fFor (fRg enumD (fACons (fVar 2) fANil)) (setT [5, 6]) (fSeq (fSet 7 (fCall r_l_mixed (fACons (fVar 0) (fACons (fOp gAdd (fVar 1) (fVar 5)) fANil))))
      (fSeq (fSet 8 (fCall gMin2 (fACons (fOp gSub (fCall r_l_product (fACons (fVar 6) fANil)) (fC (.int 1))) (fACons (fCall gMax2 (fACons (fC (.int 0)) (fACons (fOp gSub (fOp gAdd (fCall r_l_number3 (fACons (fVar 6) (fACons (fOp gIx (fVar 3) (fVar 5)) fANil))) (fOp gMod (fOp gFdiv (fVar 7) (fC (.int 8))) (fC (.int 25)))) (fC (.int 12))) fANil))) fANil))))
      (fSeq (fIfS (fTst (fOp gLt (fOp gMod (fVar 7) (fC (.int 8))) (fC (.int 2)))) (fSet 8 (fCall r_l_number3 (fACons (fVar 6) (fACons (fOp gIx (fVar 3) (fVar 5)) fANil)))) (.nx))
      (fApp 4 (fCall r_c_row_at (fACons (fCall gList (fACons (fVar 6) fANil)) (fACons (fVar 8) fANil))))))))
    (fRetV 4)))
def r_l_goals : List D → R := run 4 9 F_l_goals
def F_n_read : List Sl → Fl := (fSeq (fIfS (fOr (fNot (fTst (fIsi "str" (fVar 0)))) (fNot (fTst (fChain gLe gLe (fC (.int 1)) (fCall gLen (fACons (fVar 0) fANil)) (fC (.int 40)))))) (fun δ => .exc (Str.ofString "NoNote") δ) (.nx))
    (fSeq (fSetO 1 (fLst fANil))
    (fSeq (fFor (fSeqI (fVar 0)) (setN 2) (fSeq (fIfS (fTst (fOp (gIn true) (fVar 2) (fTup (fACons (fC (.str (Str.ofString "."))) (fACons (fC (.str (Str.ofString "o"))) fANil))))) (fun δ => .exc (Str.ofString "NoNote") δ) (.nx))
      (fApp 1 (fCall gInt (fACons (fOp gEq (fVar 2) (fC (.str (Str.ofString "o")))) fANil)))))
    (fRetB (fCall gTuple (fACons (fVar 1) fANil))))))
def r_n_read : List D → R := run 1 3 F_n_read
def F_n_read_row2 : List Sl → Fl := (fSeq (fDrop (fCall r_c_need_counts (fACons (fVar 0) fANil)))
    (fSeq (fIfS (fOr (fNot (fTst (fIsi "str" (fVar 1)))) (fTst (fOp gNe (fCall gLen (fACons (fVar 1) fANil)) (fCall gLen (fACons (fVar 0) fANil))))) (fun δ => .exc (Str.ofString "NoNote") δ) (.nx))
    (fSeq (fSetO 2 (fLst fANil))
    (fSeq (fFor (fRg zipS (fACons (fVar 1) (fACons (fVar 0) fANil))) (setT [3, 4]) (fSeq (fIfS (fTst (fOp (gIn true) (fVar 3) (fSl (fC (.str (Str.ofString "012345678"))) (fun _ => .ok none) (fPart (fVar 4))))) (fun δ => .exc (Str.ofString "NoNote") δ) (.nx))
      (fApp 2 (fCall gInt (fACons (fVar 3) fANil)))))
    (fRetB (fCall gTuple (fACons (fVar 2) fANil)))))))
def r_n_read_row2 : List D → R := run 2 5 F_n_read_row2
def F_l_bent : List Sl → Fl := (fSeq (fSet 2 (fOp gMod (fOp gFdiv (fVar 1) (fC (.int 3))) (fOp gAdd (fCall gLen (fACons (fVar 0) fANil)) (fC (.int 1)))))
    (fSeq (fSet 3 (fOp gIx (fC (.str (Str.ofString "o.O0123456789 ,-:#xaz()[]+*\n\t"))) (fOp gMod (fOp gFdiv (fVar 1) (fC (.int 123))) (fC (.int 29)))))
    (fSeq (fIfS (fTst (fOp gEq (fOp gMod (fVar 1) (fC (.int 3))) (fC (.int 0)))) (fRet (fOp gAdd (fOp gAdd (fSl (fVar 0) (fun _ => .ok none) (fPart (fVar 2))) (fVar 3)) (fSl (fVar 0) (fPart (fVar 2)) (fun _ => .ok none)))) (.nx))
    (fSeq (fIfS (fTst (fOp gEq (fOp gMod (fVar 1) (fC (.int 3))) (fC (.int 1)))) (fRet (fOp gAdd (fSl (fVar 0) (fun _ => .ok none) (fPart (fVar 2))) (fSl (fVar 0) (fPart (fOp gAdd (fVar 2) (fC (.int 1)))) (fun _ => .ok none)))) (.nx))
    (fRet (fOp gAdd (fOp gAdd (fSl (fVar 0) (fun _ => .ok none) (fPart (fVar 2))) (fVar 3)) (fSl (fVar 0) (fPart (fOp gAdd (fVar 2) (fC (.int 1)))) (fun _ => .ok none))))))))
def r_l_bent : List D → R := run 2 4 F_l_bent
def F_l_read : List Sl → Fl := (fTry 1 ["NoNote"] (fRet (fTup (fACons (fCall r_n_read (fACons (fVar 0) fANil)) fANil))) fun c => .rn (word c))
def r_l_read : List D → R := run 1 2 F_l_read
def F_l_read_row2 : List Sl → Fl := (fTry 2 ["NoNote"] (fRet (fTup (fACons (fCall r_n_read_row2 (fACons (fVar 0) (fACons (fVar 1) fANil))) fANil))) fun c => .rn (word c))
def r_l_read_row2 : List D → R := run 2 3 F_l_read_row2
def F_l_due3 : List Sl → Fl := (fSeq (fIfS (fOr (fNot (fTst (fChain gLe gLe (fC (.int 1)) (fCall gLen (fACons (fVar 0) fANil)) (fC (.int 40))))) (fTst (fOp gNe (fLc (fSeqI (fVar 0)) (setN 1) (fAnd (fTst (fOp gNe (fVar 1) (fC (.str (Str.ofString "o"))))) (fTst (fOp gNe (fVar 1) (fC (.str (Str.ofString ".")))))) (fVar 1) [1]) (fLst fANil)))) (fRet (fLst (fACons (fC (.str (Str.ofString "note"))) fANil))) (.nx))
    (fRet (fTup (fACons (fCall gTuple (fACons (fLc (fSeqI (fVar 0)) (setN 1) (fC (.bool true)) (fCall gInt (fACons (fOp gEq (fVar 1) (fC (.str (Str.ofString "o")))) fANil)) [1]) fANil)) fANil))))
def r_l_due3 : List D → R := run 1 2 F_l_due3
def F_l_due_row2 : List Sl → Fl := (fSeq (fSetO 2 (fLst fANil))
    (fSeq (fIfS (fTst (fOp gNe (fCall gLen (fACons (fVar 1) fANil)) (fCall gLen (fACons (fVar 0) fANil)))) (fRet (fLst (fACons (fC (.str (Str.ofString "note"))) fANil))) (.nx))
    (fSeq (fFor (fRg zipS (fACons (fVar 1) (fACons (fVar 0) fANil))) (setT [3, 4]) (fSeq (fIfS (fOr (fTst (fOp (gIn true) (fVar 3) (fC (.str (Str.ofString "0123456789"))))) (fTst (fOp gGe (fCall gInt (fACons (fVar 3) fANil)) (fVar 4)))) (fRet (fLst (fACons (fC (.str (Str.ofString "note"))) fANil))) (.nx))
      (fApp 2 (fCall gInt (fACons (fVar 3) fANil)))))
    (fRetB (fTup (fACons (fCall gTuple (fACons (fVar 2) fANil)) fANil))))))
def r_l_due_row2 : List D → R := run 2 5 F_l_due_row2
def F_l_wholes : List Sl → Fl := (fRet (fAnd (fIsi "tuple" (fVar 0)) (fOp gEq (fLc (fSeqI (fVar 0)) (setN 1) (fNot (fTst (fCall r_l_whole (fACons (fVar 1) fANil)))) (fVar 1) [1]) (fLst fANil))))
def r_l_wholes : List D → R := run 1 2 F_l_wholes
def F_law_k153 : List Sl → Fl := (fSeq (fSet 1 (fOp gAdd (fC (.int 1)) (fOp gMod (fCall r_l_mixed (fACons (fVar 0) (fACons (fC (.int 0)) fANil))) (fC (.int 40)))))
    (fSeq (fSet 2 (fCall r_l_setting (fACons (fVar 0) (fACons (fC (.int 1)) (fACons (fVar 1) fANil)))))
    (fSeq (fSet 3 (fCall r_l_counts (fACons (fVar 0) (fACons (fC (.int 4)) (fACons (fC (.int 12)) fANil)))))
    (fSeq (fSet 4 (fCall r_l_row (fACons (fVar 0) (fACons (fC (.int 8)) (fACons (fVar 3) fANil)))))
    (fSeq (fSet 6 (fJoin (fC (.str (Str.ofString ""))) (fLc (fSeqI (fVar 2)) (setN 5) (fC (.bool true)) (fOp gIx (fC (.str (Str.ofString ".o"))) (fVar 5)) [5])))
    (fSeq (fIfS (fOr (fNot (fTst (fIsi "str" (fCall r_n_shown2 (fACons (fVar 2) fANil))))) (fTst (fOp gNe (fCall r_n_shown2 (fACons (fVar 2) fANil)) (fVar 6)))) (fRet (fC (.bool false))) (.nx))
    (fSeq (fSet 7 (fJoin (fC (.str (Str.ofString ""))) (fLc (fSeqI (fVar 4)) (setN 12) (fC (.bool true)) (fOp gIx (fC (.str (Str.ofString "0123456789"))) (fVar 12)) [12])))
    (fSeq (fIfS (fOr (fNot (fTst (fIsi "str" (fCall r_n_shown_row2 (fACons (fVar 3) (fACons (fVar 4) fANil)))))) (fTst (fOp gNe (fCall r_n_shown_row2 (fACons (fVar 3) (fACons (fVar 4) fANil))) (fVar 7)))) (fRet (fC (.bool false))) (.nx))
    (fSeq (fFor (fRg rg1 (fACons (fC (.int 3)) fANil)) (setN 8) (fSeq (fSet 9 (fCall r_l_mixed (fACons (fVar 0) (fACons (fOp gAdd (fC (.int 14)) (fVar 8)) fANil))))
      (fSeq (fFor (fSeqI (fLst (fACons (fVar 6) (fACons (fCall r_l_bent (fACons (fVar 6) (fACons (fVar 9) fANil))) (fACons (fOp gAdd (fVar 6) (fOp gMul (fC (.str (Str.ofString "."))) (fC (.int 40)))) fANil))))) (setN 5) (fSeq (fSet 10 (fCall r_l_read (fACons (fVar 5) fANil)))
        (fIfS (fOr (fTst (fOp gNe (fVar 10) (fCall r_l_due3 (fACons (fVar 5) fANil)))) (fAnd (fTst (fIsi "tuple" (fVar 10))) (fNot (fTst (fCall r_l_wholes (fACons (fOp gIx (fVar 10) (fC (.int 0))) fANil)))))) (fRet (fC (.bool false))) (.nx))))
      (fFor (fSeqI (fLst (fACons (fVar 7) (fACons (fCall r_l_bent (fACons (fVar 7) (fACons (fVar 9) fANil))) fANil)))) (setN 5) (fSeq (fSet 10 (fCall r_l_read_row2 (fACons (fVar 3) (fACons (fVar 5) fANil))))
        (fIfS (fOr (fTst (fOp gNe (fVar 10) (fCall r_l_due_row2 (fACons (fVar 3) (fACons (fVar 5) fANil))))) (fAnd (fTst (fIsi "tuple" (fVar 10))) (fNot (fTst (fCall r_l_wholes (fACons (fOp gIx (fVar 10) (fC (.int 0))) fANil)))))) (fRet (fC (.bool false))) (.nx)))))))
    (fSeq (fFor (fSeqI (fLst (fACons (fC .none) (fACons (fC (.int 0)) (fACons (fCall gListS (fACons (fVar 6) fANil)) (fACons (fCall gListS (fACons (fVar 7) fANil)) (fACons (fVar 2) (fACons (fVar 4) (fACons (fC (.bool true)) (fACons (fC (.str (Str.ofString ""))) fANil)))))))))) (setN 11) (fIfS (fOr (fTst (fOp gNe (fCall r_l_read (fACons (fVar 11) fANil)) (fLst (fACons (fC (.str (Str.ofString "note"))) fANil)))) (fTst (fOp gNe (fCall r_l_read_row2 (fACons (fVar 3) (fACons (fVar 11) fANil))) (fLst (fACons (fC (.str (Str.ofString "note"))) fANil))))) (fRet (fC (.bool false))) (.nx)))
    (fRet (fC (.bool true)))))))))))))
def r_law_k153 : List D → R := run 1 13 F_law_k153
def F_k_Ris_deed2 : List Sl → Fl := (fDrop (fCall r_x_wall (fACons (fC (.int 0)) fANil)))
def r_k_Ris_deed2 : List D → R := run 2 2 F_k_Ris_deed2
def F_k_Rdo : List Sl → Fl := (fDrop (fCall r_x_wall (fACons (fC (.int 1)) fANil)))
def r_k_Rdo : List D → R := run 2 2 F_k_Rdo
def F_k_Rway_to3 : List Sl → Fl := (fSeq (fIfS (fOr (fNot (fTst (fIsi "list" (fVar 1)))) (fTst (fOp gNe (fCall gLen (fACons (fVar 1) fANil)) (fCall gLen (fACons (fFld 0 (fVar 0)) fANil))))) (fun δ => .exc (Str.ofString "BadRow") δ) (.nx))
    (fSeq (fFor (fRg zipD (fACons (fFld 0 (fVar 0)) (fACons (fVar 1) fANil))) (setT [3, 4]) (fIfS (fNot (fTst (fCall r_c_is_row (fACons (fVar 3) (fACons (fVar 4) fANil))))) (fun δ => .exc (Str.ofString "BadRow") δ) (.nx)))
    (fSeq (fDrop (fCall r_b_need_most (fACons (fVar 2) fANil)))
    (fun _ => .bad))))
def r_k_Rway_to3 : List D → R := run 3 8 F_k_Rway_to3
def F_l_spoilt_counts : List Sl → Fl := (fSeq (fSet 2 (fOp gMod (fOp gFdiv (fVar 1) (fC (.int 14))) (fCall gLen (fACons (fVar 0) fANil))))
    (fSeq (fSet 3 (fLst (fACons (fC (.int 1)) (fACons (fC (.int 10)) (fACons (fNeg (fC (.int 1))) (fACons (fC (.bool true)) (fACons (fC (.str (Str.ofString "2"))) (fACons (fC .none) (fACons (fLst (fACons (fC (.int 2)) fANil)) fANil)))))))))
    (fSeq (fSet 4 (fLst (fACons (fCall gTuple (fACons (fVar 0) fANil)) (fACons (fC (.str (Str.ofString "22"))) (fACons (fC .none) (fACons (fC (.int 2)) (fACons (fC (.dict [])) (fACons (fLst fANil) (fACons (fOp gAdd (fVar 0) (fOp gMul (fLst (fACons (fC (.int 2)) fANil)) (fOp gSub (fC (.int 13)) (fCall gLen (fACons (fVar 0) fANil))))) fANil)))))))))
    (fSeq (fIfS (fTst (fOp gLt (fOp gMod (fVar 1) (fC (.int 14))) (fC (.int 7)))) (fRet (fOp gIx (fVar 4) (fOp gMod (fVar 1) (fC (.int 14))))) (.nx))
    (fRet (fOp gAdd (fOp gAdd (fSl (fVar 0) (fun _ => .ok none) (fPart (fVar 2))) (fLst (fACons (fOp gIx (fVar 3) (fOp gSub (fOp gMod (fVar 1) (fC (.int 14))) (fC (.int 7)))) fANil))) (fSl (fVar 0) (fPart (fOp gAdd (fVar 2) (fC (.int 1)))) (fun _ => .ok none))))))))
def r_l_spoilt_counts : List D → R := run 2 5 F_l_spoilt_counts
def F_l_spoilt_row : List Sl → Fl := (fSeq (fSet 3 (fOp gMod (fOp gFdiv (fVar 2) (fC (.int 11))) (fCall gLen (fACons (fVar 1) fANil))))
    (fSeq (fSet 4 (fLst (fACons (fOp gIx (fVar 0) (fVar 3)) (fACons (fNeg (fC (.int 1))) (fACons (fC (.bool true)) (fACons (fC (.bool false)) (fACons (fC (.str (Str.ofString "0"))) (fACons (fC .none) fANil))))))))
    (fSeq (fSet 5 (fLst (fACons (fCall gList (fACons (fVar 1) fANil)) (fACons (fOp gAdd (fVar 1) (fTup (fACons (fC (.int 0)) fANil))) (fACons (fSl (fVar 1) (fun _ => .ok none) (fPart (fNeg (fC (.int 1))))) (fACons (fC (.str (Str.ofString "0"))) (fACons (fC .none) fANil)))))))
    (fSeq (fIfS (fTst (fOp gLt (fOp gMod (fVar 2) (fC (.int 11))) (fC (.int 5)))) (fRet (fOp gIx (fVar 5) (fOp gMod (fVar 2) (fC (.int 11))))) (.nx))
    (fRet (fOp gAdd (fOp gAdd (fSl (fVar 1) (fun _ => .ok none) (fPart (fVar 3))) (fTup (fACons (fOp gIx (fVar 4) (fOp gSub (fOp gMod (fVar 2) (fC (.int 11))) (fC (.int 5)))) fANil))) (fSl (fVar 1) (fPart (fOp gAdd (fVar 3) (fC (.int 1)))) (fun _ => .ok none))))))))
def r_l_spoilt_row : List D → R := run 3 6 F_l_spoilt_row
def F_l_asked6 : List Sl → Fl := (fSeq (fIfS (fTst (fOp gLt (fVar 0) (fC (.int 4)))) (fRet (fCall3 r_c_need_counts r_c_many r_c_rows (fOp gMod (fVar 0) (fC (.int 3))) (fACons (fVar 1) fANil))) (.nx))
    (fSeq (fIfS (fTst (fOp gEq (fVar 0) (fC (.int 4)))) (fRet (fCall r_c_row_at (fACons (fVar 1) (fACons (fNeg (fC (.int 1))) fANil)))) (.nx))
    (fSeq (fIfS (fTst (fOp gEq (fVar 0) (fC (.int 5)))) (fRet (fCall r_n_read_row2 (fACons (fVar 1) (fACons (fC (.int 5)) fANil)))) (.nx))
    (fSeq (fIfS (fTst (fOp gEq (fVar 0) (fC (.int 6)))) (fRet (fCall r_c_need_row (fACons (fVar 1) (fACons (fVar 2) fANil)))) (.nx))
    (fSeq (fIfS (fTst (fOp gEq (fVar 0) (fC (.int 7)))) (fRet (fCall r_c_number_in (fACons (fVar 1) (fACons (fVar 2) fANil)))) (.nx))
    (fSeq (fIfS (fTst (fOp gEq (fVar 0) (fC (.int 8)))) (fRet (fCall r_c_moves2 (fACons (fVar 1) (fACons (fVar 2) fANil)))) (.nx))
    (fSeq (fIfS (fTst (fOp gEq (fVar 0) (fC (.int 9)))) (fRet (fCall r_c_moved2 (fACons (fVar 1) (fACons (fVar 2) (fACons (fC .none) fANil))))) (.nx))
    (fSeq (fIfS (fTst (fOp gEq (fVar 0) (fC (.int 10)))) (fRet (fCall r_n_shown_row2 (fACons (fVar 1) (fACons (fVar 2) fANil)))) (.nx))
    (fRet (fCall r_c_way_in (fACons (fVar 1) (fACons (fVar 2) (fACons (fC .none) (fACons (fNeg (fC (.int 1))) fANil))))))))))))))
def r_l_asked6 : List D → R := run 3 3 F_l_asked6
def F_l_told5 : List Sl → Fl := (fSeq (fTry 3 ["BadChest", "BadRow", "BadNumber"] (fDrop (fCall r_l_asked6 (fACons (fVar 0) (fACons (fVar 1) (fACons (fVar 2) fANil))))) fun c => .rn (word c))
    (fRet (fLst fANil)))
def r_l_told5 : List D → R := run 3 4 F_l_told5
def F_l_numbered : List Sl → Fl := (fSeq (fTry 4 ["BadChest", "BadRow", "BadNumber"] (fIfS (fTst (fOp gEq (fVar 2) (fC (.int 0)))) (fDrop (fCall r_c_row_at (fACons (fVar 0) (fACons (fVar 3) fANil)))) (fIfS (fTst (fOp gEq (fVar 2) (fC (.int 1)))) (fDrop (fCall r_c_way_in (fACons (fVar 0) (fACons (fVar 1) (fACons (fVar 1) (fACons (fVar 3) fANil)))))) (fIfS (fTst (fOp gEq (fVar 2) (fC (.int 2)))) (fDrop (fCall r_c_way_in (fACons (fVar 0) (fACons (fVar 1) (fACons (fVar 3) (fACons (fNeg (fC (.int 1))) fANil)))))) (fDrop (fMeth r_k_Rway_to3 (fCall r_k_Rinit (fACons (fLst (fACons (fCall gList (fACons (fVar 0) fANil)) fANil)) fANil)) (fACons (fLst (fACons (fVar 1) fANil)) (fACons (fVar 3) fANil))))))) fun c => .rn (word c))
    (fRet (fLst fANil)))
def r_l_numbered : List D → R := run 4 5 F_l_numbered
def F_l_made2 : List Sl → Fl := (fSeq (fTry 1 ["BadChest", "BadRow", "BadNumber"] (fDrop (fCall r_k_Rinit (fACons (fVar 0) fANil))) fun c => .rn (word c))
    (fRet (fLst fANil)))
def r_l_made2 : List D → R := run 1 2 F_l_made2
def F_l_to : List Sl → Fl := (fSeq (fTry 2 ["BadChest", "BadRow", "BadNumber"] (fDrop (fMeth r_k_Rway_to3 (fVar 0) (fACons (fVar 1) (fACons (fNeg (fC (.int 1))) fANil)))) fun c => .rn (word c))
    (fRet (fLst fANil)))
def r_l_to : List D → R := run 2 3 F_l_to
def F_law_k16 : List Sl → Fl := (fSeq (fSet 1 (fCall r_l_counts (fACons (fVar 0) (fACons (fC (.int 0)) (fACons (fC (.int 12)) fANil)))))
    (fSeq (fSet 2 (fCall r_l_row (fACons (fVar 0) (fACons (fC (.int 5)) (fACons (fVar 1) fANil)))))
    (fSeq (fSet 3 (fCall r_l_spoilt_counts (fACons (fVar 1) (fACons (fCall r_l_mixed (fACons (fVar 0) (fACons (fC (.int 12)) fANil))) fANil))))
    (fSeq (fSet 4 (fCall r_l_spoilt_row (fACons (fVar 1) (fACons (fVar 2) (fACons (fCall r_l_mixed (fACons (fVar 0) (fACons (fC (.int 13)) fANil))) fANil)))))
    (fSeq (fSet 5 (fCall r_l_mixed (fACons (fVar 0) (fACons (fC (.int 14)) fANil))))
    (fSeq (fIfS (fOr (fTst (fOp (gIs true) (fCall r_c_need_counts (fACons (fVar 1) fANil)) (fC .none))) (fTst (fOp (gIs true) (fCall r_c_need_row (fACons (fVar 1) (fACons (fVar 2) fANil))) (fC .none)))) (fRet (fC (.bool false))) (.nx))
    (fSeq (fIfS (fOr (fTst (fOp gNe (fCall r_l_told5 (fACons (fOp gMod (fVar 5) (fC (.int 12))) (fACons (fVar 3) (fACons (fC .none) fANil)))) (fLst (fACons (fC (.str (Str.ofString "chest"))) fANil)))) (fTst (fOp gNe (fCall r_l_told5 (fACons (fOp gAdd (fC (.int 6)) (fOp gMod (fVar 5) (fC (.int 6)))) (fACons (fVar 1) (fACons (fVar 4) fANil)))) (fLst (fACons (fC (.str (Str.ofString "row"))) fANil))))) (fRet (fC (.bool false))) (.nx))
    (fSeq (fIfS (fTst (fOp gNe (fCall r_l_numbered (fACons (fVar 1) (fACons (fVar 2) (fACons (fC (.int 2)) (fACons (fVar 4) fANil))))) (fLst (fACons (fC (.str (Str.ofString "row"))) fANil)))) (fRet (fC (.bool false))) (.nx))
    (fSeq (fFor (fSeqI (fLst (fACons (fNeg (fC (.int 1))) (fACons (fC (.bool true)) (fACons (fC (.str (Str.ofString "0"))) (fACons (fC .none) (fACons (fTup (fACons (fC (.int 0)) fANil)) (fACons (fOp gPow (fC (.int 10)) (fC (.int 30))) fANil)))))))) (setN 6) (fIfS (fTst (fOp gNe (fLc (fSeqI (fTup (fACons (fC (.int 0)) (fACons (fC (.int 1)) (fACons (fC (.int 3)) fANil))))) (setN 10) (fC (.bool true)) (fCall r_l_numbered (fACons (fVar 1) (fACons (fVar 2) (fACons (fVar 10) (fACons (fVar 6) fANil))))) [10]) (fOp gMul (fLst (fACons (fLst (fACons (fC (.str (Str.ofString "number"))) fANil)) fANil)) (fC (.int 3))))) (fRet (fC (.bool false))) (.nx)))
    (fSeq (fIfS (fTst (fOp gNe (fCall r_l_numbered (fACons (fVar 1) (fACons (fVar 2) (fACons (fC (.int 0)) (fACons (fCall r_l_product (fACons (fVar 1) fANil)) fANil))))) (fLst (fACons (fC (.str (Str.ofString "number"))) fANil)))) (fRet (fC (.bool false))) (.nx))
    (fSeq (fIfS (fTst (fOp gNe (fLc (fSeqI (fTup (fACons (fC (.int 1)) (fACons (fC (.int 3)) fANil)))) (setN 10) (fC (.bool true)) (fCall r_l_numbered (fACons (fVar 1) (fACons (fVar 2) (fACons (fVar 10) (fACons (fC (.int 1001)) fANil))))) [10]) (fOp gMul (fLst (fACons (fLst (fACons (fC (.str (Str.ofString "number"))) fANil)) fANil)) (fC (.int 2))))) (fRet (fC (.bool false))) (.nx))
    (fSeq (fSet 7 (fLst (fACons (fCall gList (fACons (fVar 1) fANil)) (fACons (fLst (fACons (fC (.int 2)) (fACons (fC (.int 3)) fANil))) fANil))))
    (fSeq (fSet 8 (fLst (fACons (fCall gTuple (fACons (fVar 7) fANil)) (fACons (fC .none) (fACons (fLst fANil) (fACons (fOp gMul (fVar 7) (fC (.int 3))) (fACons (fOp gAdd (fVar 7) (fLst (fACons (fVar 3) fANil))) (fACons (fOp gAdd (fLst (fACons (fVar 3) fANil)) (fVar 7)) (fACons (fVar 1) (fACons (fC (.str (Str.ofString "22"))) fANil))))))))))
    (fSeq (fIfS (fTst (fOp gNe (fCall r_l_made2 (fACons (fOp gIx (fVar 8) (fOp gMod (fOp gFdiv (fVar 5) (fC (.int 12))) (fC (.int 8)))) fANil)) (fLst (fACons (fC (.str (Str.ofString "chest"))) fANil)))) (fRet (fC (.bool false))) (.nx))
    (fSeq (fSet 9 (fCall r_k_Rinit (fACons (fLst (fACons (fCall gList (fACons (fVar 1) fANil)) (fACons (fLst (fACons (fC (.int 2)) (fACons (fC (.int 3)) fANil))) fANil))) fANil)))
    (fSeq (fSet 8 (fLst (fACons (fLst (fACons (fVar 2) fANil)) (fACons (fLst (fACons (fVar 2) (fACons (fTup (fACons (fC (.int 0)) (fACons (fC (.int 0)) fANil))) (fACons (fTup (fACons (fC (.int 0)) (fACons (fC (.int 0)) fANil))) fANil)))) (fACons (fTup (fACons (fVar 2) (fACons (fTup (fACons (fC (.int 0)) (fACons (fC (.int 0)) fANil))) fANil))) (fACons (fC .none) (fACons (fLst (fACons (fVar 4) (fACons (fTup (fACons (fC (.int 0)) (fACons (fC (.int 0)) fANil))) fANil))) (fACons (fLst (fACons (fVar 2) (fACons (fTup (fACons (fC (.int 0)) (fACons (fC (.int 3)) fANil))) fANil))) (fACons (fLst (fACons (fVar 2) (fACons (fLst (fACons (fC (.int 0)) (fACons (fC (.int 0)) fANil))) fANil))) fANil)))))))))
    (fSeq (fIfS (fTst (fOp gNe (fCall r_l_to (fACons (fVar 9) (fACons (fOp gIx (fVar 8) (fOp gMod (fOp gFdiv (fVar 5) (fC (.int 96))) (fC (.int 7)))) fANil))) (fLst (fACons (fC (.str (Str.ofString "row"))) fANil)))) (fRet (fC (.bool false))) (.nx))
    (fRet (fAnd (fOp gEq (fMeth r_k_Rrows (fVar 9) fANil) (fLst (fACons (fOp gMul (fTup (fACons (fC (.int 0)) fANil)) (fCall gLen (fACons (fVar 1) fANil))) (fACons (fTup (fACons (fC (.int 0)) (fACons (fC (.int 0)) fANil))) fANil)))) (fOp gEq (fMeth r_k_Rdeeds (fVar 9) fANil) (fLst fANil)))))))))))))))))))))
def r_law_k16 : List D → R := run 1 11 F_law_k16
end
end DM
set_option Elab.async false
set_option linter.all false
set_option maxRecDepth 100000
set_option maxHeartbeats 4000000
/-! the word of a refusal -/
namespace DM
open PySem DL
theorem fIsX_at {a : Addr} {b : Bool} {δ : List Sl} : fIsX a b 0 (.ob a :: δ) = .ok (.bool b) := by
  unfold fIsX
  exact if_pos rfl
@[simp] theorem fVar_sob {a : Addr} {n : Nat} {δ : List Sl} : fVar (n + 1) (.ob a :: δ) = fVar n δ := rfl
theorem lc_pairs (s0 s1 s2 : Sl) : ∀ l : List (Bool × D), lcGo (lcStep (setT [3, 4]) (fTst (fVar 4)) (fVar 3) [s0, s1, s2, .un, .un]) (l.map fun p => prD p.2 (.bool p.1)) = some (l.filterMap fun p => if p.1 = true then some p.2 else none)
  | [] => rfl
  | (b, d) :: l => by
    have ih := lc_pairs s0 s1 s2 l
    rw [List.map_cons]
    unfold lcGo
    have e : lcStep (setT [3, 4]) (fTst (fVar 4)) (fVar 3) [s0, s1, s2, .un, .un] (prD d (.bool b)) = if b = true then some (some d) else some none := by cases b <;> rfl
    rw [e, ih]
    cases b <;> rfl
theorem mul_nil : gMul (.list [.str (Str.ofString "no value error")]) (.int 0) = .new [] := by
  show (if (0 : Int) ≤ 0 ∧ (0 : Int) ≤ 1000 ∧ [PyData.str (Str.ofString "no value error")].length ≤ 60 then R.new (List.replicate (0 : Int).toNat [PyData.str (Str.ofString "no value error")]).flatten else .bad) = _
  rw [if_pos ⟨by decide, by decide, by simp⟩]
  rfl
theorem word_gen (a : Addr) (c : Str) (b1 b2 b3 b4 b5 b6 b7 b8 : Bool) (h1 : (c == "BadBar") = b1) (h2 : (c == "BadSetting") = b2) (h3 : (c == "BadChest") = b3) (h4 : (c == "BadRow") = b4) (h5 : (c == "BadNumber") = b5) (h6 : (c == "NoMove") = b6) (h7 : (c == "TooMany") = b7) (h8 : (c == "NoNote") = b8) :
    (F_l_word a c (slotsX a 5)).toR = .new ((List.zip [b1, b2, b3, b4, b5, b6, b7, b8] [PyData.str "bar", .str "setting", .str "chest", .str "row", .str "number", .str "move", .str "many", .str "note"]).filterMap fun p => if p.1 = true then some p.2 else none) := by
  unfold F_l_word slotsX
  simp only [h1, h2, h3, h4, h5, h6, h7, h8, fSeq_ap, fSet_ap, fLst_ap, fACons_ap, fANil_ap, fIsX_at, consTo_ok, to_ok]
  simp -implicitDefEqProofs only [List.length_cons, List.length_nil, LIMn (show 4 ≤ 100000 by omega), if_true, List.replicate, sto_new, then_nx, List.set_cons_zero, List.set_cons_succ, fOp_ap, fVar_s, fVar_z, fVar_sob, fIsX_at, fACons_ap, fANil_ap, fLst_ap, consTo_ok, to_ok, bind_ok, bind_new]
  simp -implicitDefEqProofs only [List.length_cons, List.length_nil, LIMn (show 4 ≤ 100000 by omega), LIMn (show 8 ≤ 100000 by omega), if_true, cat_l (show [PyData.bool b1, .bool b2, .bool b3, .bool b4].length + [PyData.bool b5, .bool b6, .bool b7, .bool b8].length ≤ 100000 by simp), List.cons_append, List.nil_append,
    sto_new, then_nx, List.set_cons_zero, List.set_cons_succ, fSeq_ap, fSet_ap, fC_ap, fRet_ap, fOp_ap, fCall_ap, fNot_ap, fLc_ap, fRg_ap, fVar_s, fVar_z, fVar_sob, fIsX_at, fACons_ap, fANil_ap, fLst_ap, consTo_ok, to_ok, bind_ok, bind_new, cnd_t1, LIM1]
  generalize hN : [PyData.str (Str.ofString "bar"), .str (Str.ofString "setting"), .str (Str.ofString "chest"), .str (Str.ofString "row"), .str (Str.ofString "number"), .str (Str.ofString "move"), .str (Str.ofString "many"), .str (Str.ofString "note")] = NN
  generalize hB : [b1, b2, b3, b4, b5, b6, b7, b8] = BB
  have eB : [PyData.bool b1, .bool b2, .bool b3, .bool b4, .bool b5, .bool b6, .bool b7, .bool b8] = BB.map .bool := by subst hB; rfl
  rw [eB]
  have ez : zipLL [.list NN, .list (BB.map .bool)] = .ok ((List.zip BB NN).map fun p => prD p.2 (.bool p.1)) := by subst hN hB; rfl
  have hl : (List.zip BB NN).length ≤ 8 := by subst hN hB; exact Nat.le_refl _
  rw [if_pos (LIMn (show 0 + 1 ≤ 100000 by omega)), bind_new, show gInt [.bool false] = .ok (.int 0) from rfl, bind_ok, show gMul (.list [.str (Str.ofString "no value error")]) (.int 0) = .new [] from mul_nil, bind_new, ez]
  have e := lc_pairs (.ob a) (.v (.list (BB.map .bool))) (.v (.list NN)) (List.zip BB NN)
  have fl : ((List.zip BB NN).filterMap fun p => if p.1 = true then some p.2 else none).length ≤ 8 := Nat.le_trans (List.length_filterMap_le _ _) hl
  generalize ((List.zip BB NN).filterMap fun p => if p.1 = true then some p.2 else none) = RR at e fl ⊢
  generalize hL : ((List.zip BB NN).map fun p => prD p.2 (.bool p.1)) = LL at e ⊢
  have hll : LL.length ≤ 8 := by rw [← hL, List.length_map]; exact hl
  show (R.bind (match lcGo (lcStep (setT [3, 4]) (fTst (fVar 4)) (fVar 3) [.ob a, .v (.list (BB.map .bool)), .v (.list NN), .un, .un]) LL with
    | some r => if LL.length ≤ LIM then R.new r else R.bad
    | none => R.bad) _ |>.ret _).toR = _
  rw [e]
  show (R.bind (if LL.length ≤ LIM then R.new RR else R.bad) _ |>.ret _).toR = _
  rw [if_pos (LIMn (by omega)), bind_new, cat_l (by simp; omega), List.nil_append, ret_new, toR_rn]
theorem word_at (a : Addr) (c : Str) (h : c ∈ eight) : (F_l_word a c (slotsX a 5)).toR = .new (word c) := by
  revert c
  refine all8 ?_ ?_ ?_ ?_ ?_ ?_ ?_ ?_
  · exact word_gen a _ true false false false false false false false (by decide +kernel) (by decide +kernel) (by decide +kernel) (by decide +kernel) (by decide +kernel) (by decide +kernel) (by decide +kernel) (by decide +kernel)
  · exact word_gen a _ false true false false false false false false (by decide +kernel) (by decide +kernel) (by decide +kernel) (by decide +kernel) (by decide +kernel) (by decide +kernel) (by decide +kernel) (by decide +kernel)
  · exact word_gen a _ false false true false false false false false (by decide +kernel) (by decide +kernel) (by decide +kernel) (by decide +kernel) (by decide +kernel) (by decide +kernel) (by decide +kernel) (by decide +kernel)
  · exact word_gen a _ false false false true false false false false (by decide +kernel) (by decide +kernel) (by decide +kernel) (by decide +kernel) (by decide +kernel) (by decide +kernel) (by decide +kernel) (by decide +kernel)
  · exact word_gen a _ false false false false true false false false (by decide +kernel) (by decide +kernel) (by decide +kernel) (by decide +kernel) (by decide +kernel) (by decide +kernel) (by decide +kernel) (by decide +kernel)
  · exact word_gen a _ false false false false false true false false (by decide +kernel) (by decide +kernel) (by decide +kernel) (by decide +kernel) (by decide +kernel) (by decide +kernel) (by decide +kernel) (by decide +kernel)
  · exact word_gen a _ false false false false false false true false (by decide +kernel) (by decide +kernel) (by decide +kernel) (by decide +kernel) (by decide +kernel) (by decide +kernel) (by decide +kernel) (by decide +kernel)
  · exact word_gen a _ false false false false false false false true (by decide +kernel) (by decide +kernel) (by decide +kernel) (by decide +kernel) (by decide +kernel) (by decide +kernel) (by decide +kernel) (by decide +kernel)
end DM
set_option Elab.async false
set_option linter.all false
set_option maxRecDepth 100000
set_option maxHeartbeats 1000000
/-! The plain side: bars. -/
namespace DM
open PySem DL
@[simp] theorem r_b_is_whole_eq (d : D) : r_b_is_whole [d] = .ok (.bool (isWhole d)) := by
  unfold r_b_is_whole F_b_is_whole DL.run
  simp [slots0, isWhole_eq]
@[simp] theorem r_l_whole_eq (d : D) : r_l_whole [d] = .ok (.bool (isWhole d)) := by
  unfold r_l_whole F_l_whole DL.run
  simp [slots0, isWhole_eq]
def among (d : D) (a b : Int) : Bool := match d with
  | .int i => decide (a ≤ i) && decide (i ≤ b)
  | _ => false
@[simp] theorem among_int {i a b : Int} : among (.int i) a b = (decide (a ≤ i) && decide (i ≤ b)) := rfl
@[simp] theorem r_b_is_among_eq (d : D) (a b : Int) : r_b_is_among [d, .int a, .int b] = .ok (.bool (among d a b)) := by
  unfold r_b_is_among F_b_is_among DL.run
  cases d <;> simp [slots0, isWhole, among]
@[simp] theorem r_l_cell_at_eq (ns : List Int) (k : Nat) : r_l_cell_at [scr ns, .int k] = .ok (.int (ns.getD k 0)) := by
  unfold r_l_cell_at F_l_cell_at DL.run
  by_cases h : k < ns.length
  · simp [slots0, h, gIx_scr h]
  · simp [slots0, h]
def mixed (ns : List Int) (k : Nat) : Int := (ns.getD k 0 + 7919 * (k : Int) + 1) * 48271 % 2147483647
theorem mixed_nn (ns : List Int) (k : Nat) : 0 ≤ mixed ns k ∧ mixed ns k < 2147483647 := by
  unfold mixed
  omega
theorem r_l_mixed_eq (ns : List Int) (k : Nat) : r_l_mixed [scr ns, .int k] = .ok (.int (mixed ns k)) := by
  unfold r_l_mixed F_l_mixed DL.run
  simp [slots0, mixed]
theorem twos_loop (n : Nat) : ∀ (m : Nat) (lo : Int) (s : Sl) (x : Int) (d : D), ∃ s', forGo (setN 2) (fSet 1 (fOp gMul (fVar 1) (fC (.int 2)))) (rgD lo 1 m) [.v d, .v (.int x), s] = .nx [.v d, .v (.int (x * 2 ^ m)), s'] := by
  intro m
  induction m with
  | zero => intro lo s x d; exact ⟨s, by simp [rgD_zero, forGo]⟩
  | succ m ih =>
    intro lo s x d
    obtain ⟨s', e⟩ := ih (lo + 1) (.v (.int lo)) (x * 2) d
    refine ⟨s', ?_⟩
    rw [rgD_succ]
    simp [forGo]
    rw [e, Int.pow_succ, Int.mul_assoc, Int.mul_comm 2]
theorem r_l_twos_eq (n : Nat) (h : n ≤ 1000) : r_l_twos [.int n] = .ok (.int (2 ^ n)) := by
  unfold r_l_twos F_l_twos DL.run
  obtain ⟨s', e⟩ := twos_loop 0 n 0 .un 1 (.int n)
  have hb : -BIG ≤ (n : Int) ∧ (n : Int) ≤ BIG := by unfold BIG; omega
  simp [slots0, rg1, hb, e]
theorem r_b_settings_of_eq (n : Nat) (h : n ≤ 1000) : r_b_settings_of [.int n] = .ok (.int (2 ^ n)) := by
  unfold r_b_settings_of F_b_settings_of DL.run
  obtain ⟨s', e⟩ := twos_loop 0 n 0 .un 1 (.int n)
  have hb : -BIG ≤ (n : Int) ∧ (n : Int) ≤ BIG := by unfold BIG; omega
  simp [slots0, rg1, hb, e]
/-! ### settings and their numbers -/
def Bits (ns : List Int) : Prop := ∀ x ∈ ns, x = 0 ∨ x = 1
def numBy : List Int → Int
  | [] => 0
  | x :: r => 2 * numBy r + (x + numBy r) % 2
def settingBy : Nat → Int → List Int
  | 0, _ => []
  | k + 1, n => (n + n / 2) % 2 :: settingBy k (n / 2)
theorem numBy_nn : ∀ ns, 0 ≤ numBy ns
  | [] => by decide
  | x :: r => by
    have := numBy_nn r
    unfold numBy
    omega
theorem numBy_lt : ∀ ns : List Int, numBy ns < 2 ^ ns.length
  | [] => by decide
  | x :: r => by
    have := numBy_lt r
    unfold numBy
    rw [List.length_cons, Int.pow_succ]
    omega
theorem settingBy_len : ∀ (k : Nat) (n : Int), (settingBy k n).length = k
  | 0, _ => rfl
  | k + 1, n => by rw [settingBy, List.length_cons, settingBy_len]
theorem settingBy_bits : ∀ (k : Nat) (n : Int), Bits (settingBy k n)
  | 0, _ => fun x h => by cases h
  | k + 1, n => fun x h => by
    rw [settingBy] at h
    rcases List.mem_cons.mp h with rfl | h
    · omega
    · exact settingBy_bits k _ x h
theorem num_setting : ∀ (k : Nat) (n : Int), 0 ≤ n → n < 2 ^ k → numBy (settingBy k n) = n
  | 0, n, h0, h => by
    have : n < 1 := h
    show (0 : Int) = n
    omega
  | k + 1, n, h0, h => by
    rw [Int.pow_succ] at h
    rw [settingBy, numBy, num_setting k (n / 2) (by omega) (by omega)]
    omega
theorem setting_num : ∀ ns : List Int, Bits ns → settingBy ns.length (numBy ns) = ns
  | [], _ => rfl
  | x :: r, h => by
    have hx := h x List.mem_cons_self
    have ih := setting_num r fun y hy => h y (List.mem_cons_of_mem _ hy)
    rw [List.length_cons, settingBy]
    have e0 : numBy (x :: r) = 2 * numBy r + (x + numBy r) % 2 := rfl
    have e : numBy (x :: r) / 2 = numBy r := by omega
    rw [e, ih]
    congr 1
    omega
/-- number_by -/
theorem numBy_loop (ns : List Int) : ∀ (k : Nat) (s : Sl), k ≤ ns.length → ∃ s', forGo (setN 2) (fSet 1 (fOp gAdd (fOp gMul (fC (.int 2)) (fVar 1)) (fOp gMod (fOp gAdd (fOp gIx (fVar 0) (fVar 2)) (fVar 1)) (fC (.int 2))))) (rgD ((k : Int) - 1) (-1) k) [.v (.tuple (ins ns)), .v (.int (numBy (ns.drop k))), s] = .nx [.v (.tuple (ins ns)), .v (.int (numBy ns)), s'] := by
  intro k
  induction k with
  | zero => intro s _; exact ⟨s, by simp [rgD_zero, forGo]⟩
  | succ k ih =>
    intro s h
    obtain ⟨s', e⟩ := ih (.v (.int k)) (by omega)
    refine ⟨s', ?_⟩
    have e1 : ((k + 1 : Nat) : Int) - 1 = k := by omega
    rw [e1, rgD_succ]
    have hd : ns.drop k = ns[k] :: ns.drop (k + 1) := (List.getElem_cons_drop (by omega)).symm
    rw [hd, numBy] at e
    simp [forGo, gIx_t (show k < ns.length by omega)]
    rw [← e]
    rfl
theorem r_b_number_by_eq (ns : List Int) (h : ns.length ≤ 1000) : r_b_number_by [.tuple (ins ns)] = .ok (.int (numBy ns)) := by
  unfold r_b_number_by F_b_number_by DL.run
  obtain ⟨s', e⟩ := numBy_loop ns ns.length .un (Nat.le_refl _)
  have hb : -BIG ≤ (ns.length : Int) - 1 ∧ (ns.length : Int) - 1 ≤ BIG ∧ -BIG ≤ (-1 : Int) ∧ (-1 : Int) ≤ BIG := by unfold BIG; omega
  have e2 : ((ns.length : Int) - 1 - -1).toNat = ns.length := by omega
  rw [List.drop_length] at e
  simp only [numBy] at e
  simp [slots0, rg3, hb, e2]
  rw [e]
  rfl
theorem settingBy_loop (k0 : Int) : ∀ (m : Nat) (lo : Int) (s : Sl) (n : Int) (acc : List Int), 0 ≤ n → acc.length + m ≤ 1000 → ∃ s' n', forGo (setN 3) (fSeq (fApp 2 (fOp gMod (fOp gAdd (fVar 1) (fOp gFdiv (fVar 1) (fC (.int 2)))) (fC (.int 2)))) (fSet 1 (fOp gFdiv (fVar 1) (fC (.int 2))))) (rgD lo 1 m) [.v (.int k0), .v (.int n), .own (ins acc), s] = .nx [.v (.int k0), .v (.int n'), .own (ins (acc ++ settingBy m n)), s'] := by
  intro m
  induction m with
  | zero => intro lo s n acc _ _; exact ⟨s, n, by simp [rgD_zero, forGo, settingBy]⟩
  | succ m ih =>
    intro lo s n acc h0 hl
    obtain ⟨s', n', e⟩ := ih (lo + 1) (.v (.int lo)) (n / 2) (acc ++ [(n + n / 2) % 2]) (by omega) (by rw [List.length_append]; simp; omega)
    refine ⟨s', n', ?_⟩
    rw [rgD_succ]
    have hL : acc.length < LIM := by unfold LIM; omega
    have e1 : ins (acc ++ [(n + n / 2) % 2]) = ins acc ++ [.int ((n + n / 2) % 2)] := by unfold ins; simp
    rw [e1, List.append_assoc] at e
    simp [forGo, fApp, hL]
    rw [e]
    rfl
theorem r_b_setting_by_eq (k : Nat) (n : Int) (hk : k ≤ 1000) (h0 : 0 ≤ n) : r_b_setting_by [.int k, .int n] = .ok (.tuple (ins (settingBy k n))) := by
  unfold r_b_setting_by F_b_setting_by DL.run
  obtain ⟨s', n', e⟩ := settingBy_loop k k 0 .un n [] h0 (by simpa using hk)
  have hb : -BIG ≤ (k : Int) ∧ (k : Int) ≤ BIG := by unfold BIG; omega
  have e0 : ins [] = [] := rfl
  rw [e0] at e
  simp [slots0, rg1, hb, e, flat_ints]
end DM
set_option Elab.async false
set_option linter.all false
set_option maxRecDepth 100000
set_option maxHeartbeats 1000000
namespace DM
open PySem DL
/-! ### what is a setting -/
def okSetting : D → Bool
  | .tuple ds => decide (1 ≤ ds.length) && decide (ds.length ≤ 40) && ds.all fun x => among x 0 1
  | _ => false
theorem need_loop (t : Sl) : ∀ (ds : List D) (s : Sl), (forGo (setN 1) (fIfS (fNot (fTst (fCall r_b_is_among (fACons (fVar 1) (fACons (fC (.int 0)) (fACons (fC (.int 1)) fANil)))))) (fun δ => .exc (Str.ofString "BadSetting") δ) (.nx)) ds [t, s]).toR = if (ds.all fun x => among x 0 1) = true then .ok .none else .exc (Str.ofString "BadSetting")
  | [], s => by simp [forGo]
  | d :: ds, s => by
    have ih := need_loop t ds (.v d)
    cases t <;> (simp only [forGo, setN_ap, List.set_cons_succ, List.set_cons_zero]; simp; cases h : among d 0 1 <;> simp [h] <;> simpa using ih)
theorem r_b_need_setting_eq (ds : List D) : r_b_need_setting [.tuple ds] = if okSetting (.tuple ds) = true then .ok .none else .exc (Str.ofString "BadSetting") := by
  unfold r_b_need_setting F_b_need_setting DL.run
  have e := need_loop (.v (.tuple ds)) ds .un
  by_cases h1 : 1 ≤ ds.length
  · by_cases h2 : ds.length ≤ 40
    · have h3 : (1 : Int) ≤ (ds.length : Int) := by omega
      have h4 : (ds.length : Int) ≤ 40 := by omega
      simp [slots0, isT, tyN, okSetting, h1, h2, h3, h4]
      simpa using e
    · have h4 : ¬ (ds.length : Int) ≤ 40 := by omega
      simp [slots0, isT, tyN, okSetting, h1, h2, h4]
  · have h3 : ¬ (1 : Int) ≤ (ds.length : Int) := by omega
    simp [slots0, isT, tyN, okSetting, h1, h3]
theorem okSetting_bits {ns : List Int} (h : Bits ns) (h1 : 1 ≤ ns.length) (h2 : ns.length ≤ 40) : okSetting (.tuple (ins ns)) = true := by
  unfold okSetting ins
  simp only [List.length_map, h1, h2, decide_true, Bool.true_and, List.all_map, List.all_eq_true, Function.comp_apply, among_int, Bool.and_eq_true, decide_eq_true_eq]
  intro x hx
  rcases h x hx with rfl | rfl <;> decide
theorem r_b_number_of_eq {ns : List Int} (h : Bits ns) (h1 : 1 ≤ ns.length) (h2 : ns.length ≤ 40) : r_b_number_of [.tuple (ins ns)] = .ok (.int (numBy ns)) := by
  unfold r_b_number_of F_b_number_of DL.run
  simp [slots0, r_b_need_setting_eq, okSetting_bits h h1 h2, r_b_number_by_eq ns (by omega)]
theorem r_b_setting_at_eq {k : Nat} {n : Int} (h1 : 1 ≤ k) (h2 : k ≤ 40) (h0 : 0 ≤ n) (hn : n < 2 ^ k) : r_b_setting_at [.int k, .int n] = .ok (.tuple (ins (settingBy k n))) := by
  unfold r_b_setting_at F_b_setting_at DL.run
  have a1 : (1 : Int) ≤ k := by omega
  have a2 : (k : Int) ≤ 40 := by omega
  have a3 : n ≤ 2 ^ k - 1 := by omega
  simp [slots0, a1, a2, h0, a3, r_b_settings_of_eq k (by omega), r_b_setting_by_eq k n (by omega) h0]
/-! ### the law's own helpers -/
theorem cutD_take {α : Type} (xs : List α) (k : Nat) : cutD xs none (some (k : Int)) = xs.take k := by
  unfold cutD
  rw [HT.sIx_none, HT.sIx_nat]
  simp
theorem cutD_drop {α : Type} (xs : List α) (k : Nat) : cutD xs (some (k : Int)) none = xs.drop k := by
  unfold cutD
  rw [HT.sIx_none, HT.sIx_nat]
  by_cases h : k ≤ xs.length
  · rw [Nat.min_eq_left h]
    apply List.take_of_length_le
    rw [List.length_drop]
    omega
  · rw [Nat.min_eq_right (by omega), List.drop_length, List.drop_eq_nil_of_le (by omega)]
    simp
theorem cutD_ins {ns : List Int} {lo hi : Option Int} : cutD (ins ns) lo hi = ins (cutD ns lo hi) := by
  unfold cutD ins
  simp
def mayP (ns : List Int) (k : Nat) : Bool := decide (k = 0) || (decide (ns.getD (k - 1) 0 = 1) && !decide (1 ∈ ns.take (k - 1)))
theorem r_l_may_eq (ns : List Int) (k : Nat) (h : k ≤ ns.length) : r_l_may [.tuple (ins ns), .int k] = .ok (.bool (mayP ns k)) := by
  unfold r_l_may F_l_may DL.run mayP
  cases k with
  | zero => simp [slots0]
  | succ k =>
    have e1 : ((k + 1 : Nat) : Int) - 1 = k := by omega
    have e2 : ¬ ((k + 1 : Nat) : Int) = 0 := by omega
    have e3 : ¬ (k : Int) + 1 = 0 := by omega
    have e4 : (k : Int) + 1 - 1 = k := by omega
    simp [slots0, e1, e3, e4, gIx_t (show k < ns.length by omega), cutD_take, gIn_t, List.getElem?_eq_getElem (show k < ns.length by omega)]
theorem r_l_is_setting_eq {ns : List Int} (h : Bits ns) (hl : ns.length ≤ 1000) : r_l_is_setting [.tuple (ins ns), .int ns.length] = .ok (.bool true) := by
  unfold r_l_is_setting F_l_is_setting DL.run
  have e0 : ([] : List D) = ins [] := rfl
  have e1 : [PyData.int 0, PyData.int 1] = ins [0, 1] := rfl
  have hLIM : ns.length ≤ LIM := by unfold LIM; omega
  have h2 : (2 : Nat) ≤ LIM := by decide
  have e := lcGo_none (step := lcStep (setN 2) (fOr (fNot (fTst (fCall r_l_whole (fACons (fVar 2) fANil)))) (fTst (fOp (gIn true) (fVar 2) (fTup (fACons (fC (.int 0)) (fACons (fC (.int 1)) fANil)))))) (fVar 2) [.v (.tuple (ins ns)), .v (.int ns.length), .un]) (ins ns) (fun d hd => by
    obtain ⟨x, hx, rfl⟩ := mem_ins.mp hd
    have hx2 : x ∈ ([0, 1] : List Int) := by rcases h x hx with rfl | rfl <;> decide
    simp [lcStep, isWhole, e1, gIn_t, h2]
    rcases h x hx with rfl | rfl <;> simp)
  simp [slots0, isT, tyN, wipeD, e, hLIM]
  rw [e0, gEq_l]
  simp
end DM
set_option Elab.async false
set_option linter.all false
set_option maxRecDepth 100000
set_option maxHeartbeats 1000000
namespace DM
open PySem DL
/-! ### a change of one ring -/
def turnI (ns : List Int) (k : Nat) : List Int := ns.set k (1 - ns.getD k 0)
theorem gray_step : ∀ (k : Nat) (n : Int), 0 ≤ n → n + 1 < 2 ^ k → ∃ j, j < k ∧ settingBy k (n + 1) = turnI (settingBy k n) j ∧ mayP (settingBy k n) j = true
  | 0, n, h0, h => by
    have : n + 1 < 1 := h
    omega
  | k + 1, n, h0, h => by
    rw [Int.pow_succ] at h
    by_cases he : n % 2 = 0
    · refine ⟨0, by omega, ?_, by simp [mayP]⟩
      have e : (n + 1) / 2 = n / 2 := by omega
      rw [settingBy, settingBy, e]
      unfold turnI
      simp
      omega
    · obtain ⟨j, hj, e1, e2⟩ := gray_step k (n / 2) (by omega) (by omega)
      have e : (n + 1) / 2 = n / 2 + 1 := by omega
      refine ⟨j + 1, by omega, ?_, ?_⟩
      · rw [settingBy, settingBy, e, e1]
        unfold turnI
        simp
        omega
      · unfold mayP at e2 ⊢
        rw [settingBy]
        cases j with
        | zero =>
          -- the first ring of the rest may be changed: the head is on if n / 2 is even
          cases k with
          | zero => omega
          | succ k =>
            rw [settingBy, settingBy] at e1
            unfold turnI at e1
            simp at e1
            simp
            omega
        | succ j =>
          cases k with
          | zero => omega
          | succ k =>
            have h1 : (settingBy (k + 1) (n / 2 + 1)).getD 0 0 = (settingBy (k + 1) (n / 2)).getD 0 0 := by
              rw [e1]
              unfold turnI
              simp
            rw [settingBy, settingBy] at h1
            simp at h1
            simp at e2
            simp
            exact ⟨e2.1, by omega, e2.2⟩
theorem setting_zero : ∀ k : Nat, settingBy k 0 = List.replicate k 0
  | 0 => rfl
  | k + 1 => by
    rw [settingBy, show (0 : Int) / 2 = 0 from rfl, setting_zero k]
    rfl
theorem setting_last : ∀ k : Nat, settingBy (k + 1) (2 ^ (k + 1) - 1) = List.replicate k 0 ++ [1]
  | 0 => by decide
  | k + 1 => by
    have p : (0 : Int) < 2 ^ k := Int.pow_pos (by decide)
    have e : (2 ^ (k + 2) - 1 : Int) / 2 = 2 ^ (k + 1) - 1 := by
      rw [Int.pow_succ 2 (k + 1)]
      omega
    rw [settingBy, e, setting_last k, List.replicate_succ, List.cons_append]
    congr 1
    rw [Int.pow_succ 2 (k + 1), Int.pow_succ 2 k]
    omega
/-! ### the law k03 -/
theorem turnI_len {ns : List Int} {k : Nat} : (turnI ns k).length = ns.length := by unfold turnI; simp
theorem turnI_get {ns : List Int} {k i : Nat} (h : i < ns.length) : (turnI ns k).getD i 0 = if i = k then 1 - ns.getD k 0 else ns.getD i 0 := by
  unfold turnI
  by_cases e : i = k
  · subst e
    simp [h]
  · rw [if_neg e]
    simp [List.getElem?_set_ne (Ne.symm e)]
theorem mayP_turn {ns : List Int} {k : Nat} (h : mayP ns k = true) : mayP (turnI ns k) k = true := by
  unfold mayP at h ⊢
  cases k with
  | zero => simp
  | succ k =>
    simp at h
    unfold turnI
    simp [List.getElem?_set_ne, h.1]
    rw [List.take_set_of_le (by omega)]
    exact h.2
/-- the rings in which two settings differ -/
theorem unlike_loop {ns : List Int} {j : Nat} (hb : Bits ns) (hj : j < ns.length) (g : Nat → Bool) (hg : ∀ i, i < ns.length → g i = (!decide (ns.getD i 0 = (turnI ns j).getD i 0))) : (List.range ns.length).filter g = [j] := by
  have hg2 : ∀ i, i < ns.length → g i = decide (i = j) := fun i hi => by
    rw [hg i hi, turnI_get hi]
    by_cases e : i = j
    · subst e
      simp
      have : ns[i]?.getD 0 = 0 ∨ ns[i]?.getD 0 = 1 := by
        rw [List.getElem?_eq_getElem hi]
        exact hb _ (List.getElem_mem hi)
      omega
    · simp [e]
  have e : (List.range ns.length).filter g = (List.range ns.length).filter fun i => decide (i = j) := List.filter_congr fun i hi => hg2 i (List.mem_range.mp hi)
  rw [e]
  have key : ∀ n : Nat, j < n → (List.range n).filter (fun i => decide (i = j)) = [j] := by
    intro n
    induction n with
    | zero => intro h; omega
    | succ n ih =>
      intro h
      rw [List.range_succ, List.filter_append]
      by_cases e : j = n
      · subst e
        have : (List.range j).filter (fun i => decide (i = j)) = [] := by
          rw [List.filter_eq_nil_iff]
          intro i hi
          have := List.mem_range.mp hi
          simp
          omega
        rw [this]
        simp
      · rw [ih (by omega)]
        simp
        omega
  exact key _ hj
def lnum (ns : List Int) (k : Nat) : Int :=
  let f : Int := 2 ^ k
  let n := (ns.getD 1 0 * 1234577 + mixed ns 1 * 40503) % f
  if mixed ns 2 % 4 = 1 then n % (if f < 16 then f else 16) else if mixed ns 2 % 4 = 2 then f - 1 - n % (if f < 16 then f else 16) else n
theorem pow2_pos (k : Nat) : (0 : Int) < 2 ^ k := Int.pow_pos (by decide)
theorem lnum_in (ns : List Int) (k : Nat) : 0 ≤ lnum ns k ∧ lnum ns k < 2 ^ k := by
  have p := pow2_pos k
  have h1 := Int.emod_nonneg (ns.getD 1 0 * 1234577 + mixed ns 1 * 40503) (show (2 : Int) ^ k ≠ 0 by omega)
  have h2 := Int.emod_lt_of_pos (ns.getD 1 0 * 1234577 + mixed ns 1 * 40503) p
  unfold lnum
  simp only
  generalize (ns.getD 1 0 * 1234577 + mixed ns 1 * 40503) % 2 ^ k = n at h1 h2
  generalize (2 : Int) ^ k = f at p h2
  have h3 : ∀ m : Int, 0 < m → m ≤ f → 0 ≤ n % m ∧ n % m < f := fun m hm hf => ⟨Int.emod_nonneg n (by omega), by have := Int.emod_lt_of_pos n hm; omega⟩
  have h4 := h3 (if f < 16 then f else 16) (by split <;> omega) (by split <;> omega)
  split
  · exact h4
  · split
    · omega
    · omega
theorem r_l_number_eq (ns : List Int) (k : Nat) (h : k ≤ 40) : r_l_number [scr ns, .int k] = .ok (.int (lnum ns k)) := by
  unfold r_l_number F_l_number DL.run lnum
  have p := pow2_pos k
  have hm := r_l_mixed_eq ns 1
  have hm2 := r_l_mixed_eq ns 2
  have hc := r_l_cell_at_eq ns 1
  have e1 : ((1 : Nat) : Int) = 1 := rfl
  have e2 : ((2 : Nat) : Int) = 2 := rfl
  rw [e1] at hm hc
  rw [e2] at hm2
  have h16 : (0 : Int) < (if (2 : Int) ^ k < 16 then 2 ^ k else 16) := by split <;> omega
  simp [slots0, hm, hm2, hc, r_l_twos_eq k (by omega), p, h16]
  (repeat' split) <;> first | rfl | simp_all
theorem rep_flat (m : Nat) (x : D) : (List.replicate m [x]).flatten = List.replicate m x := by
  induction m with
  | zero => rfl
  | succ m ih => rw [List.replicate_succ, List.flatten_cons, ih]; rfl
theorem tup_rep {m : Nat} (h : m ≤ 1000) : gMul (.tuple [.int 0]) (.int m) = .ok (.tuple (ins (List.replicate m 0))) := by
  have e : gMul (.tuple [.int 0]) (.int m) = if 0 ≤ (m : Int) ∧ (m : Int) ≤ 1000 ∧ [PyData.int 0].length ≤ 60 ∧ [PyData.int 0].isEmpty = false then R.ok (.tuple (List.replicate (m : Int).toNat [PyData.int 0]).flatten) else .bad := rfl
  rw [e, if_pos ⟨by omega, by omega, by decide, rfl⟩, Int.toNat_natCast, rep_flat]
  unfold ins
  simp
theorem gray_may {k : Nat} {n : Int} (h0 : 0 ≤ n) (h : n + 1 < 2 ^ k) : ∃ j, j < k ∧ settingBy k (n + 1) = turnI (settingBy k n) j ∧ mayP (settingBy k n) j = true ∧ mayP (settingBy k (n + 1)) j = true := by
  obtain ⟨j, h1, h2, h3⟩ := gray_step k n h0 h
  exact ⟨j, h1, h2, h3, h2 ▸ mayP_turn h3⟩
theorem getD_get {ns : List Int} {i : Nat} (h : i < ns.length) : ns.getD i 0 = ns[i] := by simp [h]
theorem turn_get {ns ms : List Int} {j i : Nat} (hj : j < ns.length) (e : ms = turnI ns j) : ms.length = ns.length := by rw [e, turnI_len]
/-- [ i for i in range(n) if .. ], told by a filter of range -/
theorem lc_range {step : D → Option (Option D)} {n : Nat} (g : Nat → Bool) (h : ∀ i, i < n → step (.int i) = if g i = true then some (some (.int i)) else some none) : lcGo step (ins ((List.range n).map fun i => ((i : Nat) : Int))) = some (ins (((List.range n).filter g).map fun i => ((i : Nat) : Int))) := by
  have e : ∀ l : List Nat, ins (l.map fun i => ((i : Nat) : Int)) = l.map fun i => PyData.int ((i : Nat) : Int) := fun l => by unfold ins; rw [List.map_map]; rfl
  rw [e, e]
  have key : ∀ l : List Nat, (∀ i ∈ l, i < n) → lcGo step (l.map fun i => PyData.int ((i : Nat) : Int)) = some ((l.filter g).map fun i => PyData.int ((i : Nat) : Int)) := by
    intro l
    induction l with
    | nil => intro _; rfl
    | cons i l ih =>
      intro hl
      rw [List.map_cons]
      unfold lcGo
      rw [h i (hl i List.mem_cons_self), ih fun i hi => hl i (List.mem_cons_of_mem _ hi)]
      cases hg : g i <;> simp [hg]
  exact key _ fun i hi => List.mem_range.mp hi
theorem unlike_lc {S : List Int} {j n : Nat} (hS : S.length = n) (hb : Bits S) (hj : j < n) (a b c : Sl) : lcGo (lcStep (setN 6) (fTst (fOp gNe (fOp gIx (fVar 3) (fVar 6)) (fOp gIx (fVar 4) (fVar 6)))) (fVar 6) [a, b, c, .v (.tuple (ins S)), .v (.tuple (ins (turnI S j))), .un, .un]) (ins ((List.range n).map fun i => ((i : Nat) : Int))) = some [.int j] := by
  subst hS
  rw [lc_range (fun i => !decide (S.getD i 0 = (turnI S j).getD i 0)) fun i hi => ?_]
  · rw [unlike_loop hb hj _ fun i hi => rfl]
    rfl
  · have hi' : i < (turnI S j).length := by rw [turnI_len]; exact hi
    rw [getD_get hi, getD_get hi']
    cases a <;> cases b <;> cases c <;> simp -implicitDefEqProofs [lcStep, gIx_t hi, gIx_t hi'] <;> (split <;> simp_all)
theorem law_k03 (ns : List Int) : r_law_k03 [scr ns] = .ok (.bool true) := by
  obtain ⟨k, hk, h1, h40⟩ : ∃ k : Nat, 1 + mixed ns 0 % 40 = k ∧ 1 ≤ k ∧ k ≤ 40 := by
    have := mixed_nn ns 0
    exact ⟨(1 + mixed ns 0 % 40).toNat, by omega, by omega, by omega⟩
  have hm := r_l_mixed_eq ns 0
  have e0 : ((0 : Nat) : Int) = 0 := rfl
  rw [e0] at hm
  obtain ⟨n0, n1⟩ := lnum_in ns k
  have hnum := r_l_number_eq ns k h40
  generalize lnum ns k = n at n0 n1 hnum
  have p := pow2_pos k
  have hs := r_b_setting_at_eq h1 h40 n0 n1
  have hsl := settingBy_len k n
  have hb := settingBy_bits k n
  have hi := r_l_is_setting_eq hb (by omega)
  rw [hsl] at hi
  have hn := r_b_number_of_eq hb (by omega) (by omega)
  rw [num_setting k n n0 n1] at hn
  have z0 := r_b_setting_at_eq (n := 0) h1 h40 (by omega) p
  have z1 := r_b_setting_at_eq (n := 2 ^ k - 1) h1 h40 (by omega) (by omega)
  rw [setting_zero] at z0
  obtain ⟨k', rfl⟩ : ∃ k', k = k' + 1 := ⟨k - 1, by omega⟩
  rw [setting_last] at z1
  have ht := r_l_twos_eq (k' + 1) (by omega)
  have t0 := tup_rep (m := k' + 1) (by omega)
  have t1 := tup_rep (m := k') (by omega)
  have ek : ((k' + 1 : Nat) : Int) - 1 = (k' : Int) := by omega
  have eg0 := gNe_t (ns := List.replicate (k' + 1) 0) (ms := List.replicate (k' + 1) 0)
  have eg1 := gNe_t (ns := List.replicate k' 0 ++ [1]) (ms := List.replicate k' 0 ++ [1])
  have ega : gAdd (.tuple (ins (List.replicate k' 0))) (.tuple [.int 1]) = .ok (.tuple (ins (List.replicate k' 0 ++ [1]))) := by
    rw [cat_t (by rw [ints_length, List.length_replicate]; simp; omega)]
    unfold ins
    simp
  have ege := gEq_t (ns := settingBy (k' + 1) n) (ms := settingBy (k' + 1) n)
  generalize hS : settingBy (k' + 1) n = S at *
  rw [decide_eq_true rfl] at eg0 eg1 ege
  unfold r_law_k03 F_law_k03 DL.run
  generalize hK : ((k' + 1 : Nat) : Int) = K at *
  by_cases hlt : n + 1 < 2 ^ (k' + 1)
  · obtain ⟨j, hj, g1, g2, g3⟩ := gray_may n0 hlt
    have hs' := r_b_setting_at_eq h1 h40 (show 0 ≤ n + 1 by omega) hlt
    have hb' := settingBy_bits (k' + 1) (n + 1)
    have hsl' := settingBy_len (k' + 1) (n + 1)
    have hi' := r_l_is_setting_eq hb' (by omega)
    rw [hsl'] at hi'
    have hn' := r_b_number_of_eq hb' (by omega) (by omega)
    rw [num_setting (k' + 1) (n + 1) (by omega) hlt] at hn'
    rw [hS] at g1 g2
    generalize hT : settingBy (k' + 1) (n + 1) = T at *
    have m1 := r_l_may_eq S j (by omega)
    have m2 := r_l_may_eq T j (by omega)
    rw [g2] at m1
    rw [g3] at m2
    rw [hK] at *
    have hrg : rg1 [.int K] = .ok (ins ((List.range (k' + 1)).map fun i => ((i : Nat) : Int))) := by
      have e : rg1 [.int K] = if -BIG ≤ K ∧ K ≤ BIG then .ok (rgD 0 1 K.toNat) else .bad := rfl
      rw [e, if_pos (by unfold BIG; omega), ← rgD_nat]
      congr 2
      omega
    simp -implicitDefEqProofs [slots0, hm, hk, hnum, hs, hi, hn, ht, hlt, hs', hi', hn', hrg, LIMn (show k' + 1 ≤ 100000 by omega)]
    have hu := unlike_lc hsl hb hj (.v (scr ns)) (.v (.int K)) (.v (.int n))
    rw [← g1] at hu
    have w : wipeD [.v (scr ns), .v (.int K), .v (.int n), .v (.tuple (ins S)), .v (.tuple (ins T)), .un, .un] [6] = [.v (scr ns), .v (.int K), .v (.int n), .v (.tuple (ins S)), .v (.tuple (ins T)), .un, .un] := rfl
    have gj : gIx (.list [.int (j : Int)]) (.int 0) = .ok (.int j) := rfl
    rw [w, hu]
    simp -implicitDefEqProofs [gj, m1, m2, ek, z0, z1, t0, t1, eg0, eg1, ega, ege, hs, hn, ht]
  · simp -implicitDefEqProofs [slots0, hm, hk, hnum, hs, hi, hn, ht, hlt, z0, z1, t0, t1, ek, eg0, eg1, ega, ege]
end DM
set_option Elab.async false
set_option linter.all false
set_option maxRecDepth 100000
set_option maxHeartbeats 1000000
/-! The plain side: chests. -/
namespace DM
open PySem DL
@[simp] theorem setT_2 {i j : Nat} {a b : D} {δ : List Sl} : setT [i, j] (prD a b) δ = some ((δ.set i (.v a)).set j (.v b)) := rfl
def prodC : List Int → Int
  | [] => 1
  | c :: cs => c * prodC cs
def flipC (c n r : Int) : Int := if n % 2 = 1 then c - 1 - r else r
def numC : List Int → List Int → Int
  | c :: cs, r :: rs => numC cs rs * c + flipC c (numC cs rs) r
  | _, _ => 0
def rowC : List Int → Int → List Int
  | [], _ => []
  | c :: cs, n => flipC c (n / c) (n % c) :: rowC cs (n / c)
def IsRow : List Int → List Int → Prop
  | [], [] => True
  | c :: cs, r :: rs => 0 ≤ r ∧ r < c ∧ IsRow cs rs
  | _, _ => False
def Cnt (cs : List Int) : Prop := ∀ c ∈ cs, 2 ≤ c ∧ c ≤ 9
theorem Cnt.tail {c : Int} {cs : List Int} (h : Cnt (c :: cs)) : Cnt cs := fun x hx => h x (List.mem_cons_of_mem _ hx)
theorem Cnt.head {c : Int} {cs : List Int} (h : Cnt (c :: cs)) : 2 ≤ c ∧ c ≤ 9 := h c List.mem_cons_self
theorem prodC_pos : ∀ {cs : List Int}, Cnt cs → 0 < prodC cs
  | [], _ => by decide
  | c :: cs, h => Int.mul_pos (by have := h.head; omega) (prodC_pos h.tail)
theorem isRow_len : ∀ {cs rs : List Int}, IsRow cs rs → rs.length = cs.length
  | [], [], _ => rfl
  | c :: cs, r :: rs, h => by rw [List.length_cons, List.length_cons, isRow_len h.2.2]
  | [], _ :: _, h => h.elim
  | _ :: _, [], h => h.elim
theorem flipC_in {c n r : Int} (h0 : 0 ≤ r) (h1 : r < c) : 0 ≤ flipC c n r ∧ flipC c n r < c := by
  unfold flipC
  split <;> omega
theorem rowC_len : ∀ (cs : List Int) (n : Int), (rowC cs n).length = cs.length
  | [], _ => rfl
  | c :: cs, n => by rw [rowC, List.length_cons, rowC_len, List.length_cons]
theorem rowC_row : ∀ {cs : List Int} (n : Int), Cnt cs → IsRow cs (rowC cs n)
  | [], _, _ => trivial
  | c :: cs, n, h => by
    have hc := h.head
    have a := Int.emod_nonneg n (show c ≠ 0 by omega)
    have b := Int.emod_lt_of_pos n (show 0 < c by omega)
    exact ⟨(flipC_in a b).1, (flipC_in a b).2, rowC_row _ h.tail⟩
theorem numC_nn : ∀ {cs rs : List Int}, Cnt cs → IsRow cs rs → 0 ≤ numC cs rs
  | [], [], _, _ => by unfold numC; omega
  | c :: cs, r :: rs, h, q => by
    have hc := h.head
    have a := numC_nn h.tail q.2.2
    have b := flipC_in (n := numC cs rs) q.1 q.2.1
    have d := Int.mul_nonneg a (show 0 ≤ c by omega)
    unfold numC
    omega
  | [], _ :: _, _, q => q.elim
  | _ :: _, [], _, q => q.elim
theorem numC_lt : ∀ {cs rs : List Int}, Cnt cs → IsRow cs rs → numC cs rs < prodC cs
  | [], [], _, _ => by unfold numC prodC; omega
  | c :: cs, r :: rs, h, q => by
    have hc := h.head
    have a := numC_lt h.tail q.2.2
    have b := flipC_in (n := numC cs rs) q.1 q.2.1
    have d := Int.mul_le_mul_of_nonneg_right (show numC cs rs + 1 ≤ prodC cs by omega) (show 0 ≤ c by omega)
    have e : (numC cs rs + 1) * c = numC cs rs * c + c := by rw [Int.add_mul, Int.one_mul]
    have f : prodC cs * c = c * prodC cs := Int.mul_comm _ _
    unfold numC prodC
    omega
  | [], _ :: _, _, q => q.elim
  | _ :: _, [], _, q => q.elim
theorem flip_flip (c n r : Int) : flipC c n (flipC c n r) = r := by
  unfold flipC
  split <;> omega
theorem num_row : ∀ {cs : List Int} {n : Int}, Cnt cs → 0 ≤ n → n < prodC cs → numC cs (rowC cs n) = n
  | [], n, _, h0, h1 => by
    unfold prodC at h1
    unfold rowC numC
    omega
  | c :: cs, n, h, h0, h1 => by
    have hc := h.head
    unfold prodC at h1
    have a : n / c < prodC cs := Int.ediv_lt_of_lt_mul (by omega) (by rw [Int.mul_comm]; exact h1)
    have b : 0 ≤ n / c := Int.ediv_nonneg h0 (by omega)
    rw [rowC, numC, num_row h.tail b a, flip_flip]
    exact Int.mul_comm c (n / c) ▸ Int.mul_ediv_add_emod n c
theorem row_num : ∀ {cs rs : List Int}, Cnt cs → IsRow cs rs → rowC cs (numC cs rs) = rs
  | [], [], _, _ => rfl
  | c :: cs, r :: rs, h, q => by
    have hc := h.head
    have b := flipC_in (n := numC cs rs) q.1 q.2.1
    have e : (numC cs rs * c + flipC c (numC cs rs) r) / c = numC cs rs := by
      rw [Int.add_comm, Int.add_mul_ediv_right _ _ (by omega), Int.ediv_eq_zero_of_lt b.1 b.2, Int.zero_add]
    have e2 : (numC cs rs * c + flipC c (numC cs rs) r) % c = flipC c (numC cs rs) r := by
      rw [Int.add_comm, Int.add_mul_emod_self_right, Int.emod_eq_of_lt b.1 b.2]
    rw [numC, rowC, e, e2, flip_flip, row_num h.tail q.2.2]
  | [], _ :: _, _, q => q.elim
  | _ :: _, [], _, q => q.elim
/-- a change of one drawer -/
def stepC (rs : List Int) (j : Nat) (e : Int) : List Int := rs.set j (rs.getD j 0 + e)
theorem row_step : ∀ {cs : List Int} {n : Int}, Cnt cs → 0 ≤ n → n + 1 < prodC cs → ∃ (j : Nat) (e : Int), j < cs.length ∧ (e = 1 ∨ e = -1) ∧ rowC cs (n + 1) = stepC (rowC cs n) j e
  | [], n, _, h0, h1 => by
    unfold prodC at h1
    omega
  | c :: cs, n, h, h0, h1 => by
    have hc := h.head
    unfold prodC at h1
    have m0 := Int.emod_nonneg n (show c ≠ 0 by omega)
    have m1 := Int.emod_lt_of_pos n (show 0 < c by omega)
    have dm := Int.mul_ediv_add_emod n c
    by_cases hl : n % c = c - 1
    · have e1 : n + 1 = (n / c + 1) * c := by
        rw [Int.add_mul, Int.one_mul, Int.mul_comm]
        omega
      have e2 : (n + 1) / c = n / c + 1 := by rw [e1, Int.mul_ediv_cancel _ (by omega)]
      have e3 : (n + 1) % c = 0 := by rw [e1]; exact Int.mul_emod_left _ _
      have b : 0 ≤ n / c := Int.ediv_nonneg h0 (by omega)
      have a : n / c + 1 < prodC cs := by
        rw [← e2]
        exact Int.ediv_lt_of_lt_mul (by omega) (by rw [Int.mul_comm]; exact h1)
      obtain ⟨j, e, hj, he, q⟩ := row_step h.tail b a
      refine ⟨j + 1, e, by simpa using hj, he, ?_⟩
      rw [rowC, rowC, e2, e3, hl, q]
      have f : flipC c (n / c + 1) 0 = flipC c (n / c) (c - 1) := by
        unfold flipC
        split <;> split <;> omega
      rw [f]
      unfold stepC
      simp
    · have e1 : n + 1 = n % c + 1 + n / c * c := by
        rw [Int.mul_comm (n / c) c]
        omega
      have e2 : (n + 1) / c = n / c := by
        rw [e1, Int.add_mul_ediv_right _ _ (by omega), Int.ediv_eq_zero_of_lt (by omega) (by omega), Int.zero_add]
      have e3 : (n + 1) % c = n % c + 1 := by
        rw [e1, Int.add_mul_emod_self_right, Int.emod_eq_of_lt (by omega) (by omega)]
      refine ⟨0, if (n / c) % 2 = 1 then -1 else 1, by simp, by split <;> simp, ?_⟩
      rw [rowC, rowC, e2, e3]
      unfold stepC
      simp
      unfold flipC
      split <;> omega
theorem rowC_zero : ∀ (cs : List Int), rowC cs 0 = List.replicate cs.length 0
  | [] => rfl
  | c :: cs => by
    rw [rowC, Int.zero_ediv, Int.zero_emod, rowC_zero cs]
    rfl
/-! ### the program's and the law's defs -/
structure Good (cs : List Int) : Prop where
  cnt : Cnt cs
  lo : 1 ≤ cs.length
  hi : cs.length ≤ 12
theorem need_counts_loop (t : Sl) : ∀ (cs : List Int) (s : Sl), Cnt cs → ∃ s', forGo (setN 1) (fIfS (fNot (fTst (fCall r_b_is_among (fACons (fVar 1) (fACons (fC (.int 2)) (fACons (fC (.int 9)) fANil)))))) (fun δ => .exc (Str.ofString "BadChest") δ) (.nx)) (ins cs) [t, s] = .nx [t, s']
  | [], s, _ => ⟨s, rfl⟩
  | c :: cs, s, h => by
    obtain ⟨s', e⟩ := need_counts_loop t cs (.v (.int c)) h.tail
    have hc := h.head
    refine ⟨s', ?_⟩
    rw [← ins_cons]
    cases t <;> simp [forGo, hc.1, hc.2, e]
theorem need_counts_eq {cs : List Int} (h : Good cs) : r_c_need_counts [.list (ins cs)] = .ok .none := by
  unfold r_c_need_counts F_c_need_counts DL.run
  obtain ⟨s', e⟩ := need_counts_loop (.v (.list (ins cs))) cs .un h.cnt
  have h1 := h.lo
  have h2 := h.hi
  have h3 : (1 : Int) ≤ (cs.length : Int) := by omega
  have h4 : (cs.length : Int) ≤ 12 := by omega
  simp -implicitDefEqProofs [slots0, isT, tyN, h3, h4, e]
theorem zip_ints : ∀ (rs cs : List Int), List.zipWith prD (ins rs) (ins cs) = (List.zip rs cs).map fun p => prD (.int p.1) (.int p.2)
  | [], _ => by unfold ins; simp
  | _ :: _, [] => by unfold ins; simp
  | r :: rs, c :: cs => by
    have := zip_ints rs cs
    unfold ins at this ⊢
    simp [this]
theorem is_row_loop (t u : Sl) : ∀ (cs rs : List Int) (s1 s2 : Sl), IsRow cs rs → ∃ s1' s2', forGo (setT [2, 3]) (fIfS (fNot (fTst (fCall r_b_is_among (fACons (fVar 2) (fACons (fC (.int 0)) (fACons (fOp gSub (fVar 3) (fC (.int 1))) fANil)))))) (fRet (fC (.bool false))) (.nx)) (List.zipWith prD (ins rs) (ins cs)) [t, u, s1, s2] = .nx [t, u, s1', s2']
  | [], [], s1, s2, _ => ⟨s1, s2, rfl⟩
  | c :: cs, r :: rs, s1, s2, h => by
    obtain ⟨s1', s2', e⟩ := is_row_loop t u cs rs (.v (.int r)) (.v (.int c)) h.2.2
    refine ⟨s1', s2', ?_⟩
    have h1 : r ≤ c - 1 := by have := h.2.1; omega
    rw [← ins_cons, ← ins_cons, List.zipWith_cons_cons]
    cases t <;> cases u <;> simp [forGo, h.1, h1, e]
  | [], _ :: _, _, _, h => h.elim
  | _ :: _, [], _, _, h => h.elim
theorem is_row_eq {cs rs : List Int} (h : IsRow cs rs) : r_c_is_row [.list (ins cs), .tuple (ins rs)] = .ok (.bool true) := by
  unfold r_c_is_row F_c_is_row DL.run
  obtain ⟨s1, s2, e⟩ := is_row_loop (.v (.list (ins cs))) (.v (.tuple (ins rs))) cs rs .un .un h
  simp -implicitDefEqProofs [slots0, isT, tyN, isRow_len h, zipD, sqD, e]
theorem need_row_eq {cs rs : List Int} (g : Good cs) (h : IsRow cs rs) : r_c_need_row [.list (ins cs), .tuple (ins rs)] = .ok .none := by
  unfold r_c_need_row F_c_need_row DL.run
  simp -implicitDefEqProofs [slots0, need_counts_eq g, is_row_eq h]
theorem product_loop (t : Sl) : ∀ (cs : List Int) (s : Sl) (x : Int), Cnt cs → ∃ s', forGo (setN 2) (fSet 1 (fOp gMul (fVar 1) (fVar 2))) (ins cs) [t, .v (.int x), s] = .nx [t, .v (.int (x * prodC cs)), s']
  | [], s, x, _ => ⟨s, by unfold prodC ins; simp [forGo]⟩
  | c :: cs, s, x, h => by
    obtain ⟨s', e⟩ := product_loop t cs (.v (.int c)) (x * c) h.tail
    have hc := h.head
    refine ⟨s', ?_⟩
    have hb : -18446744073709551616 < c ∧ c < 18446744073709551616 := by omega
    rw [Int.mul_assoc] at e
    rw [← ins_cons]
    cases t <;> simp [forGo, hb, e, prodC]
theorem product_of_eq {cs : List Int} (h : Cnt cs) : r_c_product_of [.list (ins cs)] = .ok (.int (prodC cs)) := by
  unfold r_c_product_of F_c_product_of DL.run
  obtain ⟨s', e⟩ := product_loop (.v (.list (ins cs))) cs .un 1 h
  rw [Int.one_mul] at e
  simp -implicitDefEqProofs [slots0, e]
theorem product_eq {cs : List Int} (h : Cnt cs) : r_l_product [.list (ins cs)] = .ok (.int (prodC cs)) := by
  unfold r_l_product F_l_product DL.run
  obtain ⟨s', e⟩ := product_loop (.v (.list (ins cs))) cs .un 1 h
  rw [Int.one_mul] at e
  simp -implicitDefEqProofs [slots0, e]
theorem drop_row : ∀ {cs rs : List Int} (k : Nat), IsRow cs rs → IsRow (cs.drop k) (rs.drop k)
  | _, _, 0, h => h
  | [], [], _ + 1, _ => trivial
  | _ :: _, _ :: _, k + 1, h => drop_row k h.2.2
  | [], _ :: _, _ + 1, h => h.elim
  | _ :: _, [], _ + 1, h => h.elim
theorem num_drop {cs rs : List Int} {k : Nat} (h1 : k < cs.length) (h2 : k < rs.length) : numC (cs.drop k) (rs.drop k) = numC (cs.drop (k + 1)) (rs.drop (k + 1)) * cs[k] + flipC cs[k] (numC (cs.drop (k + 1)) (rs.drop (k + 1))) rs[k] := by
  rw [(List.getElem_cons_drop h1).symm, (List.getElem_cons_drop h2).symm, numC]
theorem get_cnt {cs : List Int} (h : Cnt cs) {k : Nat} (hk : k < cs.length) : 2 ≤ cs[k] ∧ cs[k] ≤ 9 := h _ (List.getElem_mem hk)
theorem number_by_loop {cs rs : List Int} (h : Cnt cs) (hl : rs.length = cs.length) : ∀ (k : Nat) (s1 s2 : Sl), k ≤ cs.length → ∃ s1' s2', forGo (setN 3) (fSeq (fSet 4 (fOp gIx (fVar 1) (fVar 3)))
      (fSeq (fIfS (fTst (fOp gEq (fOp gMod (fVar 2) (fC (.int 2))) (fC (.int 1)))) (fSet 4 (fOp gSub (fOp gSub (fOp gIx (fVar 0) (fVar 3)) (fC (.int 1))) (fVar 4))) (.nx))
      (fSet 2 (fOp gAdd (fOp gMul (fVar 2) (fOp gIx (fVar 0) (fVar 3))) (fVar 4))))) (rgD ((k : Int) - 1) (-1) k) [.v (.list (ins cs)), .v (.tuple (ins rs)), .v (.int (numC (cs.drop k) (rs.drop k))), s1, s2] = .nx [.v (.list (ins cs)), .v (.tuple (ins rs)), .v (.int (numC cs rs)), s1', s2'] := by
  intro k
  induction k with
  | zero => intro s1 s2 _; exact ⟨s1, s2, by simp [rgD_zero, forGo]⟩
  | succ k ih =>
    intro s1 s2 hk
    have k1 : k < cs.length := by omega
    have k2 : k < rs.length := by omega
    have e1 : ((k + 1 : Nat) : Int) - 1 = k := by omega
    have hc := get_cnt h k1
    have hb : -18446744073709551616 < cs[k] ∧ cs[k] < 18446744073709551616 := by omega
    rw [e1, rgD_succ]
    have hd := num_drop k1 k2
    generalize hn : numC (cs.drop (k + 1)) (rs.drop (k + 1)) = n at hd ⊢
    by_cases hf : n % 2 = 1
    · obtain ⟨s1', s2', e⟩ := ih (.v (.int k)) (.v (.int (cs[k] - 1 - rs[k]))) (by omega)
      refine ⟨s1', s2', ?_⟩
      rw [hd] at e
      unfold flipC at e
      rw [if_pos hf] at e
      simp [forGo, gIx_t k2, gIx_l k1, hf, hb]
      rw [← e]
      rfl
    · obtain ⟨s1', s2', e⟩ := ih (.v (.int k)) (.v (.int (rs[k]))) (by omega)
      refine ⟨s1', s2', ?_⟩
      rw [hd] at e
      unfold flipC at e
      rw [if_neg hf] at e
      simp [forGo, gIx_t k2, gIx_l k1, hf, hb]
      rw [← e]
      rfl
theorem number_by_eq {cs rs : List Int} (h : Good cs) (q : IsRow cs rs) : r_c_number_by [.list (ins cs), .tuple (ins rs)] = .ok (.int (numC cs rs)) := by
  unfold r_c_number_by F_c_number_by DL.run
  have hl := isRow_len q
  have hi := h.hi
  obtain ⟨s1, s2, e⟩ := number_by_loop h.cnt hl cs.length .un .un (Nat.le_refl _)
  have hb : -BIG ≤ (cs.length : Int) - 1 ∧ (cs.length : Int) - 1 ≤ BIG ∧ -BIG ≤ (-1 : Int) ∧ (-1 : Int) ≤ BIG := by unfold BIG; omega
  have e2 : ((cs.length : Int) - 1 - -1).toNat = cs.length := by omega
  have e3 : numC (cs.drop cs.length) (rs.drop cs.length) = 0 := by rw [List.drop_length]; unfold numC; rfl
  rw [e3] at e
  simp -implicitDefEqProofs [slots0, rg3, hb, e2]
  rw [e]
  rfl
theorem row_by_loop (t : Sl) : ∀ (cs : List Int) (s1 s2 : Sl) (n : Int) (acc : List Int), Cnt cs → 0 ≤ n → acc.length + cs.length ≤ 1000 → ∃ s1' s2' n', forGo (setN 3) (fSeq (fSet 4 (fOp gMod (fVar 1) (fVar 3)))
      (fSeq (fSet 1 (fOp gFdiv (fVar 1) (fVar 3)))
      (fSeq (fIfS (fTst (fOp gEq (fOp gMod (fVar 1) (fC (.int 2))) (fC (.int 1)))) (fSet 4 (fOp gSub (fOp gSub (fVar 3) (fC (.int 1))) (fVar 4))) (.nx))
      (fApp 2 (fVar 4))))) (ins cs) [t, .v (.int n), .own (ins acc), s1, s2] = .nx [t, .v (.int n'), .own (ins (acc ++ rowC cs n)), s1', s2']
  | [], s1, s2, n, acc, _, _, _ => ⟨s1, s2, n, by simp [forGo, rowC, ins]⟩
  | c :: cs, s1, s2, n, acc, h, h0, hl => by
    have hc := h.head
    have h2 : 0 < c ∧ c < 18446744073709551616 := by omega
    have h1 : 0 < c := by omega
    have b : 0 ≤ n / c := Int.ediv_nonneg h0 (by omega)
    have hL : acc.length < LIM := by unfold LIM; simp at hl; omega
    obtain ⟨s1', s2', n', e⟩ := row_by_loop t cs (.v (.int c)) (.v (.int (flipC c (n / c) (n % c)))) (n / c) (acc ++ [flipC c (n / c) (n % c)]) h.tail b (by simp at hl ⊢; omega)
    refine ⟨s1', s2', n', ?_⟩
    have e1 : ins (acc ++ [flipC c (n / c) (n % c)]) = ins acc ++ [.int (flipC c (n / c) (n % c))] := by unfold ins; simp
    rw [e1, List.append_assoc] at e
    rw [← ins_cons, rowC]
    unfold flipC at e ⊢
    by_cases hf : n / c % 2 = 1
    · simp only [hf, if_true] at e ⊢
      cases t <;> simp [forGo, fApp, hL, hf, h1, h2] <;> (rw [e]; rfl)
    · simp only [hf, if_false] at e ⊢
      cases t <;> simp [forGo, fApp, hL, hf, h1, h2] <;> (rw [e]; rfl)
theorem row_by_eq {cs : List Int} {n : Int} (h : Good cs) (h0 : 0 ≤ n) : r_c_row_by [.list (ins cs), .int n] = .ok (.tuple (ins (rowC cs n))) := by
  unfold r_c_row_by F_c_row_by DL.run
  have hi := h.hi
  obtain ⟨s1, s2, n', e⟩ := row_by_loop (.v (.list (ins cs))) cs .un .un n [] h.cnt h0 (by simp; omega)
  have e0 : ins [] = [] := rfl
  rw [e0] at e
  simp -implicitDefEqProofs [slots0, e, flat_ints]
theorem many_eq {cs : List Int} (h : Good cs) : r_c_many [.list (ins cs)] = .ok (.int (prodC cs)) := by
  unfold r_c_many F_c_many DL.run
  simp -implicitDefEqProofs [slots0, need_counts_eq h, product_of_eq h.cnt]
theorem number_in_eq {cs rs : List Int} (h : Good cs) (q : IsRow cs rs) : r_c_number_in [.list (ins cs), .tuple (ins rs)] = .ok (.int (numC cs rs)) := by
  unfold r_c_number_in F_c_number_in DL.run
  simp -implicitDefEqProofs [slots0, need_row_eq h q, number_by_eq h q]
theorem row_at_eq {cs : List Int} {n : Int} (h : Good cs) (h0 : 0 ≤ n) (h1 : n < prodC cs) : r_c_row_at [.list (ins cs), .int n] = .ok (.tuple (ins (rowC cs n))) := by
  unfold r_c_row_at F_c_row_at DL.run
  have h2 : n ≤ prodC cs - 1 := by omega
  simp -implicitDefEqProofs [slots0, need_counts_eq h, product_of_eq h.cnt, row_by_eq h h0, h0, h2]
end DM
set_option Elab.async false
set_option linter.all false
set_option maxRecDepth 100000
set_option maxHeartbeats 1000000
/-! The plain side: the laws' own chests. -/
namespace DM
open PySem DL
theorem mixed_at (ns : List Int) {i : Int} (j : Nat) (h : i = j) : r_l_mixed [scr ns, .int i] = .ok (.int (mixed ns j)) := by
  subst h
  exact r_l_mixed_eq ns j
theorem cell_at (ns : List Int) {i : Int} (j : Nat) (h : i = j) : r_l_cell_at [scr ns, .int i] = .ok (.int (ns.getD j 0)) := by
  subst h
  exact r_l_cell_at_eq ns j
theorem ix3 (a b c : D) {κ : Int} (h0 : 0 ≤ κ) (h1 : κ < 3) : gIx (.list [a, b, c]) (.int κ) = .ok (if κ = 0 then a else if κ = 1 then b else c) := by
  have : κ = 0 ∨ κ = 1 ∨ κ = 2 := by omega
  rcases this with rfl | rfl | rfl <;> rfl
theorem counts_loop (ns : List Int) (k : Nat) (κ : Int) (h0 : 0 ≤ κ) (h1 : κ < 3) (a b : Sl) : ∀ (m : Nat) (lo : Nat) (s1 s2 : Sl) (acc : List Int), Cnt acc → acc.length + m ≤ 1000 → lo + m ≤ 1000 → ∃ s1' s2' cs, Cnt cs ∧ cs.length = acc.length + m ∧
    forGo (setN 6) (fSeq (fSet 7 (fOp gFdiv (fCall r_l_mixed (fACons (fVar 0) (fACons (fOp gAdd (fOp gAdd (fVar 1) (fC (.int 1))) (fOp gMod (fVar 6) (fC (.int 3)))) fANil))) (fOp gAdd (fC (.int 1)) (fOp gMul (fC (.int 7)) (fVar 6)))))
      (fApp 5 (fOp gIx (fLst (fACons (fOp gAdd (fC (.int 2)) (fOp gMod (fVar 7) (fC (.int 8)))) (fACons (fOp gAdd (fC (.int 2)) (fOp gMod (fVar 7) (fC (.int 3)))) (fACons (fOp gAdd (fC (.int 2)) (fOp gMod (fOp gFdiv (fVar 7) (fC (.int 8))) (fC (.int 2)))) fANil)))) (fVar 4)))) (rgD lo 1 m) [.v (scr ns), .v (.int k), a, b, .v (.int κ), .own (ins acc), s1, s2] = .nx [.v (scr ns), .v (.int k), a, b, .v (.int κ), .own (ins cs), s1', s2'] := by
  intro m
  induction m with
  | zero => intro lo s1 s2 acc hc _ _; exact ⟨s1, s2, acc, hc, rfl, by simp [rgD_zero, forGo]⟩
  | succ m ih =>
    intro lo s1 s2 acc hc hl hlo
    have em := mixed_at ns (i := (k : Int) + 1 + (lo : Int) % 3) (k + 1 + lo % 3) (by omega)
    generalize mixed ns (k + 1 + lo % 3) / (1 + 7 * (lo : Int)) = v
    have hp : 0 < 1 + 7 * (lo : Int) := by omega
    have hp2 : 1 + 7 * (lo : Int) < 18446744073709551616 := by omega
    have hL : acc.length < LIM := by unfold LIM; omega
    let w := mixed ns (k + 1 + lo % 3) / (1 + 7 * (lo : Int))
    let x : Int := if κ = 0 then 2 + w % 8 else if κ = 1 then 2 + w % 3 else 2 + w / 8 % 2
    have hx : 2 ≤ x ∧ x ≤ 9 := by
      have q1 := Int.emod_nonneg w (show (8 : Int) ≠ 0 by decide)
      have q2 := Int.emod_lt_of_pos w (show (0 : Int) < 8 by decide)
      have q3 := Int.emod_nonneg w (show (3 : Int) ≠ 0 by decide)
      have q4 := Int.emod_lt_of_pos w (show (0 : Int) < 3 by decide)
      have q5 := Int.emod_nonneg (w / 8) (show (2 : Int) ≠ 0 by decide)
      have q6 := Int.emod_lt_of_pos (w / 8) (show (0 : Int) < 2 by decide)
      show 2 ≤ (if κ = 0 then 2 + w % 8 else if κ = 1 then 2 + w % 3 else 2 + w / 8 % 2) ∧ (if κ = 0 then 2 + w % 8 else if κ = 1 then 2 + w % 3 else 2 + w / 8 % 2) ≤ 9
      split
      · omega
      · split <;> omega
    have hc' : Cnt (acc ++ [x]) := fun c hm => by
      rcases List.mem_append.mp hm with q | q
      · exact hc c q
      · rw [List.mem_singleton.mp q]; exact hx
    obtain ⟨s1', s2', cs, g1, g2, e⟩ := ih (lo + 1) (.v (.int lo)) (.v (.int w)) (acc ++ [x]) hc' (by simp; omega) (by omega)
    refine ⟨s1', s2', cs, g1, by rw [g2]; simp; omega, ?_⟩
    rw [rgD_succ]
    have e1 : ins (acc ++ [x]) = ins acc ++ [.int x] := by unfold ins; simp
    rw [e1] at e
    have e2 : ((lo + 1 : Nat) : Int) = (lo : Int) + 1 := by omega
    rw [e2] at e
    have i3 := ix3 (.int (2 + w % 8)) (.int (2 + w % 3)) (.int (2 + w / 8 % 2)) h0 h1
    have e3 : (if κ = 0 then PyData.int (2 + w % 8) else if κ = 1 then .int (2 + w % 3) else .int (2 + w / 8 % 2)) = .int x := by
      show _ = PyData.int (if κ = 0 then 2 + w % 8 else if κ = 1 then 2 + w % 3 else 2 + w / 8 % 2)
      split
      · rfl
      · split <;> rfl
    rw [e3] at i3
    cases a <;> cases b <;> (simp -implicitDefEqProofs [forGo, em, hp, hp2, hL, fApp]; rw [show mixed ns (k + 1 + lo % 3) / (1 + 7 * (lo : Int)) = w from rfl, i3]; simp -implicitDefEqProofs [hL]; exact e)
/-- the law's counts: a chest -/
theorem l_counts_eq (ns : List Int) (k most : Nat) (h0 : 1 ≤ most) (h1 : most ≤ 12) : ∃ cs, Cnt cs ∧ 1 ≤ cs.length ∧ cs.length ≤ most ∧ r_l_counts [scr ns, .int k, .int most] = .new (ins cs) := by
  obtain ⟨m0, m1⟩ := mixed_nn ns k
  have em := r_l_mixed_eq ns k
  have q1 := Int.emod_nonneg (mixed ns k) (show (most : Int) ≠ 0 by omega)
  have q2 := Int.emod_lt_of_pos (mixed ns k) (show (0 : Int) < most by omega)
  have q3 := Int.emod_nonneg (mixed ns k / most) (show (3 : Int) ≠ 0 by decide)
  have q4 := Int.emod_lt_of_pos (mixed ns k / most) (show (0 : Int) < 3 by decide)
  obtain ⟨m, hm⟩ : ∃ m : Nat, 1 + mixed ns k % most = m := ⟨(1 + mixed ns k % most).toNat, by omega⟩
  obtain ⟨s1, s2, cs, g1, g2, e⟩ := counts_loop ns k (mixed ns k / most % 3) q3 q4 (.v (.int most)) (.v (.int m)) m 0 .un .un [] (fun _ h => nomatch h) (by simp; omega) (by omega)
  refine ⟨cs, g1, by rw [g2]; simp; omega, by rw [g2]; simp; omega, ?_⟩
  have hmost : 0 < (most : Int) := by omega
  have hmost1 : 0 < most := by omega
  have hmost2 : (most : Int) < 18446744073709551616 := by omega
  have hb : -BIG ≤ (m : Int) ∧ (m : Int) ≤ BIG := by unfold BIG; omega
  have e0 : ins [] = [] := rfl
  rw [e0] at e
  unfold r_l_counts F_l_counts DL.run
  simp -implicitDefEqProofs [slots0, em, hmost, hmost1, hmost2, hm, rg1, hb]
  rw [show ((0 : Nat) : Int) = 0 from rfl] at e
  rw [e]
  simp -implicitDefEqProofs
/-! ### a row of the law's -/
theorem row_snoc : ∀ {cs rs : List Int} {c r : Int}, IsRow cs rs → 0 ≤ r → r < c → IsRow (cs ++ [c]) (rs ++ [r])
  | [], [], _, _, _, h0, h1 => ⟨h0, h1, trivial⟩
  | _ :: _, _ :: _, _, _, h, h0, h1 => ⟨h.1, h.2.1, row_snoc h.2.2 h0 h1⟩
  | [], _ :: _, _, _, h, _, _ => h.elim
  | _ :: _, [], _, _, h, _, _ => h.elim
theorem row_set : ∀ {cs rs : List Int} (k : Nat) {r : Int} (hk : k < cs.length), IsRow cs rs → 0 ≤ r → r < cs[k] → IsRow cs (rs.set k r)
  | _ :: _, _ :: _, 0, _, _, h, h0, h1 => ⟨h0, h1, h.2.2⟩
  | _ :: _, _ :: _, k + 1, _, hk, h, h0, h1 => ⟨h.1, h.2.1, row_set k (by simpa using hk) h.2.2 h0 h1⟩
  | [], _, _, _, hk, _, _, _ => absurd hk (by simp)
  | _ :: _, [], _, _, _, h, _, _ => h.elim
theorem enum_cons {i : Nat} {d : D} {ds : List D} : ((d :: ds).zipIdx i).map (fun p => prD (.int (p.2 : Nat)) p.1) = prD (.int i) d :: (ds.zipIdx (i + 1)).map (fun p => prD (.int (p.2 : Nat)) p.1) := by
  rw [List.zipIdx_cons, List.map_cons]
theorem row_loop1 (ns : List Int) (k : Nat) (t : Sl) : ∀ (cs : List Int) (i : Nat) (s1 s2 s3 : Sl) (done acc : List Int), Cnt cs → IsRow done acc → acc.length + cs.length ≤ 1000 → i + cs.length ≤ 1000 → ∃ s1' s2' s3' rs, IsRow (done ++ cs) rs ∧
    forGo (setT [4, 5]) (fSeq (fSet 6 (fOp gFdiv (fCall r_l_mixed (fACons (fVar 0) (fACons (fOp gAdd (fVar 1) (fOp gMod (fVar 4) (fC (.int 4)))) fANil))) (fOp gAdd (fC (.int 1)) (fOp gMul (fC (.int 5)) (fVar 4)))))
      (fApp 3 (fOp gMod (fVar 6) (fVar 5)))) (((ins cs).zipIdx i).map fun p => prD (.int (p.2 : Nat)) p.1) [.v (scr ns), .v (.int k), t, .own (ins acc), s1, s2, s3] = .nx [.v (scr ns), .v (.int k), t, .own (ins rs), s1', s2', s3']
  | [], i, s1, s2, s3, dn, acc, _, hr, _, _ => ⟨s1, s2, s3, acc, by rw [List.append_nil]; exact hr, rfl⟩
  | c :: cs, i, s1, s2, s3, dn, acc, hc, hr, hl, hi => by
    have hh := hc.head
    have em := mixed_at ns (i := (k : Int) + (i : Int) % 4) (k + i % 4) (by omega)
    have hp : 0 < 1 + 5 * (i : Int) := by omega
    have hp2 : 1 + 5 * (i : Int) < 18446744073709551616 := by simp at hi; omega
    have hL : acc.length < LIM := by unfold LIM; simp at hl; omega
    have c0 : 0 < c := by omega
    let w := mixed ns (k + i % 4) / (1 + 5 * (i : Int))
    have q1 := Int.emod_nonneg w (show c ≠ 0 by omega)
    have q2 := Int.emod_lt_of_pos w c0
    obtain ⟨s1', s2', s3', rs, g1, e⟩ := row_loop1 ns k t cs (i + 1) (.v (.int i)) (.v (.int c)) (.v (.int w)) (dn ++ [c]) (acc ++ [w % c]) hc.tail (row_snoc hr q1 q2) (by simp at hl ⊢; omega) (by simp at hi; omega)
    refine ⟨s1', s2', s3', rs, by rw [List.append_assoc] at g1; exact g1, ?_⟩
    have e1 : ins (acc ++ [w % c]) = ins acc ++ [.int (w % c)] := by unfold ins; simp
    rw [e1] at e
    rw [← ins_cons, enum_cons]
    cases t <;> (simp -implicitDefEqProofs [forGo, em, hp, hp2, hL, fApp, c0]; exact e)
theorem row_loop2 (ns : List Int) (k : Nat) {cs : List Int} (hc : Cnt cs) : ∀ (m lo : Nat) (s1 s2 s3 : Sl) (acc : List Int), IsRow cs acc → lo + m ≤ cs.length → cs.length ≤ 1000 → ∃ s1' rs, IsRow cs rs ∧
    forGo (setN 4) (fPut 3 (fVar 4) (fOp gMul (fOp gSub (fOp gIx (fVar 2) (fVar 4)) (fC (.int 1))) (fOp gMod (fOp gFdiv (fCall r_l_mixed (fACons (fVar 0) (fACons (fOp gAdd (fVar 1) (fC (.int 5))) fANil))) (fOp gAdd (fC (.int 1)) (fVar 4))) (fC (.int 2))))) (rgD lo 1 m) [.v (scr ns), .v (.int k), .v (.list (ins cs)), .own (ins acc), s1, s2, s3] = .nx [.v (scr ns), .v (.int k), .v (.list (ins cs)), .own (ins rs), s1', s2, s3] := by
  intro m
  induction m with
  | zero => intro lo s1 s2 s3 acc h _ _; exact ⟨s1, acc, h, by simp [rgD_zero, forGo]⟩
  | succ m ih =>
    intro lo s1 s2 s3 acc h hl h1000
    have hlo : lo < cs.length := by omega
    have hcl := get_cnt hc hlo
    have em := mixed_at ns (i := (k : Int) + 5) (k + 5) (by omega)
    have hp : 0 < 1 + (lo : Int) := by omega
    have hp2 : 1 + (lo : Int) < 18446744073709551616 := by omega
    have hal := isRow_len h
    let b := mixed ns (k + 5) / (1 + (lo : Int)) % 2
    have hb : b = 0 ∨ b = 1 := by
      show mixed ns (k + 5) / (1 + (lo : Int)) % 2 = 0 ∨ mixed ns (k + 5) / (1 + (lo : Int)) % 2 = 1
      omega
    have hv : 0 ≤ (cs[lo] - 1) * b ∧ (cs[lo] - 1) * b < cs[lo] := by rcases hb with q | q <;> rw [q] <;> omega
    have hm : -18446744073709551616 < cs[lo] - 1 ∧ cs[lo] - 1 < 18446744073709551616 := by omega
    obtain ⟨s1', rs, g1, e⟩ := ih (lo + 1) (.v (.int lo)) s2 s3 (acc.set lo ((cs[lo] - 1) * b)) (row_set lo hlo h hv.1 hv.2) (by omega) h1000
    refine ⟨s1', rs, g1, ?_⟩
    rw [rgD_succ]
    have e1 : ins (acc.set lo ((cs[lo] - 1) * b)) = (ins acc).set lo (.int ((cs[lo] - 1) * b)) := by unfold ins; rw [List.map_set]
    rw [e1] at e
    have e2 : ((lo + 1 : Nat) : Int) = (lo : Int) + 1 := by omega
    rw [e2] at e
    have ei : L2.ixN acc.length (lo : Int) = some lo := by
      unfold L2.ixN
      simp
      omega
    simp -implicitDefEqProofs [forGo, fPut, em, hp, hp2, gIx_l hlo, hm, ei]
    exact e
theorem l_row_eq (ns : List Int) (k : Nat) {cs : List Int} (h : Good cs) : ∃ rs, IsRow cs rs ∧ r_l_row [scr ns, .int k, .list (ins cs)] = .ok (.tuple (ins rs)) := by
  have h1 := h.lo
  have h2 := h.hi
  obtain ⟨s1, s2, s3, rs, g1, e⟩ := row_loop1 ns k (.v (.list (ins cs))) cs 0 .un .un .un [] [] h.cnt trivial (by simp; omega) (by omega)
  rw [List.nil_append] at g1
  have e0 : ins [] = [] := rfl
  rw [e0] at e
  have em4 := mixed_at ns (i := (k : Int) + 4) (k + 4) (by omega)
  have hL : 0 < (cs.length : Int) := by omega
  have hL1 : 0 < cs.length := by omega
  have q1 := Int.emod_nonneg (mixed ns (k + 4) / 2) (show (cs.length : Int) ≠ 0 by omega)
  have q2 := Int.emod_lt_of_pos (mixed ns (k + 4) / 2) hL
  obtain ⟨m, hm⟩ : ∃ m : Nat, mixed ns (k + 4) / 2 % cs.length = m := ⟨(mixed ns (k + 4) / 2 % cs.length).toNat, by omega⟩
  have hb : -BIG ≤ (m : Int) ∧ (m : Int) ≤ BIG := by unfold BIG; omega
  by_cases hf : mixed ns (k + 4) % 2 = 1
  · obtain ⟨s1', rs2, g2, e2⟩ := row_loop2 ns k h.cnt m 0 s1 s2 s3 rs g1 (by omega) (by omega)
    refine ⟨rs2, g2, ?_⟩
    rw [show ((0 : Nat) : Int) = 0 from rfl] at e2
    unfold r_l_row F_l_row DL.run
    simp -implicitDefEqProofs [slots0, enumD, e, em4, hf, hL, hL1, hm, rg1, hb, e2, flat_ints]
  · refine ⟨rs, g1, ?_⟩
    unfold r_l_row F_l_row DL.run
    simp -implicitDefEqProofs [slots0, enumD, e, em4, hf, flat_ints]
/-! ### the law's number, the law's is_row -/
theorem number3_loop {cs rs : List Int} (h : Cnt cs) (hl : rs.length = cs.length) : ∀ (k : Nat) (s1 s2 : Sl), k ≤ cs.length → ∃ s1' s2', forGo (setN 3) (fSeq (fSet 4 (fVar 2))
      (fSeq (fSet 2 (fOp gMul (fVar 2) (fOp gIx (fVar 0) (fVar 3))))
      (fIfS (fTst (fOp gEq (fOp gMod (fVar 4) (fC (.int 2))) (fC (.int 0)))) (fSet 2 (fOp gAdd (fVar 2) (fOp gIx (fVar 1) (fVar 3)))) (fSet 2 (fOp gSub (fOp gSub (fOp gAdd (fVar 2) (fOp gIx (fVar 0) (fVar 3))) (fC (.int 1))) (fOp gIx (fVar 1) (fVar 3))))))) (rgD ((k : Int) - 1) (-1) k) [.v (.list (ins cs)), .v (.tuple (ins rs)), .v (.int (numC (cs.drop k) (rs.drop k))), s1, s2] = .nx [.v (.list (ins cs)), .v (.tuple (ins rs)), .v (.int (numC cs rs)), s1', s2'] := by
  intro k
  induction k with
  | zero => intro s1 s2 _; exact ⟨s1, s2, by simp [rgD_zero, forGo]⟩
  | succ k ih =>
    intro s1 s2 hk
    have k1 : k < cs.length := by omega
    have k2 : k < rs.length := by omega
    have e1 : ((k + 1 : Nat) : Int) - 1 = k := by omega
    have hc := get_cnt h k1
    have hb : -18446744073709551616 < cs[k] ∧ cs[k] < 18446744073709551616 := by omega
    rw [e1, rgD_succ]
    have hd := num_drop k1 k2
    generalize hn : numC (cs.drop (k + 1)) (rs.drop (k + 1)) = n at hd ⊢
    obtain ⟨s1', s2', e⟩ := ih (.v (.int k)) (.v (.int n)) (by omega)
    refine ⟨s1', s2', ?_⟩
    rw [hd] at e
    unfold flipC at e
    by_cases hf : n % 2 = 0
    · have hf2 : ¬ n % 2 = 1 := by omega
      rw [if_neg hf2] at e
      simp -implicitDefEqProofs [forGo, gIx_t k2, gIx_l k1, hf, hb]
      rw [← e]
      rfl
    · have hf2 : n % 2 = 1 := by omega
      rw [if_pos hf2] at e
      simp -implicitDefEqProofs [forGo, gIx_t k2, gIx_l k1, hf, hb]
      rw [← e, show n * cs[k] + (cs[k] - 1 - rs[k]) = n * cs[k] + cs[k] - 1 - rs[k] by omega]
      rfl
theorem number3_eq {cs rs : List Int} (h : Good cs) (q : IsRow cs rs) : r_l_number3 [.list (ins cs), .tuple (ins rs)] = .ok (.int (numC cs rs)) := by
  unfold r_l_number3 F_l_number3 DL.run
  have hl := isRow_len q
  have hi := h.hi
  obtain ⟨s1, s2, e⟩ := number3_loop h.cnt hl cs.length .un .un (Nat.le_refl _)
  have hb : (cs.length : Int) ≤ BIG := by unfold BIG; omega
  have e3 : numC (cs.drop cs.length) (rs.drop cs.length) = 0 := by rw [List.drop_length]; unfold numC; rfl
  rw [e3] at e
  simp -implicitDefEqProofs [slots0, fRv1, rgr1, hb, e]
theorem l_is_row_loop (t u : Sl) : ∀ (cs rs : List Int) (s1 s2 : Sl), IsRow cs rs → ∃ s1' s2', forGo (setT [2, 3]) (fIfS (fOr (fNot (fTst (fCall r_l_whole (fACons (fVar 2) fANil)))) (fNot (fTst (fChain gLe gLt (fC (.int 0)) (fVar 2) (fVar 3))))) (fRet (fC (.bool false))) (.nx)) (List.zipWith prD (ins rs) (ins cs)) [t, u, s1, s2] = .nx [t, u, s1', s2']
  | [], [], s1, s2, _ => ⟨s1, s2, rfl⟩
  | c :: cs, r :: rs, s1, s2, h => by
    obtain ⟨s1', s2', e⟩ := l_is_row_loop t u cs rs (.v (.int r)) (.v (.int c)) h.2.2
    refine ⟨s1', s2', ?_⟩
    rw [← ins_cons, ← ins_cons, List.zipWith_cons_cons]
    cases t <;> cases u <;> simp -implicitDefEqProofs [forGo, h.1, h.2.1, e]
  | [], _ :: _, _, _, h => h.elim
  | _ :: _, [], _, _, h => h.elim
theorem l_is_row_eq {cs rs : List Int} (h : IsRow cs rs) : r_l_is_row [.tuple (ins rs), .list (ins cs)] = .ok (.bool true) := by
  unfold r_l_is_row F_l_is_row DL.run
  obtain ⟨s1, s2, e⟩ := l_is_row_loop (.v (.tuple (ins rs))) (.v (.list (ins cs))) cs rs .un .un h
  simp -implicitDefEqProofs [slots0, isT, tyN, isRow_len h, zipD, sqD, e]
end DM
set_option Elab.async false
set_option linter.all false
set_option maxRecDepth 100000
set_option maxHeartbeats 1000000
/-! The law k08. -/
namespace DM
open PySem DL
theorem seq_step {A B : List Sl → Fl} {δ δ' : List Sl} {r : R} (h1 : A δ = .nx δ') (h2 : (B δ').toR = r) : (fSeq A B δ).toR = r := by
  rw [fSeq_ap, h1]
  exact h2
theorem ix_l0 {a : D} {l : List D} : gIx (.list (a :: l)) (.int 0) = .ok a := by
  show (match L2.atI (a :: l) ((0 : Nat) : Int) with | some d => R.ok d | none => .bad) = _
  rw [atI_lt (by simp)]
  rfl
theorem ix_l1 {a b : D} {l : List D} : gIx (.list (a :: b :: l)) (.int 1) = .ok b := by
  show (match L2.atI (a :: b :: l) ((1 : Nat) : Int) with | some d => R.ok d | none => .bad) = _
  rw [atI_lt (by simp)]
  rfl
theorem stepC_len {rs : List Int} {j : Nat} {e : Int} : (stepC rs j e).length = rs.length := by unfold stepC; simp
theorem stepC_get {rs : List Int} {j i : Nat} {e : Int} (h : i < rs.length) : (stepC rs j e).getD i 0 = if i = j then rs.getD j 0 + e else rs.getD i 0 := by
  unfold stepC
  by_cases q : i = j
  · subst q
    simp [h]
  · rw [if_neg q]
    simp [List.getElem?_set_ne (Ne.symm q)]
theorem filter_one {n j : Nat} (hj : j < n) (g : Nat → Bool) (hg : ∀ i, i < n → g i = decide (i = j)) : (List.range n).filter g = [j] := by
  have e : (List.range n).filter g = (List.range n).filter fun i => decide (i = j) := List.filter_congr fun i hi => hg i (List.mem_range.mp hi)
  rw [e]
  clear e hg
  induction n with
  | zero => omega
  | succ n ih =>
    rw [List.range_succ, List.filter_append]
    by_cases e : j = n
    · subst e
      have : (List.range j).filter (fun i => decide (i = j)) = [] := by
        rw [List.filter_eq_nil_iff]
        intro i hi
        have := List.mem_range.mp hi
        simp
        omega
      rw [this]
      simp
    · rw [ih (by omega)]
      simp
      omega
theorem unlike_row_lc {S : List Int} {j n : Nat} {e : Int} (hS : S.length = n) (he : e = 1 ∨ e = -1) (hj : j < n) (a b c d f g h : Sl) : lcGo (lcStep (setN 10) (fTst (fOp gNe (fOp gIx (fVar 7) (fVar 10)) (fOp gIx (fVar 8) (fVar 10)))) (fVar 10) [a, b, c, d, f, g, h, .v (.tuple (ins S)), .v (.tuple (ins (stepC S j e))), .un, .un]) (ins ((List.range n).map fun i => ((i : Nat) : Int))) = some [.int j] := by
  subst hS
  rw [lc_range (fun i => !decide (S.getD i 0 = (stepC S j e).getD i 0)) fun i hi => ?_]
  · rw [filter_one hj _ fun i hi => ?_]
    · rfl
    · rw [stepC_get hi]
      by_cases q : i = j
      · subst q
        simp
        omega
      · simp [q]
  · have hi' : i < (stepC S j e).length := by rw [stepC_len]; exact hi
    rw [getD_get hi, getD_get hi']
    simp -implicitDefEqProofs [lcStep, fVar, gIx_t hi, gIx_t hi'] 
    split <;> simp_all
theorem good_set {cs : List Int} (h : Good cs) : Good (cs.set 0 9) := by
  refine ⟨fun c hc => ?_, by simpa using h.lo, by simpa using h.hi⟩
  rcases List.mem_or_eq_of_mem_set hc with q | q
  · exact h.cnt c q
  · omega
theorem row_nine : ∀ {cs rs : List Int}, Cnt cs → IsRow cs rs → IsRow (cs.set 0 9) rs
  | [], [], _, _ => trivial
  | c :: cs, r :: rs, h, q => ⟨q.1, by have := h.head; have := q.2.1; omega, q.2.2⟩
  | [], _ :: _, _, q => q.elim
  | _ :: _, [], _, q => q.elim
theorem rg1_nat {k : Nat} (h : k ≤ 1000000) : rg1 [.int k] = .ok (ins ((List.range k).map fun i => ((i : Nat) : Int))) := by
  have e : rg1 [.int (k : Int)] = if -BIG ≤ (k : Int) ∧ (k : Int) ≤ BIG then .ok (rgD 0 1 (k : Int).toNat) else .bad := rfl
  rw [e, if_pos (by unfold BIG; omega), ← rgD_nat, Int.toNat_natCast]
theorem law_k08 (ns : List Int) : r_law_k08 [scr ns] = .ok (.bool true) := by
  obtain ⟨cs, hc, hc1, hc2, ec⟩ := l_counts_eq ns 0 12 (by decide) (by decide)
  have G : Good cs := ⟨hc, hc1, hc2⟩
  obtain ⟨rs, hr, er⟩ := l_row_eq ns 5 G
  have hp := prodC_pos hc
  have epr := product_eq hc
  have em12 := mixed_at ns (i := 12) 12 rfl
  have em13 := mixed_at ns (i := 13) 13 rfl
  have ec12 := cell_at ns (i := 12) 12 rfl
  generalize hf : prodC cs = far at *
  have i0 := Int.emod_nonneg (ns.getD 12 0 * 1234577 + mixed ns 12 * 40503) (show far ≠ 0 by omega)
  have i1 := Int.emod_lt_of_pos (ns.getD 12 0 * 1234577 + mixed ns 12 * 40503) hp
  have due := number3_eq G hr
  have nin := number_in_eq G hr
  have ndue := numC_nn hc hr
  have ltdue := numC_lt hc hr
  have rdue := row_at_eq G ndue ltdue
  rw [row_num hc hr] at rdue
  have emany := many_eq G
  rw [hf] at emany
  have r0 := row_at_eq G (n := 0) (by omega) (by omega)
  rw [rowC_zero] at r0
  have t0 := tup_rep (m := cs.length) (by omega)
  have z0 := gNe_t (ns := List.replicate cs.length 0) (ms := List.replicate cs.length 0)
  have z1 := gNe_t (ns := rs) (ms := rs)
  have z2 := gNe_l (ns := cs) (ms := cs)
  rw [decide_eq_true rfl] at z0 z1 z2
  have G9 := good_set G
  have fin : ∀ n, 0 ≤ n → n < far → (fSeq (fSetO 5 (fCall gList (fACons (fVar 1) fANil)))
    (fSeq (fIfS (fOr (fNot (fTst (fCall r_l_whole (fACons (fCall r_c_many (fACons (fVar 5) fANil)) fANil)))) (fOr (fTst (fOp gNe (fCall r_c_many (fACons (fVar 5) fANil)) (fVar 3))) (fTst (fOp gNe (fCall r_c_row_at (fACons (fVar 5) (fACons (fC (.int 0)) fANil))) (fOp gMul (fTup (fACons (fC (.int 0)) fANil)) (fCall gLen (fACons (fVar 1) fANil))))))) (fRet (fC (.bool false))) (.nx))
    (fSeq (fSet 6 (fCall r_l_number3 (fACons (fVar 1) (fACons (fVar 2) fANil))))
    (fSeq (fIfS (fOr (fNot (fTst (fCall r_l_whole (fACons (fCall r_c_number_in (fACons (fVar 5) (fACons (fVar 2) fANil))) fANil)))) (fOr (fTst (fOp gNe (fCall r_c_number_in (fACons (fVar 5) (fACons (fVar 2) fANil))) (fVar 6))) (fTst (fOp gNe (fCall r_c_row_at (fACons (fVar 5) (fACons (fVar 6) fANil))) (fVar 2))))) (fRet (fC (.bool false))) (.nx))
    (fSeq (fSetB 7 (fCall r_c_row_at (fACons (fVar 5) (fACons (fVar 4) fANil))))
    (fSeq (fIfS (fOr (fNot (fTst (fCall r_l_is_row (fACons (fVar 7) (fACons (fVar 1) fANil))))) (fOr (fTst (fOp gNe (fCall r_c_number_in (fACons (fVar 5) (fACons (fVar 7) fANil))) (fVar 4))) (fTst (fOp gNe (fVar 5) (fVar 1))))) (fRet (fC (.bool false))) (.nx))
    (fSeq (fIfS (fTst (fOp gLt (fOp gAdd (fVar 4) (fC (.int 1))) (fVar 3))) (fSeq (fSetB 8 (fCall r_c_row_at (fACons (fVar 5) (fACons (fOp gAdd (fVar 4) (fC (.int 1))) fANil))))
      (fSeq (fSet 9 (fLc (fRg rg1 (fACons (fCall gLen (fACons (fVar 1) fANil)) fANil)) (setN 10) (fTst (fOp gNe (fOp gIx (fVar 7) (fVar 10)) (fOp gIx (fVar 8) (fVar 10)))) (fVar 10) [10]))
      (fSeq (fIfS (fOr (fNot (fTst (fCall r_l_is_row (fACons (fVar 8) (fACons (fVar 1) fANil))))) (fTst (fOp gNe (fCall gLen (fACons (fVar 9) fANil)) (fC (.int 1))))) (fRet (fC (.bool false))) (.nx))
      (fIfS (fTst (fOp gNe (fCall gAbs (fACons (fOp gSub (fOp gIx (fVar 7) (fOp gIx (fVar 9) (fC (.int 0)))) (fOp gIx (fVar 8) (fOp gIx (fVar 9) (fC (.int 0))))) fANil)) (fC (.int 1)))) (fRet (fC (.bool false))) (.nx))))) (.nx))
    (fSeq (fPut 5 (fC (.int 0)) (fC (.int 9)))
    (fRetB (fAnd (fOp gEq (fCall r_c_row_at (fACons (fVar 1) (fACons (fVar 4) fANil))) (fVar 7)) (fOp gEq (fCall r_c_number_in (fACons (fVar 5) (fACons (fVar 7) fANil))) (fCall r_l_number3 (fACons (fVar 5) (fACons (fVar 7) fANil))))))))))))) [.v (scr ns), .v (.list (ins cs)), .v (.tuple (ins rs)), .v (.int far), .v (.int n), .un, .un, .un, .un, .un, .un]).toR = .ok (.bool true) := by
    intro n n0 n1
    have hrn := rowC_row n hc
    have fnd := row_at_eq G n0 (by omega)
    have isr := l_is_row_eq hrn
    have nfn := number_in_eq G hrn
    rw [num_row hc n0 (by omega)] at nfn
    have n9 := number_in_eq G9 (row_nine hc hrn)
    have l9 := number3_eq G9 (row_nine hc hrn)
    have z3 := gEq_t (ns := rowC cs n) (ms := rowC cs n)
    rw [decide_eq_true rfl] at z3
    have hln := rowC_len cs n
    have fl := flat_ints (rowC cs n)
    have e9 : (ins cs).set 0 (.int 9) = ins (cs.set 0 9) := by unfold ins; rw [List.map_set]
    have i9 : L2.ixN cs.length 0 = some 0 := by
      unfold L2.ixN
      rw [if_pos (by omega), if_pos (by omega)]
      rfl
    by_cases hlt : n + 1 < far
    · obtain ⟨j, e, hj, he, q⟩ := row_step hc n0 (by omega)
      have fnd2 := row_at_eq G (n := n + 1) (by omega) (by omega)
      have isr2 := l_is_row_eq (rowC_row (n + 1) hc)
      have fl2 := flat_ints (rowC cs (n + 1))
      have hu := unlike_row_lc hln he hj (.v (scr ns)) (.v (.list (ins cs))) (.v (.tuple (ins rs))) (.v (.int far)) (.v (.int n)) (.own (ins cs)) (.v (.int (numC cs rs)))
      have gj : gIx (.list [.int (j : Int)]) (.int 0) = .ok (.int j) := ix_l0
      rw [q] at fnd2 isr2 fl2
      have g1 : gIx (.tuple (ins (rowC cs n))) (.int j) = .ok (.int ((rowC cs n).getD j 0)) := by rw [gIx_t (by omega), getD_get]
      have g2 : gIx (.tuple (ins (stepC (rowC cs n) j e))) (.int j) = .ok (.int ((rowC cs n).getD j 0 + e)) := by rw [gIx_t (by rw [stepC_len]; omega), ← getD_get, stepC_get (by omega), if_pos rfl]
      generalize rowC cs n = S at *
      generalize stepC S j e = T at *
      have ab : (if S.getD j 0 - (S.getD j 0 + e) < 0 then -(S.getD j 0 - (S.getD j 0 + e)) else S.getD j 0 - (S.getD j 0 + e)) = 1 := by
        rcases he with q | q <;> rw [q] <;> split <;> omega
      generalize S.getD j 0 = y at g1 g2 ab
      simp -implicitDefEqProofs [emany, r0, t0, z0, z1, z2, z3, due, nin, rdue, fnd, isr, nfn, n9, l9, fl, hlt, fnd2, isr2, fl2, rg1_nat (show cs.length ≤ 1000000 by omega), wipeD, fPut, e9, i9, LIMn (show cs.length ≤ 100000 by omega)]
      rw [hu]
      simp -implicitDefEqProofs [isr2, gj, g1, g2, ab, fPut, e9, i9, fnd, z3, n9, l9]
    · simp -implicitDefEqProofs [emany, r0, t0, z0, z1, z2, z3, due, nin, rdue, fnd, isr, nfn, n9, l9, fl, hlt, fPut, e9, i9]
  have c12 : 1 ≤ 12 := by decide
  have hm20 : 0 < (if 20 < far then (20 : Int) else far) := by split <;> omega
  have key : ∀ x : Int, 0 ≤ x → x < far → 0 ≤ x % (if 20 < far then (20 : Int) else far) ∧ x % (if 20 < far then (20 : Int) else far) < far := fun x h0 h1 => by
    have a := Int.emod_nonneg x (show (if 20 < far then (20 : Int) else far) ≠ 0 by omega)
    have b := Int.emod_lt_of_pos x hm20
    refine ⟨a, ?_⟩
    by_cases h20 : 20 < far
    · rw [if_pos h20] at b ⊢; omega
    · rw [if_neg h20] at b ⊢; omega
  have kk := key _ i0 i1
  have m2 : mixed ns 13 % 2 = 0 ∨ mixed ns 13 % 2 = 1 := by omega
  have ec' : r_l_counts [scr ns, .int 0, .int 12] = .new (ins cs) := ec
  have er' : r_l_row [scr ns, .int 5, .list (ins cs)] = .ok (.tuple (ins rs)) := er
  have e0 : r_law_k08 [scr ns] = (F_law_k08 [.v (scr ns), .un, .un, .un, .un, .un, .un, .un, .un, .un, .un]).toR := rfl
  rw [e0]
  unfold F_law_k08
  refine seq_step (δ' := [.v (scr ns), .v (.list (ins cs)), .un, .un, .un, .un, .un, .un, .un, .un, .un]) (by simp -implicitDefEqProofs [ec']) ?_
  refine seq_step (δ' := [.v (scr ns), .v (.list (ins cs)), .v (.tuple (ins rs)), .un, .un, .un, .un, .un, .un, .un, .un]) (by simp -implicitDefEqProofs [er']) ?_
  refine seq_step (δ' := [.v (scr ns), .v (.list (ins cs)), .v (.tuple (ins rs)), .v (.int far), .un, .un, .un, .un, .un, .un, .un]) (by simp -implicitDefEqProofs [epr]) ?_
  refine seq_step (δ' := [.v (scr ns), .v (.list (ins cs)), .v (.tuple (ins rs)), .v (.int far), .v (.int ((ns.getD 12 0 * 1234577 + mixed ns 12 * 40503) % far)), .un, .un, .un, .un, .un, .un]) (by simp -implicitDefEqProofs [ec12, em12, hp]) ?_
  generalize (ns.getD 12 0 * 1234577 + mixed ns 12 * 40503) % far = x at i0 i1 kk
  by_cases c1 : mixed ns 13 % 4 < 2
  · rcases m2 with c2 | c2
    · exact seq_step (by simp -implicitDefEqProofs [em13, c1, c2, hm20, ix_l0, ix_l1]) (fin _ kk.1 kk.2)
    · exact seq_step (by simp -implicitDefEqProofs [em13, c1, c2, hm20, ix_l0, ix_l1]) (fin (far - 1 - x % (if 20 < far then 20 else far)) (by omega) (by omega))
  · exact seq_step (by simp -implicitDefEqProofs [em13, c1]) (fin _ i0 i1)
end DM
set_option Elab.async false
set_option linter.all false
set_option maxRecDepth 100000
set_option maxHeartbeats 1000000
/-! Moves and ways of chests. -/
namespace DM
open PySem DL
@[simp low] theorem thaw_cons {s : Sl} {δ : List Sl} : thaw (s :: δ) = thaw1 s :: thaw δ := rfl
def prI (p : Int × Int) : D := prD (.int p.1) (.int p.2)
def fd : List Int → List Int → Int → Int × Int
  | x :: S, y :: T, i => if x = y then fd S T (i + 1) else (i, y - x)
  | _, _, _ => (0, 0)
theorem fd_step : ∀ {S : List Int} {j : Nat} {e i : Int}, j < S.length → e ≠ 0 → fd S (stepC S j e) i = (i + j, e)
  | [], _, _, _, h, _ => absurd h (by simp)
  | x :: S, 0, e, i, _, he => by
    unfold stepC
    simp [fd]
    have : ¬ x = x + e := by omega
    simp [this]
    omega
  | x :: S, j + 1, e, i, h, he => by
    have ih := fd_step (S := S) (j := j) (e := e) (i := i + 1) (by simpa using h) he
    unfold stepC at ih ⊢
    simp [fd] at ih ⊢
    rw [ih]
    have : i + 1 + (j : Int) = i + (j + 1) := by omega
    rw [this]
theorem move_loop {S T : List Int} (hl : T.length = S.length) : ∀ (m lo : Nat) (s : Sl), lo + m = S.length → (forGo (setN 2) (fIfS (fTst (fOp gNe (fOp gIx (fVar 0) (fVar 2)) (fOp gIx (fVar 1) (fVar 2)))) (fRet (fTup (fACons (fVar 2) (fACons (fOp gSub (fOp gIx (fVar 1) (fVar 2)) (fOp gIx (fVar 0) (fVar 2))) fANil)))) (.nx)) (rgD lo 1 m) [.v (.tuple (ins S)), .v (.tuple (ins T)), s]).andThen (fRet (fTup (fACons (fC (.int 0)) (fACons (fC (.int 0)) fANil)))) = .rt (prI (fd (S.drop lo) (T.drop lo) lo)) := by
  intro m
  induction m with
  | zero =>
    intro lo s h
    rw [rgD_zero, List.drop_eq_nil_of_le (by omega)]
    simp -implicitDefEqProofs [forGo, fd, prI, prD]
  | succ m ih =>
    intro lo s h
    have k1 : lo < S.length := by omega
    have k2 : lo < T.length := by omega
    have e := ih (lo + 1) (.v (.int lo)) (by omega)
    have e2 : ((lo + 1 : Nat) : Int) = (lo : Int) + 1 := by omega
    rw [e2] at e
    rw [rgD_succ, (List.getElem_cons_drop k1).symm, (List.getElem_cons_drop k2).symm, fd]
    by_cases q : S[lo] = T[lo]
    · rw [if_pos q]
      simp -implicitDefEqProofs [forGo, gIx_t k1, gIx_t k2, q]
      exact e
    · rw [if_neg q]
      simp -implicitDefEqProofs [forGo, gIx_t k1, gIx_t k2, q, prI, prD]
theorem move_between_eq {S T : List Int} (hl : T.length = S.length) (h : S.length ≤ 1000) : r_c_move_between [.tuple (ins S), .tuple (ins T)] = .ok (prI (fd S T 0)) := by
  have e := move_loop hl S.length 0 .un (by omega)
  rw [List.drop_zero, List.drop_zero, show ((0 : Nat) : Int) = 0 from rfl] at e
  have hb : -BIG ≤ (S.length : Int) ∧ (S.length : Int) ≤ BIG := by unfold BIG; omega
  have e0 : r_c_move_between [.tuple (ins S), .tuple (ins T)] = (F_c_move_between [.v (.tuple (ins S)), .v (.tuple (ins T)), .un]).toR := rfl
  rw [e0]
  unfold F_c_move_between
  rw [fSeq_ap, fFor_ap]
  have e1 : fRg rg1 (fACons (fCall gLen (fACons (fVar 0) fANil)) fANil) [.v (.tuple (ins S)), .v (.tuple (ins T)), .un] = .ok (rgD 0 1 S.length) := by
    simp -implicitDefEqProofs [rg1, hb]
  rw [e1]
  simp only []
  rw [e]
  rfl
/-- the moves from number a on, m of them, up (s = 1) or down (s = -1) -/
def mvs (cs : List Int) (s : Int) : Int → Nat → List (Int × Int)
  | _, 0 => []
  | a, m + 1 => fd (rowC cs a) (rowC cs (a + s)) 0 :: mvs cs s (a + s) m
theorem stepC_back {S : List Int} {j : Nat} {e : Int} (h : j < S.length) : stepC (stepC S j e) j (-e) = S := by
  unfold stepC
  apply List.ext_getElem
  · simp
  · intro i h1 h2
    simp
    by_cases q : i = j
    · subst q
      simp [h]
      omega
    · rw [List.getElem_set_ne (Ne.symm q)]
theorem mv_step {cs : List Int} (h : Cnt cs) {a s : Int} (hs : s = 1 ∨ s = -1) (a0 : 0 ≤ a) (a1 : a < prodC cs) (b0 : 0 ≤ a + s) (b1 : a + s < prodC cs) : ∃ (j : Nat) (e : Int), j < cs.length ∧ (e = 1 ∨ e = -1) ∧ rowC cs (a + s) = stepC (rowC cs a) j e ∧ fd (rowC cs a) (rowC cs (a + s)) 0 = ((j : Int), e) ∧ fd (rowC cs (a + s)) (rowC cs a) 0 = ((j : Int), -e) := by
  have key : ∀ (S T : List Int) (j : Nat) (e : Int), j < S.length → e ≠ 0 → T = stepC S j e → fd S T 0 = ((j : Int), e) ∧ fd T S 0 = ((j : Int), -e) := fun S T j e hj he q => by
    have b := stepC_back (e := e) hj
    have l : (stepC S j e).length = S.length := stepC_len
    have f1 := fd_step (i := 0) hj he
    have f2 := fd_step (S := stepC S j e) (j := j) (e := -e) (i := 0) (by omega) (by omega)
    rw [b] at f2
    rw [q, f1, f2]
    simp
  rcases hs with rfl | rfl
  · obtain ⟨j, e, hj, he, q⟩ := row_step h a0 b1
    have f := key _ _ j e (by rw [rowC_len]; exact hj) (by omega) q
    exact ⟨j, e, hj, he, q, f.1, f.2⟩
  · obtain ⟨j, e, hj, he, q⟩ := row_step h b0 (by omega)
    have q' : rowC cs a = stepC (rowC cs (a + -1)) j e := by rw [← q]; congr 1; omega
    have f := key _ _ j e (by rw [rowC_len]; exact hj) (by omega) q'
    refine ⟨j, -e, hj, by omega, ?_, f.2, by rw [Int.neg_neg]; exact f.1⟩
    rw [q']
    exact (stepC_back (by rw [rowC_len]; exact hj)).symm
theorem mvs_snoc (cs : List Int) (s : Int) : ∀ (m : Nat) (a : Int), mvs cs s a (m + 1) = mvs cs s a m ++ [fd (rowC cs (a + s * m)) (rowC cs (a + s * (m + 1))) 0]
  | 0, a => by simp [mvs]
  | m + 1, a => by
    rw [mvs, mvs_snoc cs s m (a + s), mvs, List.cons_append]
    have e1 : a + s + s * (m : Int) = a + s * ((m + 1 : Nat) : Int) := by
      have : ((m + 1 : Nat) : Int) = (m : Int) + 1 := by omega
      rw [this]; simp only [Int.mul_add, Int.mul_one]; omega
    have e2 : a + s + s * ((m : Int) + 1) = a + s * (((m + 1 : Nat) : Int) + 1) := by
      have : ((m + 1 : Nat) : Int) = (m : Int) + 1 := by omega
      rw [this]; simp only [Int.mul_add, Int.mul_one]; omega
    rw [e1, e2]
def negP (p : Int × Int) : Int × Int := (p.1, 0 - p.2)
theorem mvs_back {cs : List Int} (h : Cnt cs) {s : Int} (hs : s = 1 ∨ s = -1) : ∀ (m : Nat) (a : Int), 0 ≤ a → a < prodC cs → 0 ≤ a + s * m → a + s * m < prodC cs → mvs cs (-s) (a + s * m) m = (mvs cs s a m).reverse.map negP
  | 0, _, _, _, _, _ => rfl
  | m + 1, a, a0, a1, b0, b1 => by
    have e3 : ((m + 1 : Nat) : Int) = (m : Int) + 1 := by omega
    rw [e3] at b0 b1 ⊢
    have e1 : a + s * ((m : Int) + 1) + -s = a + s * m := by rw [Int.mul_add, Int.mul_one]; omega
    have c0 : 0 ≤ a + s * m ∧ a + s * m < prodC cs := by
      rw [Int.mul_add, Int.mul_one] at b0 b1
      rcases hs with rfl | rfl <;> omega
    have ih := mvs_back h hs m a a0 a1 c0.1 c0.2
    have e2 : a + s * ((m : Int) + 1) = a + s * m + s := by rw [Int.mul_add, Int.mul_one]; omega
    obtain ⟨j, e, _, _, _, f1, f2⟩ := mv_step h hs c0.1 c0.2 (by rw [← e2]; exact b0) (by rw [← e2]; exact b1)
    rw [mvs_snoc cs s m a, List.reverse_append, List.map_append, mvs, e1, ih, e2, f1, f2]
    simp [negP]
end DM
set_option Elab.async false
set_option linter.all false
set_option maxRecDepth 100000
set_option maxHeartbeats 1000000
namespace DM
open PySem DL
theorem need_most_eq {M : Nat} (h : M ≤ 1000) : r_b_need_most [.int M] = .ok .none := by
  unfold r_b_need_most F_b_need_most DL.run
  have h2 : (M : Int) ≤ 1000 := by omega
  simp -implicitDefEqProofs [slots0, h2]
theorem mvs_len (cs : List Int) (s : Int) : ∀ (m : Nat) (a : Int), (mvs cs s a m).length = m
  | 0, _ => rfl
  | m + 1, a => by rw [mvs, List.length_cons, mvs_len]
theorem moves_loop {cs : List Int} (G : Good cs) {s : Int} (hs : s = 1 ∨ s = -1) (w : Sl) (M : Nat) (hM : M ≤ 1000) (b : Int) (n : Nat) : ∀ (r k : Nat) (a : Int) (acc : List (Int × Int)) (s7 : Sl), b = a + s * k → r = min k (M - acc.length) → 0 ≤ a → a < prodC cs → 0 ≤ b → b < prodC cs → ∃ s1' s4' s7',
    whGo (fAnd (fTst (fOp gNe (fVar 4) (fVar 5))) (fTst (fOp gLt (fCall gLen (fACons (fVar 6) fANil)) (fVar 3)))) (fSeq (fSet 4 (fOp gAdd (fVar 4) (fIf (fTst (fOp gLt (fVar 4) (fVar 5))) (fC (.int 1)) (fNeg (fC (.int 1))))))
      (fSeq (fSet 7 (fCall r_c_row_by (fACons (fVar 0) (fACons (fVar 4) fANil))))
      (fSeq (fApp 6 (fCall r_c_move_between (fACons (fVar 1) (fACons (fVar 7) fANil))))
      (fSet 1 (fVar 7))))) (n + r + 1) [.v (.list (ins cs)), .v (.tuple (ins (rowC cs a))), w, .v (.int M), .v (.int a), .v (.int b), .own (acc.map prI), s7] = .nx [.v (.list (ins cs)), s1', w, .v (.int M), s4', .v (.int b), .own ((acc ++ mvs cs s a r).map prI), s7'] := by
  intro r
  induction r with
  | zero =>
    intro k a acc s7 hb hr a0 a1 b0 b1
    refine ⟨.v (.tuple (ins (rowC cs a))), .v (.int a), s7, ?_⟩
    rw [show n + 0 + 1 = n + 1 from rfl, whGo, show acc ++ mvs cs s a 0 = acc by simp [mvs]]
    by_cases hk : k = 0
    · subst hk
      have e : a = b := by rw [hb]; simp
      subst e
      simp -implicitDefEqProofs
    · have e : ¬ a = b := by
        rw [hb]
        rcases hs with rfl | rfl <;> omega
      have e2 : ¬ (acc.length : Int) < (M : Int) := by omega
      have e3 : ¬ acc.length < M := by omega
      simp -implicitDefEqProofs [e, e2, e3]
  | succ r ih =>
    intro k a acc s7 hb hr a0 a1 b0 b1
    obtain ⟨k, rfl⟩ : ∃ k', k = k' + 1 := ⟨k - 1, by omega⟩
    have ek : ((k + 1 : Nat) : Int) = (k : Int) + 1 := by omega
    rw [ek, Int.mul_add, Int.mul_one] at hb
    have hl : acc.length < M := by omega
    have hl2 : (acc.length : Int) < (M : Int) := by omega
    have hne : ¬ a = b := by
      rw [hb]
      rcases hs with rfl | rfl <;> omega
    have c0 : 0 ≤ a + s ∧ a + s < prodC cs := by rcases hs with rfl | rfl <;> omega
    have hstep : (if a < b then R.ok (.int 1) else R.ok (.int (-1))) = R.ok (.int s) := by
      rcases hs with rfl | rfl
      · rw [if_pos (by omega)]
      · rw [if_neg (by omega)]
    have er := row_by_eq G c0.1
    have em := move_between_eq (S := rowC cs a) (T := rowC cs (a + s)) (by rw [rowC_len, rowC_len]) (by rw [rowC_len]; have := G.hi; omega)
    obtain ⟨s1', s4', s7', e⟩ := ih k (a + s) (acc ++ [fd (rowC cs a) (rowC cs (a + s)) 0]) (.v (.tuple (ins (rowC cs (a + s))))) (by rw [hb]; omega) (by simp; omega) c0.1 c0.2 b0 b1
    refine ⟨s1', s4', s7', ?_⟩
    have hL : acc.length < LIM := by unfold LIM; omega
    rw [mvs, List.append_cons]
    rw [List.map_append] at e
    rw [show n + (r + 1) + 1 = (n + r + 1) + 1 by omega, whGo]
    simp -implicitDefEqProofs [hne, hl, hl2, hstep, er, em, fApp, hL]
    simpa using e
theorem moves_between_eq {cs R1 R2 : List Int} (G : Good cs) (h1 : IsRow cs R1) (h2 : IsRow cs R2) {M : Nat} (hM : M ≤ 1000) {s : Int} (hs : s = 1 ∨ s = -1) {k : Nat} (hk : numC cs R2 = numC cs R1 + s * k) :
    r_c_moves_between [.list (ins cs), .tuple (ins R1), .tuple (ins R2), .int M] = .new ((mvs cs s (numC cs R1) (min k M)).map prI) := by
  have n1 := number_by_eq G h1
  have n2 := number_by_eq G h2
  have e1 := row_num G.cnt h1
  obtain ⟨s1, s4, s7, e⟩ := moves_loop G hs (.v (.tuple (ins R2))) M hM (numC cs R2) (fuel - (min k M + 1)) (min k M) k (numC cs R1) [] .un hk (by simp) (numC_nn G.cnt h1) (numC_lt G.cnt h1) (numC_nn G.cnt h2) (numC_lt G.cnt h2)
  rw [e1] at e
  have hf : fuel - (min k M + 1) + min k M + 1 = fuel := by unfold fuel; omega
  rw [hf, List.nil_append, List.map_nil] at e
  have e0 : r_c_moves_between [.list (ins cs), .tuple (ins R1), .tuple (ins R2), .int M] = (F_c_moves_between [.v (.list (ins cs)), .v (.tuple (ins R1)), .v (.tuple (ins R2)), .v (.int M), .un, .un, .un, .un]).toR := rfl
  rw [e0]
  unfold F_c_moves_between
  refine seq_step (δ' := [.v (.list (ins cs)), .v (.tuple (ins R1)), .v (.tuple (ins R2)), .v (.int M), .v (.int (numC cs R1)), .un, .un, .un]) (by simp -implicitDefEqProofs [n1]) ?_
  refine seq_step (δ' := [.v (.list (ins cs)), .v (.tuple (ins R1)), .v (.tuple (ins R2)), .v (.int M), .v (.int (numC cs R1)), .v (.int (numC cs R2)), .un, .un]) (by simp -implicitDefEqProofs [n2]) ?_
  refine seq_step (δ' := [.v (.list (ins cs)), .v (.tuple (ins R1)), .v (.tuple (ins R2)), .v (.int M), .v (.int (numC cs R1)), .v (.int (numC cs R2)), .own [], .un]) (by simp -implicitDefEqProofs) ?_
  exact seq_step e (by simp -implicitDefEqProofs)
theorem way_in_eq {cs R1 R2 : List Int} (G : Good cs) (h1 : IsRow cs R1) (h2 : IsRow cs R2) {M : Nat} (hM : M ≤ 1000) {s : Int} (hs : s = 1 ∨ s = -1) {k : Nat} (hk : numC cs R2 = numC cs R1 + s * k) :
    r_c_way_in [.list (ins cs), .tuple (ins R1), .tuple (ins R2), .int M] = .new ((mvs cs s (numC cs R1) (min k M)).map prI) := by
  unfold r_c_way_in F_c_way_in DL.run
  simp -implicitDefEqProofs [slots0, need_row_eq G h1, need_row_eq G h2, need_most_eq hM, moves_between_eq G h1 h2 hM hs hk]
/-! ### where moves lead -/
theorem ix_t0 {a : D} {l : List D} : gIx (.tuple (a :: l)) (.int 0) = .ok a := by
  show (match L2.atI (a :: l) ((0 : Nat) : Int) with | some d => R.ok d | none => .bad) = _
  rw [atI_lt (by simp)]
  rfl
theorem ix_t1 {a b : D} {l : List D} : gIx (.tuple (a :: b :: l)) (.int 1) = .ok b := by
  show (match L2.atI (a :: b :: l) ((1 : Nat) : Int) with | some d => R.ok d | none => .bad) = _
  rw [atI_lt (by simp)]
  rfl
theorem stepC_cut {S : List Int} {j : Nat} {e : Int} (h : j < S.length) : ins (S.take j) ++ [.int (S.getD j 0 + e)] ++ ins (S.drop (j + 1)) = ins (stepC S j e) := by
  have e1 : ([.int (S.getD j 0 + e)] : List D) = ins [S.getD j 0 + e] := rfl
  rw [e1, app_ins, app_ins]
  unfold stepC
  rw [List.set_eq_take_append_cons_drop, if_pos h, List.append_assoc]
  rfl
theorem gone_loop {cs : List Int} (G : Good cs) {s : Int} (hs : s = 1 ∨ s = -1) (w : Sl) : ∀ (m : Nat) (a : Int) (s5 : Sl), 0 ≤ a → a < prodC cs → 0 ≤ a + s * m → a + s * m < prodC cs → ∃ s4' s5',
    forGo (setN 5) (fSeq (fIfS (fOr (fNot (fTst (fIsi "tuple" (fVar 5)))) (fOr (fTst (fOp gNe (fCall gLen (fACons (fVar 5) fANil)) (fC (.int 2)))) (fOr (fNot (fTst (fCall r_l_whole (fACons (fOp gIx (fVar 5) (fC (.int 0))) fANil)))) (fNot (fTst (fCall r_l_whole (fACons (fOp gIx (fVar 5) (fC (.int 1))) fANil))))))) (fRet (fC .none)) (.nx))
      (fSeq (fIfS (fOr (fNot (fTst (fChain gLe gLt (fC (.int 0)) (fOp gIx (fVar 5) (fC (.int 0))) (fCall gLen (fACons (fVar 0) fANil))))) (fTst (fOp gNe (fCall gAbs (fACons (fOp gIx (fVar 5) (fC (.int 1))) fANil)) (fC (.int 1))))) (fRet (fC .none)) (.nx))
      (fSeq (fSet 1 (fOp gAdd (fOp gAdd (fSl (fVar 1) (fun _ => .ok none) (fPart (fOp gIx (fVar 5) (fC (.int 0))))) (fTup (fACons (fOp gAdd (fOp gIx (fVar 1) (fOp gIx (fVar 5) (fC (.int 0)))) (fOp gIx (fVar 5) (fC (.int 1)))) fANil))) (fSl (fVar 1) (fPart (fOp gAdd (fOp gIx (fVar 5) (fC (.int 0))) (fC (.int 1)))) (fun _ => .ok none))))
      (fSeq (fSet 4 (fOp gAdd (fVar 4) (fVar 3)))
      (fIfS (fOr (fNot (fTst (fCall r_l_is_row (fACons (fVar 1) (fACons (fVar 0) fANil))))) (fTst (fOp gNe (fCall r_l_number3 (fACons (fVar 0) (fACons (fVar 1) fANil))) (fVar 4)))) (fRet (fC .none)) (.nx)))))) ((mvs cs s a m).map prI) [.v (.list (ins cs)), .v (.tuple (ins (rowC cs a))), w, .v (.int s), .v (.int a), s5] = .nx [.v (.list (ins cs)), .v (.tuple (ins (rowC cs (a + s * m)))), w, .v (.int s), s4', s5'] := by
  intro m
  induction m with
  | zero => intro a s5 _ _ _ _; exact ⟨.v (.int a), s5, by simp [mvs, forGo]⟩
  | succ m ih =>
    intro a s5 a0 a1 b0 b1
    have e3 : ((m + 1 : Nat) : Int) = (m : Int) + 1 := by omega
    rw [e3, Int.mul_add, Int.mul_one] at b0 b1
    have c0 : 0 ≤ a + s ∧ a + s < prodC cs := by rcases hs with rfl | rfl <;> omega
    obtain ⟨j, e, hj, he, q, f1, _⟩ := mv_step G.cnt hs a0 a1 c0.1 c0.2
    obtain ⟨s4', s5', r⟩ := ih (a + s) (.v (prI ((j : Int), e))) c0.1 c0.2 (by omega) (by omega)
    refine ⟨s4', s5', ?_⟩
    have hr := rowC_row (a + s) G.cnt
    have lr := l_is_row_eq hr
    have l3 := number3_eq G hr
    rw [num_row G.cnt c0.1 c0.2] at l3
    rw [mvs, f1, List.map_cons]
    have e4 : a + s + s * (m : Int) = a + s * ((m + 1 : Nat) : Int) := by rw [e3, Int.mul_add, Int.mul_one]; omega
    rw [e4] at r
    have hS := rowC_len cs a
    have hjS : j < (rowC cs a).length := by omega
    have hi := G.hi
    rw [q] at r lr l3
    generalize rowC cs a = S at *
    have cut := stepC_cut (e := e) hjS
    generalize stepC S j e = T at *
    have h0 : (j : Int) < (cs.length : Int) := by omega
    have gj := gIx_t hjS
    rw [← getD_get hjS] at gj
    have ab : (if e < 0 then -e else e) = 1 := by rcases he with rfl | rfl <;> rfl
    have ct := cutD_take (ins S) j
    have cd := cutD_drop (ins S) (j + 1)
    have e5 : ((j + 1 : Nat) : Int) = (j : Int) + 1 := by omega
    rw [e5] at cd
    rw [take_ins] at ct
    rw [drop_ins] at cd
    have k1 := cat_t (xs := ins (S.take j)) (ys := [.int (S.getD j 0 + e)]) (by rw [ints_length]; simp; omega)
    have k2 := cat_t (xs := ins (S.take j) ++ [.int (S.getD j 0 + e)]) (ys := ins (S.drop (j + 1))) (by simp; omega)
    rw [cut] at k2
    generalize S.getD j 0 = y at *
    rw [forGo]
    simp -implicitDefEqProofs [prI, prD, isT, tyN, ix_t0, ix_t1, h0, hj, ab, gj, ct, cd, k1, k2, lr, l3]
    exact r
theorem gone2_eq {cs R1 : List Int} (G : Good cs) (h1 : IsRow cs R1) {s : Int} (hs : s = 1 ∨ s = -1) (m : Nat) (b0 : 0 ≤ numC cs R1 + s * m) (b1 : numC cs R1 + s * m < prodC cs) :
    r_l_gone2 [.list (ins cs), .tuple (ins R1), .list ((mvs cs s (numC cs R1) m).map prI), .int s] = .ok (.tuple (ins (rowC cs (numC cs R1 + s * m)))) := by
  have n1 := number3_eq G h1
  have e1 := row_num G.cnt h1
  obtain ⟨s4, s5, e⟩ := gone_loop G hs (.v (.list ((mvs cs s (numC cs R1) m).map prI))) m (numC cs R1) .un (numC_nn G.cnt h1) (numC_lt G.cnt h1) b0 b1
  rw [e1] at e
  have e0 : r_l_gone2 [.list (ins cs), .tuple (ins R1), .list ((mvs cs s (numC cs R1) m).map prI), .int s] = (F_l_gone2 [.v (.list (ins cs)), .v (.tuple (ins R1)), .v (.list ((mvs cs s (numC cs R1) m).map prI)), .v (.int s), .un, .un]).toR := rfl
  rw [e0]
  unfold F_l_gone2
  refine seq_step (δ' := [.v (.list (ins cs)), .v (.tuple (ins R1)), .v (.list ((mvs cs s (numC cs R1) m).map prI)), .v (.int s), .v (.int (numC cs R1)), .un]) (by simp -implicitDefEqProofs [n1]) ?_
  exact seq_step (by rw [fFor_ap]; simp only [fSeqI_ap, fVar_s, fVar_z, to2_ok, seqD_l]; exact e) (by simp -implicitDefEqProofs)
end DM
set_option Elab.async false
set_option linter.all false
set_option maxRecDepth 100000
set_option maxHeartbeats 1000000
/-! The law k11. -/
namespace DM
open PySem DL
mutual
theorem eqv_self : ∀ d : D, PyData.plain d = true → PyData.eqv d d = true
  | .none, _ => by simp [PyData.eqv]
  | .bool b, _ => by cases b <;> simp [PyData.eqv]
  | .int i, _ => by simp [PyData.eqv]
  | .str z, _ => by simp [PyData.eqv]
  | .list ds, h => by
    rw [PyData.plain] at h
    rw [PyData.eqv]
    exact eqvAll_self ds h
  | .tuple ds, h => by
    rw [PyData.plain] at h
    rw [PyData.eqv]
    exact eqvAll_self ds h
  | .dict _, h => by rw [PyData.plain] at h; cases h
theorem eqvAll_self : ∀ ds : List D, PyData.plainAll ds = true → PyData.eqvAll ds ds = true
  | [], _ => by simp [PyData.eqvAll]
  | d :: ds, h => by
    rw [PyData.plainAll, Bool.and_eq_true] at h
    rw [PyData.eqvAll, eqv_self d h.1, eqvAll_self ds h.2]
    rfl
end
theorem gNe_self {d : D} (h : cmpb d = true) : gNe d d = .ok (.bool false) := by
  unfold gNe
  rw [if_pos ⟨h, h⟩, eqv_self d (cmpb_parts h).1]
  rfl
theorem gEq_self {d : D} (h : cmpb d = true) : gEq d d = .ok (.bool true) := by
  unfold gEq
  rw [if_pos ⟨h, h⟩, eqv_self d (cmpb_parts h).1]
theorem cmpb_mk {ds : List D} (h1 : PyData.plainAll ds = true) (h2 : PyData.depthAll ds ≤ 50) : cmpb (.list ds) = true := by
  unfold cmpb
  rw [PyData.plain, h1, PyData.depth]
  simp
  omega
theorem flat_pairs : ∀ l : List (Int × Int), flatL (l.map prI) = true
  | [] => by simp [flatL]
  | p :: l => by
    rw [List.map_cons, flatL, flat_pairs l]
    simp [prI, prD, flatL]
theorem plain_pairs : ∀ (l : List (Int × Int)), PyData.plainAll (l.map prI) = true
  | [] => by simp [PyData.plainAll]
  | p :: l => by
    rw [List.map_cons, PyData.plainAll, plain_pairs l]
    simp [prI, prD, PyData.plain, PyData.plainAll]
theorem plain_app : ∀ (a b : List D), PyData.plainAll (a ++ b) = (PyData.plainAll a && PyData.plainAll b)
  | [], b => by simp [PyData.plainAll]
  | x :: a, b => by rw [List.cons_append, PyData.plainAll, plain_app a b, PyData.plainAll, Bool.and_assoc]
theorem depth_app : ∀ (a b : List D), PyData.depthAll (a ++ b) = max (PyData.depthAll a) (PyData.depthAll b)
  | [], b => by simp [PyData.depthAll]
  | x :: a, b => by rw [List.cons_append, PyData.depthAll, depth_app a b, PyData.depthAll]; omega
theorem depth_pairs : ∀ (l : List (Int × Int)), PyData.depthAll (l.map prI) ≤ 1
  | [] => by simp [PyData.depthAll]
  | p :: l => by
    have := depth_pairs l
    rw [List.map_cons, PyData.depthAll]
    have e : PyData.depth (prI p) ≤ 1 := by simp [prI, prD, PyData.depth, PyData.depthAll]
    omega
theorem cmpb_pairs (l : List (Int × Int)) : cmpb (.list (l.map prI)) = true := cmpb_mk (plain_pairs l) (by have := depth_pairs l; omega)
theorem cmpb_pairs1 (l : List (Int × Int)) (t : Int) : cmpb (.list (l.map prI ++ [.int t])) = true := cmpb_mk (by rw [plain_app, plain_pairs]; simp [PyData.plainAll, PyData.plain]) (by
  rw [depth_app]
  have := depth_pairs l
  have e : PyData.depthAll [PyData.int t] = 0 := by simp [PyData.depthAll, PyData.depth]
  omega)
theorem again_lc (δ : List Sl) (hδ : 14 < δ.length) : ∀ l : List (Int × Int), lcGo (lcStep (setT [13, 14]) (fC (.bool true)) (fTup (fACons (fVar 13) (fACons (fOp gSub (fC (.int 0)) (fVar 14)) fANil))) δ) (l.map prI) = some ((l.map negP).map prI)
  | [] => rfl
  | p :: l => by
    rw [List.map_cons, List.map_cons, List.map_cons, lcGo]
    have e13 : ∀ (x y : D), fVar 13 ((δ.set 13 (.v x)).set 14 (.v y)) = .ok x := fun x y => by
      unfold fVar
      rw [List.getElem?_set_ne (by decide), List.getElem?_set_self (by omega)]
    have e14 : ∀ (x y : D), fVar 14 ((δ.set 13 (.v x)).set 14 (.v y)) = .ok y := fun x y => by
      unfold fVar
      rw [List.getElem?_set_self (by rw [List.length_set]; omega)]
    have h : lcStep (setT [13, 14]) (fC (.bool true)) (fTup (fACons (fVar 13) (fACons (fOp gSub (fC (.int 0)) (fVar 14)) fANil))) δ (prI p) = some (some (prI (negP p))) := by
      simp -implicitDefEqProofs [lcStep, prI, e13, e14, negP]
      simp [prD]
    rw [h, again_lc δ hδ l]
    rfl
abbrev B11 : List Sl → Fl := (fSeq (fSetO 11 (fCall r_c_way_in (fACons (fCall gList (fACons (fVar 1) fANil)) (fACons (fVar 2) (fACons (fVar 3) (fACons (fVar 6) fANil))))))
      (fSeq (fIfS (fOr (fNot (fTst (fIsi "list" (fVar 11)))) (fTst (fOp gNe (fCall gLen (fACons (fVar 11) fANil)) (fCall gMin2 (fACons (fVar 8) (fACons (fVar 6) fANil)))))) (fRet (fC (.bool false))) (.nx))
      (fSeq (fSetB 5 (fCall r_l_gone2 (fACons (fVar 1) (fACons (fVar 2) (fACons (fVar 11) (fACons (fVar 7) fANil))))))
      (fSeq (fIfS (fOr (fTst (fOp (gIs false) (fVar 5) (fC .none))) (fAnd (fTst (fOp gLe (fVar 8) (fVar 6))) (fTst (fOp gNe (fVar 5) (fVar 3))))) (fRet (fC (.bool false))) (.nx))
      (fSeq (fIfS (fTst (fOp gLe (fVar 8) (fVar 6))) (fSeq (fSetB 12 (fLc (fRevI (fVar 11)) (setT [13, 14]) (fC (.bool true)) (fTup (fACons (fVar 13) (fACons (fOp gSub (fC (.int 0)) (fVar 14)) fANil))) [13, 14]))
        (fIfS (fTst (fOp gNe (fCall r_c_way_in (fACons (fCall gList (fACons (fVar 1) fANil)) (fACons (fVar 3) (fACons (fVar 2) (fACons (fVar 6) fANil))))) (fVar 12))) (fRet (fC (.bool false))) (.nx))) (.nx))
      (fSeq (fApp 11 (fVar 10))
      (fFrz 11 (fApp 9 (fTup (fACons (fVar 11) (fACons (fCall gList (fACons (fVar 11) fANil)) fANil)))))))))))
theorem seq_nx {A B : List Sl → Fl} {δ δ' : List Sl} {r : Fl} (h1 : A δ = .nx δ') (h2 : B δ' = r) : fSeq A B δ = r := by
  rw [fSeq_ap, h1]
  exact h2
def pr11 (L : List (Int × Int)) (t : Int) : D := .tuple [.list (L.map prI ++ [.int t]), .list (L.map prI ++ [.int t])]
theorem b11 {cs R1 R2 : List Int} (G : Good cs) (h1 : IsRow cs R1) (h2 : IsRow cs R2) {M : Nat} (hM : M ≤ 1000) {s : Int} (hs : s = 1 ∨ s = -1) {k : Nat} (hk : numC cs R2 = numC cs R1 + s * k)
    (s0 s4 s5 s11 s12 : Sl) (ks : List D) (hks : ks.length ≤ 1000) (t : Int) : ∃ s5' s12', B11 [s0, .v (.list (ins cs)), .v (.tuple (ins R1)), .v (.tuple (ins R2)), s4, s5, .v (.int M), .v (.int s), .v (.int k), .own ks, .v (.int t), s11, s12, .un, .un, .un] = .nx [s0, .v (.list (ins cs)), .v (.tuple (ins R1)), .v (.tuple (ins R2)), s4, s5', .v (.int M), .v (.int s), .v (.int k), .own (ks ++ [pr11 (mvs cs s (numC cs R1) (min k M)) t]), .v (.int t), .v (.list ((mvs cs s (numC cs R1) (min k M)).map prI ++ [.int t])), s12', .un, .un, .un] := by
  have w1 := way_in_eq G h1 h2 hM hs hk
  have n0 := numC_nn G.cnt h1
  have n1 := numC_lt G.cnt h1
  have o0 := numC_nn G.cnt h2
  have o1 := numC_lt G.cnt h2
  have hm : (min k M) ≤ k := Nat.min_le_left _ _
  have g0 : 0 ≤ numC cs R1 + s * (min k M : Nat) ∧ numC cs R1 + s * (min k M : Nat) < prodC cs := by
    rw [hk] at o0 o1
    rcases hs with rfl | rfl <;> omega
  have gn := gone2_eq G h1 hs (min k M) g0.1 g0.2
  have ml := mvs_len cs s (min k M) (numC cs R1)
  have hb : s = 1 ∨ s = -1 → (-s = 1 ∨ -s = -1) := by omega
  have w2 := way_in_eq G h2 h1 hM (hb hs) (k := k) (by rw [hk]; rcases hs with rfl | rfl <;> omega)
  have bk := mvs_back G.cnt hs k (numC cs R1) n0 n1 (by rw [← hk]; exact o0) (by rw [← hk]; exact o1)
  rw [← hk] at bk
  have fl := flat_ints (rowC cs (numC cs R1 + s * (min k M : Nat)))
  have e2 : min k M = k → rowC cs (numC cs R1 + s * (min k M : Nat)) = R2 := fun q => by rw [q, ← hk]; exact row_num G.cnt h2
  have hmin : (if M < k then (M : Int) else (k : Int)) = (min k M : Nat) := by split <;> omega
  have zr := gNe_t (ns := R2) (ms := R2)
  rw [decide_eq_true rfl] at zr
  generalize hL : mvs cs s (numC cs R1) (min k M) = L at *
  generalize hg : rowC cs (numC cs R1 + s * (min k M : Nat)) = g at *
  have hLl : L.length ≤ 1000 := by omega
  have hLI : L.length < LIM := by unfold LIM; omega
  have hKI : ks.length < LIM := by unfold LIM; omega
  have fr := flat_pairs (L.reverse.map negP)
  have st1 : ∀ (B : List Sl → Fl) (r : Fl), B [s0, .v (.list (ins cs)), .v (.tuple (ins R1)), .v (.tuple (ins R2)), s4, s5, .v (.int M), .v (.int s), .v (.int k), .own ks, .v (.int t), .own (L.map prI), s12, .un, .un, .un] = r → fSeq (fSetO 11 (fCall r_c_way_in (fACons (fCall gList (fACons (fVar 1) fANil)) (fACons (fVar 2) (fACons (fVar 3) (fACons (fVar 6) fANil)))))) B [s0, .v (.list (ins cs)), .v (.tuple (ins R1)), .v (.tuple (ins R2)), s4, s5, .v (.int M), .v (.int s), .v (.int k), .own ks, .v (.int t), s11, s12, .un, .un, .un] = r := fun B r h => seq_nx (by simp -implicitDefEqProofs [w1]) h
  refine ⟨.v (.tuple (ins g)), if k ≤ M then .v (.list ((L.reverse.map negP).map prI)) else s12, st1 _ _ ?_⟩
  refine seq_nx (δ' := [s0, .v (.list (ins cs)), .v (.tuple (ins R1)), .v (.tuple (ins R2)), s4, s5, .v (.int M), .v (.int s), .v (.int k), .own ks, .v (.int t), .own (L.map prI), s12, .un, .un, .un]) (by simp -implicitDefEqProofs [thaw1, isT, tyN, hmin, ml]) ?_
  refine seq_nx (δ' := [s0, .v (.list (ins cs)), .v (.tuple (ins R1)), .v (.tuple (ins R2)), s4, .v (.tuple (ins g)), .v (.int M), .v (.int s), .v (.int k), .own ks, .v (.int t), .own (L.map prI), s12, .un, .un, .un]) (by simp -implicitDefEqProofs [gn, fl]) ?_
  by_cases hkM : k ≤ M
  · have em : min k M = k := Nat.min_eq_left hkM
    have hkM2 : (k : Int) ≤ (M : Int) := by omega
    have eg := e2 em
    subst eg
    rw [em] at hL
    rw [em, bk, hL] at w2
    refine seq_nx (δ' := [s0, .v (.list (ins cs)), .v (.tuple (ins R1)), .v (.tuple (ins g)), s4, .v (.tuple (ins g)), .v (.int M), .v (.int s), .v (.int k), .own ks, .v (.int t), .own (L.map prI), s12, .un, .un, .un]) (by simp -implicitDefEqProofs [hkM, zr, gIs, isNone]) ?_
    refine seq_nx (δ' := [s0, .v (.list (ins cs)), .v (.tuple (ins R1)), .v (.tuple (ins g)), s4, .v (.tuple (ins g)), .v (.int M), .v (.int s), .v (.int k), .own ks, .v (.int t), .own (L.map prI), .v (.list ((L.reverse.map negP).map prI)), .un, .un, .un]) ?_ ?_
    · have lc := again_lc (wipeD [thaw1 s0, .v (.list (ins cs)), .v (.tuple (ins R1)), .v (.tuple (ins g)), thaw1 s4, .v (.tuple (ins g)), .v (.int M), .v (.int s), .v (.int k), .v (.list ks), .v (.int t), .v (.list (L.map prI)), thaw1 s12, .un, .un, .un] [13, 14]) (by simp [wipeD]) L.reverse
      rw [List.map_reverse] at lc
      have cN := cmpb_pairs (L.reverse.map negP)
      have zN := gNe_self cN
      have hp1 : L.length ≤ LIM := Nat.le_of_lt hLI
      generalize (L.reverse.map negP).map prI = N at lc fr w2 zN ⊢
      simp -implicitDefEqProofs [hkM, thaw1]
      simp only [thaw1] at lc
      rw [lc]
      simp -implicitDefEqProofs [hp1, fr, w2, zN]
    · simp -implicitDefEqProofs [fApp, hLI, fFrz, hKI, hkM, pr11]
  · have hkM2 : ¬ (k : Int) ≤ (M : Int) := by omega
    refine seq_nx (δ' := [s0, .v (.list (ins cs)), .v (.tuple (ins R1)), .v (.tuple (ins R2)), s4, .v (.tuple (ins g)), .v (.int M), .v (.int s), .v (.int k), .own ks, .v (.int t), .own (L.map prI), s12, .un, .un, .un]) (by simp -implicitDefEqProofs [hkM, gIs, isNone]) ?_
    refine seq_nx (δ' := [s0, .v (.list (ins cs)), .v (.tuple (ins R1)), .v (.tuple (ins R2)), s4, .v (.tuple (ins g)), .v (.int M), .v (.int s), .v (.int k), .own ks, .v (.int t), .own (L.map prI), s12, .un, .un, .un]) (by simp -implicitDefEqProofs [hkM]) ?_
    simp -implicitDefEqProofs [fApp, hLI, fFrz, hKI, hkM, pr11]
theorem pr11_ne (δ : List Sl) (hδ : 15 < δ.length) (L : List (Int × Int)) (t : Int) : lcStep (setN 15) (fTst (fOp gNe (fOp gIx (fVar 15) (fC (.int 0))) (fOp gIx (fVar 15) (fC (.int 1))))) (fVar 15) δ (pr11 L t) = some none := by
  have e15 : ∀ (x : D), fVar 15 (δ.set 15 (.v x)) = .ok x := fun x => by
    unfold fVar
    rw [List.getElem?_set_self (by omega)]
  simp -implicitDefEqProofs [lcStep, e15, pr11, ix_t0, ix_t1, gNe_self (cmpb_pairs1 L t)]
theorem law_k11 (ns : List Int) : r_law_k11 [scr ns] = .ok (.bool true) := by
  obtain ⟨cs, hc, hc1, hc2, ec⟩ := l_counts_eq ns 0 12 (by decide) (by decide)
  have G : Good cs := ⟨hc, hc1, hc2⟩
  obtain ⟨R1, h1, er1⟩ := l_row_eq ns 5 G
  obtain ⟨R0, h0, er0⟩ := l_row_eq ns 12 G
  have hp := prodC_pos hc
  have epr := product_eq hc
  have em18 := mixed_at ns (i := 18) 18 rfl
  have em19 := mixed_at ns (i := 19) 19 rfl
  have em20 := mixed_at ns (i := 20) 20 rfl
  have ec' : r_l_counts [scr ns, .int 0, .int 12] = .new (ins cs) := ec
  have er1' : r_l_row [scr ns, .int 5, .list (ins cs)] = .ok (.tuple (ins R1)) := er1
  have er0' : r_l_row [scr ns, .int 12, .list (ins cs)] = .ok (.tuple (ins R0)) := er0
  have n1 := number3_eq G h1
  have e0 : r_law_k11 [scr ns] = (F_law_k11 [.v (scr ns), .un, .un, .un, .un, .un, .un, .un, .un, .un, .un, .un, .un, .un, .un, .un]).toR := rfl
  rw [e0]
  unfold F_law_k11
  refine seq_step (δ' := [.v (scr ns), .v (.list (ins cs)), .un, .un, .un, .un, .un, .un, .un, .un, .un, .un, .un, .un, .un, .un]) (by simp -implicitDefEqProofs [ec']) ?_
  refine seq_step (δ' := [.v (scr ns), .v (.list (ins cs)), .v (.tuple (ins R1)), .un, .un, .un, .un, .un, .un, .un, .un, .un, .un, .un, .un, .un]) (by simp -implicitDefEqProofs [er1']) ?_
  refine seq_step (δ' := [.v (scr ns), .v (.list (ins cs)), .v (.tuple (ins R1)), .v (.tuple (ins R0)), .un, .un, .un, .un, .un, .un, .un, .un, .un, .un, .un, .un]) (by simp -implicitDefEqProofs [er0']) ?_
  refine seq_step (δ' := [.v (scr ns), .v (.list (ins cs)), .v (.tuple (ins R1)), .v (.tuple (ins R0)), .v (.int (prodC cs)), .un, .un, .un, .un, .un, .un, .un, .un, .un, .un, .un]) (by simp -implicitDefEqProofs [epr]) ?_
  have go : ∀ (R2 : List Int) (h2 : IsRow cs R2) (s5 : Sl), (fSeq (fSet 6 (fOp gMod (fCall r_l_mixed (fACons (fVar 0) (fACons (fC (.int 20)) fANil))) (fC (.int 51))))
    (fSeq (fIfS (fTst (fOp gEq (fOp gMod (fOp gFdiv (fCall r_l_mixed (fACons (fVar 0) (fACons (fC (.int 18)) fANil))) (fC (.int 3))) (fC (.int 8))) (fC (.int 1)))) (fSet 6 (fC (.int 1000))) (.nx))
    (fSeq (fSet 7 (fC (.int 1)))
    (fSeq (fIfS (fTst (fOp gLt (fCall r_l_number3 (fACons (fVar 1) (fACons (fVar 3) fANil))) (fCall r_l_number3 (fACons (fVar 1) (fACons (fVar 2) fANil))))) (fSet 7 (fNeg (fC (.int 1)))) (.nx))
    (fSeq (fSet 8 (fCall gAbs (fACons (fOp gSub (fCall r_l_number3 (fACons (fVar 1) (fACons (fVar 3) fANil))) (fCall r_l_number3 (fACons (fVar 1) (fACons (fVar 2) fANil)))) fANil)))
    (fSeq (fSetO 9 (fLst fANil))
    (fSeq (fFor (fRg rg1 (fACons (fC (.int 2)) fANil)) (setN 10) B11)
    (fRetB (fOp gEq (fLc (fSeqI (fVar 9)) (setN 15) (fTst (fOp gNe (fOp gIx (fVar 15) (fC (.int 0))) (fOp gIx (fVar 15) (fC (.int 1))))) (fVar 15) [15]) (fLst fANil))))))))) [.v (scr ns), .v (.list (ins cs)), .v (.tuple (ins R1)), .v (.tuple (ins R2)), .v (.int (prodC cs)), s5, .un, .un, .un, .un, .un, .un, .un, .un, .un, .un]).toR = .ok (.bool true) := by
    intro R2 h2 s5
    have n2 := number3_eq G h2
    obtain ⟨s, k, hs, hk, hlt, habs⟩ : ∃ (s : Int) (k : Nat), (s = 1 ∨ s = -1) ∧ numC cs R2 = numC cs R1 + s * k ∧ (s = if numC cs R2 < numC cs R1 then -1 else 1) ∧ (if numC cs R2 - numC cs R1 < 0 then -(numC cs R2 - numC cs R1) else numC cs R2 - numC cs R1) = (k : Int) := by
      by_cases q : numC cs R2 < numC cs R1
      · exact ⟨-1, (numC cs R1 - numC cs R2).toNat, .inr rfl, by omega, by rw [if_pos q], by rw [if_pos (by omega)]; omega⟩
      · exact ⟨1, (numC cs R2 - numC cs R1).toNat, .inl rfl, by omega, by rw [if_neg q], by rw [if_neg (by omega)]; omega⟩
    obtain ⟨M, hM, hm⟩ : ∃ M : Nat, M ≤ 1000 ∧ ((M : Int) = if mixed ns 18 / 3 % 8 = 1 then 1000 else mixed ns 20 % 51) := by
      split
      · exact ⟨1000, by omega, rfl⟩
      · exact ⟨(mixed ns 20 % 51).toNat, by omega, by omega⟩
    refine seq_step (δ' := [.v (scr ns), .v (.list (ins cs)), .v (.tuple (ins R1)), .v (.tuple (ins R2)), .v (.int (prodC cs)), s5, .v (.int (mixed ns 20 % 51)), .un, .un, .un, .un, .un, .un, .un, .un, .un]) (by simp -implicitDefEqProofs [em20]) ?_
    refine seq_step (δ' := [.v (scr ns), .v (.list (ins cs)), .v (.tuple (ins R1)), .v (.tuple (ins R2)), .v (.int (prodC cs)), s5, .v (.int M), .un, .un, .un, .un, .un, .un, .un, .un, .un]) (by rw [hm]; by_cases q : mixed ns 18 / 3 % 8 = 1 <;> simp -implicitDefEqProofs [em18, q]) ?_
    refine seq_step (δ' := [.v (scr ns), .v (.list (ins cs)), .v (.tuple (ins R1)), .v (.tuple (ins R2)), .v (.int (prodC cs)), s5, .v (.int M), .v (.int 1), .un, .un, .un, .un, .un, .un, .un, .un]) (by simp -implicitDefEqProofs) ?_
    refine seq_step (δ' := [.v (scr ns), .v (.list (ins cs)), .v (.tuple (ins R1)), .v (.tuple (ins R2)), .v (.int (prodC cs)), s5, .v (.int M), .v (.int s), .un, .un, .un, .un, .un, .un, .un, .un]) (by rw [hlt]; by_cases q : numC cs R2 < numC cs R1 <;> simp -implicitDefEqProofs [n1, n2, q]) ?_
    refine seq_step (δ' := [.v (scr ns), .v (.list (ins cs)), .v (.tuple (ins R1)), .v (.tuple (ins R2)), .v (.int (prodC cs)), s5, .v (.int M), .v (.int s), .v (.int k), .un, .un, .un, .un, .un, .un, .un]) (by simp -implicitDefEqProofs [n1, n2, habs]) ?_
    refine seq_step (δ' := [.v (scr ns), .v (.list (ins cs)), .v (.tuple (ins R1)), .v (.tuple (ins R2)), .v (.int (prodC cs)), s5, .v (.int M), .v (.int s), .v (.int k), .own [], .un, .un, .un, .un, .un, .un]) (by simp -implicitDefEqProofs) ?_
    obtain ⟨a5, a12, ea⟩ := b11 G h1 h2 hM hs hk (.v (scr ns)) (.v (.int (prodC cs))) s5 .un .un [] (by simp) 0
    obtain ⟨b5, b12, eb⟩ := b11 G h1 h2 hM hs hk (.v (scr ns)) (.v (.int (prodC cs))) a5 (.v (.list ((mvs cs s (numC cs R1) (min k M)).map prI ++ [.int 0]))) a12 [pr11 (mvs cs s (numC cs R1) (min k M)) 0] (by simp) 1
    have rg : fRg rg1 (fACons (fC (.int 2)) fANil) [.v (scr ns), .v (.list (ins cs)), .v (.tuple (ins R1)), .v (.tuple (ins R2)), .v (.int (prodC cs)), s5, .v (.int M), .v (.int s), .v (.int k), .own [], .un, .un, .un, .un, .un, .un] = .ok [.int 0, .int 1] := rfl
    generalize hL : mvs cs s (numC cs R1) (min k M) = L at *
    refine seq_step (δ' := [.v (scr ns), .v (.list (ins cs)), .v (.tuple (ins R1)), .v (.tuple (ins R2)), .v (.int (prodC cs)), b5, .v (.int M), .v (.int s), .v (.int k), .own [pr11 L 0, pr11 L 1], .v (.int 1), .v (.list (L.map prI ++ [.int 1])), b12, .un, .un, .un]) ?_ ?_
    · rw [fFor_ap, rg]
      simp only [forGo, setN_ap, List.set_cons_succ, List.set_cons_zero]
      rw [List.nil_append] at ea
      rw [ea]
      simp only [List.set_cons_succ, List.set_cons_zero]
      rw [eb]
      rfl
    · have lc : ∀ δ : List Sl, 15 < δ.length → lcGo (lcStep (setN 15) (fTst (fOp gNe (fOp gIx (fVar 15) (fC (.int 0))) (fOp gIx (fVar 15) (fC (.int 1))))) (fVar 15) δ) [pr11 L 0, pr11 L 1] = some [] := fun δ hδ => lcGo_none _ fun d hd => by
        rcases List.mem_cons.mp hd with rfl | hd
        · exact pr11_ne δ hδ L 0
        · rw [List.mem_singleton.mp hd]
          exact pr11_ne δ hδ L 1
      have z := gEq_l (ns := []) (ms := [])
      rw [show ins [] = [] from rfl] at z
      simp -implicitDefEqProofs [thaw1]
      rw [lc _ (by simp [wipeD])]
      simp -implicitDefEqProofs [z]
  by_cases c1 : mixed ns 18 % 3 > 0
  · have n0 := numC_nn hc h1
    generalize hx : (if (if (40 : Int) < numC cs R1 + mixed ns 19 % 81 then numC cs R1 + mixed ns 19 % 81 - 40 else 0) < prodC cs - 1 then (if (40 : Int) < numC cs R1 + mixed ns 19 % 81 then numC cs R1 + mixed ns 19 % 81 - 40 else 0) else prodC cs - 1) = x
    have x0 : 0 ≤ x ∧ x < prodC cs := by
      rw [← hx]
      split
      · split <;> omega
      · omega
    have ra := row_at_eq G x0.1 x0.2
    refine seq_step (δ' := [.v (scr ns), .v (.list (ins cs)), .v (.tuple (ins R1)), .v (.tuple (ins (rowC cs x))), .v (.int (prodC cs)), .v (.int (numC cs R1 + mixed ns 19 % 81 - 40)), .un, .un, .un, .un, .un, .un, .un, .un, .un, .un]) ?_ (go _ (rowC_row x hc) _)
    have c1' : 0 < mixed ns 18 % 3 := c1
    simp -implicitDefEqProofs [em18, em19, n1, c1']
    rw [hx, ra]
    simp -implicitDefEqProofs
  · refine seq_step (δ' := [.v (scr ns), .v (.list (ins cs)), .v (.tuple (ins R1)), .v (.tuple (ins R0)), .v (.int (prodC cs)), .un, .un, .un, .un, .un, .un, .un, .un, .un, .un, .un]) ?_ (go _ h0 _)
    have c1' : ¬ 0 < mixed ns 18 % 3 := c1
    simp -implicitDefEqProofs [em18, c1']
end DM
set_option Elab.async false
set_option linter.all false
set_option maxRecDepth 100000
set_option maxHeartbeats 1000000
/-! Ways of bars. -/
namespace DM
open PySem DL
def t1 : Nat → Int → Nat
  | 0, _ => 0
  | k + 1, n => if n % 2 = 1 then t1 k (n / 2) + 1 else 0
theorem gray_t1 : ∀ (k : Nat) (n : Int), 0 ≤ n → n + 1 < 2 ^ k → t1 k n < k ∧ settingBy k (n + 1) = turnI (settingBy k n) (t1 k n) ∧ mayP (settingBy k n) (t1 k n) = true
  | 0, n, h0, h => by
    have : n + 1 < 1 := h
    omega
  | k + 1, n, h0, h => by
    rw [Int.pow_succ] at h
    by_cases he : n % 2 = 0
    · have hn : ¬ n % 2 = 1 := by omega
      rw [t1, if_neg hn]
      refine ⟨by omega, ?_, by simp [mayP]⟩
      have e : (n + 1) / 2 = n / 2 := by omega
      rw [settingBy, settingBy, e]
      unfold turnI
      simp
      omega
    · have hn : n % 2 = 1 := by omega
      rw [t1, if_pos hn]
      obtain ⟨hj, e1, e2⟩ := gray_t1 k (n / 2) (by omega) (by omega)
      generalize t1 k (n / 2) = j at *
      have e : (n + 1) / 2 = n / 2 + 1 := by omega
      refine ⟨by omega, ?_, ?_⟩
      · rw [settingBy, settingBy, e, e1]
        unfold turnI
        simp
        omega
      · unfold mayP at e2 ⊢
        rw [settingBy]
        cases j with
        | zero =>
          cases k with
          | zero => omega
          | succ k =>
            rw [settingBy, settingBy] at e1
            unfold turnI at e1
            simp at e1
            simp
            omega
        | succ j =>
          cases k with
          | zero => omega
          | succ k =>
            have h1 : (settingBy (k + 1) (n / 2 + 1)).getD 0 0 = (settingBy (k + 1) (n / 2)).getD 0 0 := by
              rw [e1]
              unfold turnI
              simp
            rw [settingBy, settingBy] at h1
            simp at h1
            simp at e2
            simp
            exact ⟨e2.1, by omega, e2.2⟩
theorem t1_par (k : Nat) (n : Int) (h : n % 2 = 0) : t1 k n = 0 := by
  cases k with
  | zero => rfl
  | succ k => rw [t1, if_neg (by omega)]
theorem t1_odd {k : Nat} {n : Int} (h : n % 2 = 1) (hk : 0 < k) : t1 k n ≠ 0 := by
  cases k with
  | zero => omega
  | succ k => rw [t1, if_pos h]; omega
theorem turn_turn {S : List Int} {j : Nat} : turnI (turnI S j) j = S := by
  unfold turnI
  apply List.ext_getElem
  · simp
  · intro i h1 h2
    simp
    by_cases q : i = j
    · subst q
      simp [h2]
      omega
    · rw [List.getElem_set_ne (Ne.symm q)]
/-- the ring between a and a + s -/
def rgk (k : Nat) (a s : Int) : Nat := t1 k (if s = 1 then a else a - 1)
theorem ring_step {k : Nat} {a s : Int} (hs : s = 1 ∨ s = -1) (a0 : 0 ≤ a) (a1 : a < 2 ^ k) (b0 : 0 ≤ a + s) (b1 : a + s < 2 ^ k) : rgk k a s < k ∧ settingBy k (a + s) = turnI (settingBy k a) (rgk k a s) ∧ mayP (settingBy k a) (rgk k a s) = true := by
  unfold rgk
  rcases hs with rfl | rfl
  · rw [if_pos rfl]
    exact gray_t1 k a a0 b1
  · rw [if_neg (by decide)]
    obtain ⟨h1, h2, h3⟩ := gray_t1 k (a - 1) (by omega) (by omega)
    rw [show a - 1 + 1 = a by omega] at h2
    refine ⟨h1, ?_, ?_⟩
    · rw [show a + -1 = a - 1 by omega, h2, turn_turn]
    · rw [h2]
      exact mayP_turn h3
theorem rgk_ne {k : Nat} {a s : Int} (hs : s = 1 ∨ s = -1) (hk : 0 < k) : rgk k (a + s) s ≠ rgk k a s := by
  unfold rgk
  have key : ∀ x y : Int, (x + y) % 2 = 1 → t1 k x ≠ t1 k y := fun x y h => by
    by_cases hx : x % 2 = 0
    · rw [t1_par k x hx]
      exact fun e => t1_odd (by omega) hk e.symm
    · rw [t1_par k y (by omega)]
      exact t1_odd (by omega) hk
  rcases hs with rfl | rfl
  · rw [if_pos rfl, if_pos rfl]
    exact key _ _ (by omega)
  · rw [if_neg (by decide), if_neg (by decide)]
    exact key _ _ (by omega)
theorem rgk_back (k : Nat) {a s : Int} (hs : s = 1 ∨ s = -1) : rgk k (a + s) (-s) = rgk k a s := by
  unfold rgk
  rcases hs with rfl | rfl
  · rw [if_neg (by decide), if_pos rfl]
    congr 1
    omega
  · rw [if_pos (by decide), if_neg (by decide)]
    congr 1
def rgs (k : Nat) (s : Int) : Int → Nat → List Int
  | _, 0 => []
  | a, m + 1 => (rgk k a s : Int) :: rgs k s (a + s) m
theorem rgs_len (k : Nat) (s : Int) : ∀ (m : Nat) (a : Int), (rgs k s a m).length = m
  | 0, _ => rfl
  | m + 1, a => by rw [rgs, List.length_cons, rgs_len]
theorem rgs_snoc (k : Nat) (s : Int) : ∀ (m : Nat) (a : Int), rgs k s a (m + 1) = rgs k s a m ++ [(rgk k (a + s * m) s : Int)]
  | 0, a => by simp [rgs]
  | m + 1, a => by
    rw [rgs, rgs_snoc k s m (a + s), rgs, List.cons_append]
    have e1 : a + s + s * (m : Int) = a + s * ((m + 1 : Nat) : Int) := by
      have : ((m + 1 : Nat) : Int) = (m : Int) + 1 := by omega
      rw [this]; simp only [Int.mul_add, Int.mul_one]; omega
    rw [e1]
theorem rgs_back (k : Nat) {s : Int} (hs : s = 1 ∨ s = -1) : ∀ (m : Nat) (a : Int), rgs k (-s) (a + s * m) m = (rgs k s a m).reverse
  | 0, _ => rfl
  | m + 1, a => by
    have e3 : ((m + 1 : Nat) : Int) = (m : Int) + 1 := by omega
    have e1 : a + s * ((m : Int) + 1) + -s = a + s * m := by rw [Int.mul_add, Int.mul_one]; omega
    have e2 : a + s * ((m : Int) + 1) = a + s * m + s := by rw [Int.mul_add, Int.mul_one]; omega
    rw [e3, rgs_snoc k s m a, List.reverse_append, rgs, e1, rgs_back k hs m a, e2, rgk_back k hs]
    rfl
/-! ### ring_between, rings_between -/
theorem rb_loop (f : Nat) : ∀ (k : Nat) (n r : Int), 0 ≤ n → n + 1 < 2 ^ k → ∃ n', whGo (fTst (fOp gEq (fOp gMod (fVar 0) (fC (.int 2))) (fC (.int 1)))) (fSeq (fSet 0 (fOp gFdiv (fVar 0) (fC (.int 2))))
      (fSet 1 (fOp gAdd (fVar 1) (fC (.int 1))))) (f + k + 1) [.v (.int n), .v (.int r)] = .nx [.v (.int n'), .v (.int (r + t1 k n))]
  | 0, n, r, h0, h => by
    have : n + 1 < 1 := h
    omega
  | k + 1, n, r, h0, h => by
    rw [show f + (k + 1) + 1 = (f + k + 1) + 1 by omega, whGo]
    by_cases q : n % 2 = 1
    · rw [Int.pow_succ] at h
      obtain ⟨n', e⟩ := rb_loop f k (n / 2) (r + 1) (by omega) (by omega)
      refine ⟨n', ?_⟩
      rw [t1, if_pos q]
      simp -implicitDefEqProofs [q]
      rw [e]
      congr 5
      omega
    · refine ⟨n, ?_⟩
      rw [t1, if_neg q]
      simp -implicitDefEqProofs [q]
theorem ring_between_eq {k : Nat} {n : Int} (hk : k ≤ 1000) (h0 : 0 ≤ n) (h : n + 1 < 2 ^ k) : r_b_ring_between [.int n] = .ok (.int (t1 k n)) := by
  obtain ⟨n', e⟩ := rb_loop (fuel - (k + 1)) k n 0 h0 h
  rw [show fuel - (k + 1) + k + 1 = fuel by unfold fuel; omega, Int.zero_add] at e
  have e0 : r_b_ring_between [.int n] = (F_b_ring_between [.v (.int n), .un]).toR := rfl
  rw [e0]
  unfold F_b_ring_between
  refine seq_step (δ' := [.v (.int n), .v (.int 0)]) (by simp -implicitDefEqProofs) ?_
  exact seq_step e (by simp -implicitDefEqProofs)
theorem rings_loop {k : Nat} (hk1 : k ≤ 1000) {s : Int} (hs : s = 1 ∨ s = -1) (M : Nat) (hM : M ≤ 1000) (b : Int) (n : Nat) : ∀ (r q : Nat) (a : Int) (acc : List Int), b = a + s * q → r = min q (M - acc.length) → 0 ≤ a → a < 2 ^ k → 0 ≤ b → b < 2 ^ k → ∃ s0',
    whGo (fAnd (fTst (fOp gNe (fVar 0) (fVar 1))) (fTst (fOp gLt (fCall gLen (fACons (fVar 3) fANil)) (fVar 2)))) (fIfS (fTst (fOp gLt (fVar 0) (fVar 1))) (fSeq (fApp 3 (fCall r_b_ring_between (fACons (fVar 0) fANil)))
        (fSet 0 (fOp gAdd (fVar 0) (fC (.int 1))))) (fSeq (fSet 0 (fOp gSub (fVar 0) (fC (.int 1))))
        (fApp 3 (fCall r_b_ring_between (fACons (fVar 0) fANil))))) (n + r + 1) [.v (.int a), .v (.int b), .v (.int M), .own (ins acc)] = .nx [s0', .v (.int b), .v (.int M), .own (ins (acc ++ rgs k s a r))] := by
  intro r
  induction r with
  | zero =>
    intro q a acc hb hr a0 a1 b0 b1
    refine ⟨.v (.int a), ?_⟩
    rw [show n + 0 + 1 = n + 1 from rfl, whGo, show acc ++ rgs k s a 0 = acc by simp [rgs]]
    by_cases hq : q = 0
    · subst hq
      have e : a = b := by rw [hb]; simp
      subst e
      simp -implicitDefEqProofs
    · have e : ¬ a = b := by
        rw [hb]
        rcases hs with rfl | rfl <;> omega
      have e2 : ¬ (acc.length : Int) < (M : Int) := by omega
      have e3 : ¬ acc.length < M := by omega
      simp -implicitDefEqProofs [e, e2, e3]
  | succ r ih =>
    intro q a acc hb hr a0 a1 b0 b1
    obtain ⟨q, rfl⟩ : ∃ k', q = k' + 1 := ⟨q - 1, by omega⟩
    have ek : ((q + 1 : Nat) : Int) = (q : Int) + 1 := by omega
    rw [ek, Int.mul_add, Int.mul_one] at hb
    have hl : acc.length < M := by omega
    have hL : acc.length < LIM := by unfold LIM; omega
    have c0 : 0 ≤ a + s ∧ a + s < 2 ^ k := by rcases hs with rfl | rfl <;> omega
    obtain ⟨s0', e⟩ := ih q (a + s) (acc ++ [(rgk k a s : Int)]) (by rw [hb]; omega) (by simp; omega) c0.1 c0.2 b0 b1
    refine ⟨s0', ?_⟩
    have e1 : ins (acc ++ [(rgk k a s : Int)]) = ins acc ++ [.int (rgk k a s : Int)] := by unfold ins; simp
    rw [rgs]
    rw [e1, List.append_assoc] at e
    rw [show n + (r + 1) + 1 = (n + r + 1) + 1 by omega, whGo]
    rcases hs with rfl | rfl
    · have hlt : a < b := by omega
      have hne : ¬ a = b := by omega
      have rb := ring_between_eq hk1 a0 c0.2
      have er : rgk k a 1 = t1 k a := by unfold rgk; rw [if_pos rfl]
      rw [er] at e ⊢
      simp -implicitDefEqProofs [hne, hl, hlt, rb, fApp, hL]
      exact e
    · have hlt : ¬ a < b := by omega
      have hne : ¬ a = b := by omega
      have rb := ring_between_eq (n := a - 1) hk1 (by omega) (by omega)
      have er : rgk k a (-1) = t1 k (a - 1) := by unfold rgk; rw [if_neg (by decide)]
      rw [er] at e ⊢
      rw [show a + -1 = a - 1 by omega] at e ⊢
      simp -implicitDefEqProofs [hne, hl, hlt, rb, fApp, hL]
      exact e
structure Bar (k : Nat) (S : List Int) : Prop where
  len : S.length = k
  bits : Bits S
theorem Bar.num {k : Nat} {S : List Int} (h : Bar k S) : 0 ≤ numBy S ∧ numBy S < 2 ^ k := ⟨numBy_nn S, h.len ▸ numBy_lt S⟩
theorem Bar.back {k : Nat} {S : List Int} (h : Bar k S) : settingBy k (numBy S) = S := h.len ▸ setting_num S h.bits
theorem bar_setting (k : Nat) (n : Int) : Bar k (settingBy k n) := ⟨settingBy_len k n, settingBy_bits k n⟩
theorem need_two_eq {k : Nat} (h1 : 1 ≤ k) (h2 : k ≤ 40) {S T : List Int} (hS : Bar k S) (hT : Bar k T) : r_b_need_two [.tuple (ins S), .tuple (ins T)] = .ok .none := by
  unfold r_b_need_two F_b_need_two DL.run
  have hs := hS.len
  have ht := hT.len
  simp -implicitDefEqProofs [slots0, r_b_need_setting_eq, okSetting_bits hS.bits (by omega) (by omega), okSetting_bits hT.bits (by omega) (by omega), hs, ht]
theorem apart_eq {k : Nat} (h1 : 1 ≤ k) (h2 : k ≤ 40) {S T : List Int} (hS : Bar k S) (hT : Bar k T) : r_b_apart [.tuple (ins S), .tuple (ins T)] = .ok (.int (if numBy S - numBy T < 0 then -(numBy S - numBy T) else numBy S - numBy T)) := by
  unfold r_b_apart F_b_apart DL.run
  have hs := hS.len
  have ht := hT.len
  simp -implicitDefEqProofs [slots0, need_two_eq h1 h2 hS hT, r_b_number_by_eq S (by omega), r_b_number_by_eq T (by omega)]
theorem rings_between_eq {k : Nat} (hk : k ≤ 1000) {a b : Int} (a0 : 0 ≤ a) (a1 : a < 2 ^ k) (b0 : 0 ≤ b) (b1 : b < 2 ^ k) {M : Nat} (hM : M ≤ 1000) {s : Int} (hs : s = 1 ∨ s = -1) {q : Nat} (hq : b = a + s * q) :
    r_b_rings_between [.int a, .int b, .int M] = .new (ins (rgs k s a (min q M))) := by
  obtain ⟨s0, e⟩ := rings_loop hk hs M hM b (fuel - (min q M + 1)) (min q M) q a [] hq (by simp) a0 a1 b0 b1
  rw [show fuel - (min q M + 1) + min q M + 1 = fuel by unfold fuel; omega, List.nil_append, show ins [] = [] from rfl] at e
  have e0 : r_b_rings_between [.int a, .int b, .int M] = (F_b_rings_between [.v (.int a), .v (.int b), .v (.int M), .un]).toR := rfl
  rw [e0]
  unfold F_b_rings_between
  refine seq_step (δ' := [.v (.int a), .v (.int b), .v (.int M), .own []]) (by simp -implicitDefEqProofs) ?_
  exact seq_step e (by simp -implicitDefEqProofs)
theorem way_eq {k : Nat} (h1 : 1 ≤ k) (h2 : k ≤ 40) {S T : List Int} (hS : Bar k S) (hT : Bar k T) {M : Nat} (hM : M ≤ 1000) {s : Int} (hs : s = 1 ∨ s = -1) {q : Nat} (hq : numBy T = numBy S + s * q) :
    r_b_way [.tuple (ins S), .tuple (ins T), .int M] = .new (ins (rgs k s (numBy S) (min q M))) := by
  unfold r_b_way F_b_way DL.run
  have hs' := hS.len
  have ht := hT.len
  simp -implicitDefEqProofs [slots0, need_two_eq h1 h2 hS hT, need_most_eq hM, r_b_number_by_eq S (by omega), r_b_number_by_eq T (by omega), rings_between_eq (show k ≤ 1000 by omega) hS.num.1 hS.num.2 hT.num.1 hT.num.2 hM hs hq]
/-! ### the law's own -/
theorem turned_cut {S : List Int} {j : Nat} (h : j < S.length) : ins (S.take j) ++ [.int (1 - S.getD j 0)] ++ ins (S.drop (j + 1)) = ins (turnI S j) := by
  have e1 : ([.int (1 - S.getD j 0)] : List D) = ins [1 - S.getD j 0] := rfl
  rw [e1, app_ins, app_ins]
  unfold turnI
  rw [List.set_eq_take_append_cons_drop, if_pos h, List.append_assoc]
  rfl
theorem l_turned_eq {S : List Int} {j : Nat} (h : j < S.length) (hl : S.length ≤ 1000) : r_l_turned [.tuple (ins S), .int j] = .ok (.tuple (ins (turnI S j))) := by
  unfold r_l_turned F_l_turned DL.run
  have cut := turned_cut h
  have gj := gIx_t h
  rw [← getD_get h] at gj
  have ct := cutD_take (ins S) j
  have cd := cutD_drop (ins S) (j + 1)
  have e5 : ((j + 1 : Nat) : Int) = (j : Int) + 1 := by omega
  rw [e5] at cd
  rw [take_ins] at ct
  rw [drop_ins] at cd
  have k1 := cat_t (xs := ins (S.take j)) (ys := [.int (1 - S.getD j 0)]) (by rw [ints_length]; simp; omega)
  have k2 := cat_t (xs := ins (S.take j) ++ [.int (1 - S.getD j 0)]) (ys := ins (S.drop (j + 1))) (by simp; omega)
  rw [cut] at k2
  generalize S.getD j 0 = y at *
  simp -implicitDefEqProofs [slots0, gj, ct, cd, k1, k2]
theorem turn_bar {k : Nat} {S : List Int} (h : Bar k S) (j : Nat) : Bar k (turnI S j) := by
  refine ⟨by rw [turnI_len]; exact h.len, fun x hx => ?_⟩
  unfold turnI at hx
  by_cases hj : j < S.length
  · rcases List.mem_or_eq_of_mem_set hx with q | q
    · exact h.bits x q
    · have := h.bits S[j] (List.getElem_mem hj)
      rw [getD_get hj] at q
      omega
  · rw [List.set_eq_of_length_le (by omega)] at hx
    exact h.bits x hx
theorem number2_loop (t : Sl) : ∀ (l : List Int) (s : Sl) (n : Int), Bits l → 0 ≤ n → ∃ s', forGo (setN 2) (fSet 1 (fOp gAdd (fOp gMul (fC (.int 2)) (fVar 1)) (fOp gIx (fLst (fACons (fVar 2) (fACons (fOp gSub (fC (.int 1)) (fVar 2)) fANil))) (fOp gMod (fVar 1) (fC (.int 2)))))) (ins l) [t, .v (.int n), s] = .nx [t, .v (.int (l.foldl (fun n x => 2 * n + (x + n) % 2) n)), s']
  | [], s, n, _, _ => ⟨s, by simp [forGo, ins]⟩
  | x :: l, s, n, h, h0 => by
    have hx := h x List.mem_cons_self
    obtain ⟨s', e⟩ := number2_loop t l (.v (.int x)) (2 * n + (x + n) % 2) (fun y hy => h y (List.mem_cons_of_mem _ hy)) (by omega)
    refine ⟨s', ?_⟩
    rw [← ins_cons, List.foldl_cons]
    have m : n % 2 = 0 ∨ n % 2 = 1 := by omega
    rcases m with m | m
    · have e2 : 2 * n + (x + n) % 2 = 2 * n + x := by omega
      rw [e2] at e ⊢
      cases t <;> (simp -implicitDefEqProofs [forGo, m, ix_l0, ix_l1]; exact e)
    · have e2 : 2 * n + (x + n) % 2 = 2 * n + (1 - x) := by omega
      rw [e2] at e ⊢
      cases t <;> (simp -implicitDefEqProofs [forGo, m, ix_l0, ix_l1]; exact e)
theorem fold_num : ∀ S : List Int, S.reverse.foldl (fun n x => 2 * n + (x + n) % 2) 0 = numBy S
  | [] => rfl
  | x :: S => by rw [List.reverse_cons, List.foldl_append, fold_num S]; rfl
theorem ins_rev {l : List Int} : (ins l).reverse = ins l.reverse := by unfold ins; rw [List.map_reverse]
theorem number2_eq {S : List Int} (h : Bits S) : r_l_number2 [.tuple (ins S)] = .ok (.int (numBy S)) := by
  unfold r_l_number2 F_l_number2 DL.run
  obtain ⟨s', e⟩ := number2_loop (.v (.tuple (ins S))) S.reverse .un 0 (fun x hx => h x (List.mem_reverse.mp hx)) (by omega)
  rw [fold_num] at e
  simp -implicitDefEqProofs [slots0, ins_rev, e]
end DM
set_option Elab.async false
set_option linter.all false
set_option maxRecDepth 100000
set_option maxHeartbeats 1000000
/-! The law k06. -/
namespace DM
open PySem DL
theorem lc_range_map {step : D → Option (Option D)} {n : Nat} (g : Nat → Int) (h : ∀ i, i < n → step (.int i) = some (some (.int (g i)))) : lcGo step (ins ((List.range n).map fun i => ((i : Nat) : Int))) = some (ins ((List.range n).map g)) := by
  have key : ∀ l : List Nat, (∀ i ∈ l, i < n) → lcGo step (ins (l.map fun i => ((i : Nat) : Int))) = some (ins (l.map g)) := by
    intro l
    induction l with
    | nil => intro _; rfl
    | cons i l ih =>
      intro hl
      rw [List.map_cons, ← ins_cons, lcGo, h i (hl i List.mem_cons_self), ih fun i hi => hl i (List.mem_cons_of_mem _ hi), List.map_cons, ← ins_cons]
      rfl
  exact key _ fun i hi => List.mem_range.mp hi
theorem twos_at {i : Int} (j : Nat) (h : i = j) (hj : j ≤ 1000) : r_l_twos [.int i] = .ok (.int (2 ^ j)) := by
  subst h
  exact r_l_twos_eq j hj
theorem pow_small {i : Nat} (h : i ≤ 40) : (0 : Int) < 2 ^ i ∧ (2 : Int) ^ i < 18446744073709551616 := by
  refine ⟨pow2_pos i, ?_⟩
  have : (2 : Nat) ^ i ≤ 2 ^ 40 := Nat.pow_le_pow_right (by decide) h
  have e : ((2 ^ i : Nat) : Int) = (2 : Int) ^ i := by rw [Int.natCast_pow]; rfl
  rw [← e]
  have : (2 : Nat) ^ 40 < 18446744073709551616 := by decide
  omega
theorem l_setting_eq (ns : List Int) (k : Nat) {m : Nat} (h1 : 1 ≤ m) (h2 : m ≤ 40) : ∃ S, Bar m S ∧ r_l_setting [scr ns, .int k, .int m] = .ok (.tuple (ins S)) := by
  have em := mixed_at ns (i := k) k rfl
  have em1 := mixed_at ns (i := (k : Int) + 1) (k + 1) (by omega)
  have ec := cell_at ns (i := k) k rfl
  have tw := r_l_twos_eq m (by omega)
  have hp := pow2_pos m
  have hm0 : 0 < (m : Int) := by omega
  have hm0' : 0 < m := by omega
  have q1 := Int.emod_nonneg (mixed ns (k + 1) / 2) (show (m : Int) ≠ 0 by omega)
  have q2 := Int.emod_lt_of_pos (mixed ns (k + 1) / 2) hm0
  obtain ⟨j, hj⟩ : ∃ j : Nat, mixed ns (k + 1) / 2 % m = j := ⟨(mixed ns (k + 1) / 2 % m).toNat, by omega⟩
  have tj := r_l_twos_eq j (by omega)
  have hpj := pow2_pos j
  generalize ns.getD k 0 = x0 at ec
  generalize hN : (x0 * 1234577 + mixed ns k * 40503) % 2 ^ m = N
  have fin : ∀ n : Int, ∃ S, Bar m S ∧ (fRet (fCall gTuple (fACons (fLc (fRg rg1 (fACons (fVar 2) fANil)) (setN 4) (fC (.bool true)) (fOp gMod (fOp gFdiv (fVar 3) (fCall r_l_twos (fACons (fVar 4) fANil))) (fC (.int 2))) [4]) fANil)) [.v (scr ns), .v (.int k), .v (.int m), .v (.int n), .un]).toR = .ok (.tuple (ins S)) := by
    intro n
    refine ⟨(List.range m).map fun i => n / 2 ^ i % 2, ⟨by simp, fun x hx => ?_⟩, ?_⟩
    · obtain ⟨i, _, rfl⟩ := List.mem_map.mp hx
      omega
    · have lc := lc_range_map (step := lcStep (setN 4) (fC (.bool true)) (fOp gMod (fOp gFdiv (fVar 3) (fCall r_l_twos (fACons (fVar 4) fANil))) (fC (.int 2))) [.v (scr ns), .v (.int k), .v (.int m), .v (.int n), .un]) (n := m) (fun i => n / 2 ^ i % 2) fun i hi => by
        have ti := r_l_twos_eq i (by omega)
        have hi2 := pow_small (i := i) (by omega)
        simp -implicitDefEqProofs [lcStep, ti, hi2]
      simp -implicitDefEqProofs [rg1_nat (show m ≤ 1000000 by omega), wipeD]
      rw [lc]
      simp -implicitDefEqProofs [LIMn (show m ≤ 100000 by omega)]
  have e0 : r_l_setting [scr ns, .int k, .int m] = (F_l_setting [.v (scr ns), .v (.int k), .v (.int m), .un, .un]).toR := rfl
  by_cases c : mixed ns (k + 1) % 2 = 1
  · obtain ⟨S, hS, e⟩ := fin (N - N % 2 ^ j)
    refine ⟨S, hS, ?_⟩
    rw [e0]
    unfold F_l_setting
    refine seq_step (δ' := [.v (scr ns), .v (.int k), .v (.int m), .v (.int N), .un]) (by simp -implicitDefEqProofs [em, ec, tw, hp, hN]) ?_
    exact seq_step (δ' := [.v (scr ns), .v (.int k), .v (.int m), .v (.int (N - N % 2 ^ j)), .un]) (by simp -implicitDefEqProofs [em1, c, hm0, hm0', hj, tj, hpj]) e
  · obtain ⟨S, hS, e⟩ := fin N
    refine ⟨S, hS, ?_⟩
    rw [e0]
    unfold F_l_setting
    refine seq_step (δ' := [.v (scr ns), .v (.int k), .v (.int m), .v (.int N), .un]) (by simp -implicitDefEqProofs [em, ec, tw, hp, hN]) ?_
    exact seq_step (δ' := [.v (scr ns), .v (.int k), .v (.int m), .v (.int N), .un]) (by simp -implicitDefEqProofs [em1, c]) e
/-! ### gone -/
theorem gone_loop6 {k : Nat} (hk0 : 0 < k) (hk : k ≤ 40) {s : Int} (hs : s = 1 ∨ s = -1) (w : Sl) : ∀ (m : Nat) (a last : Int) (s3 : Sl), 0 ≤ a → a < 2 ^ k → 0 ≤ a + s * m → a + s * m < 2 ^ k → last ≠ (rgk k a s : Int) → ∃ s2' s3',
    forGo (setN 3) (fSeq (fIfS (fOr (fNot (fTst (fCall r_l_whole (fACons (fVar 3) fANil)))) (fOr (fNot (fTst (fChain gLe gLt (fC (.int 0)) (fVar 3) (fCall gLen (fACons (fVar 0) fANil))))) (fOr (fTst (fOp gEq (fVar 3) (fVar 2))) (fNot (fTst (fCall r_l_may (fACons (fVar 0) (fACons (fVar 3) fANil)))))))) (fRet (fC .none)) (.nx))
      (fSeq (fSet 0 (fCall r_l_turned (fACons (fVar 0) (fACons (fVar 3) fANil))))
      (fSet 2 (fVar 3)))) (ins (rgs k s a m)) [.v (.tuple (ins (settingBy k a))), w, .v (.int last), s3] = .nx [.v (.tuple (ins (settingBy k (a + s * m)))), w, s2', s3'] := by
  intro m
  induction m with
  | zero => intro a last s3 _ _ _ _ _; exact ⟨.v (.int last), s3, by simp [rgs, forGo, ins]⟩
  | succ m ih =>
    intro a last s3 a0 a1 b0 b1 hl
    have e3 : ((m + 1 : Nat) : Int) = (m : Int) + 1 := by omega
    rw [e3, Int.mul_add, Int.mul_one] at b0 b1
    have c0 : 0 ≤ a + s ∧ a + s < 2 ^ k := by rcases hs with rfl | rfl <;> omega
    obtain ⟨hj, q, hm⟩ := ring_step hs a0 a1 c0.1 c0.2
    have hne : rgk k (a + s) s ≠ rgk k a s := rgk_ne hs hk0
    obtain ⟨s2', s3', r⟩ := ih (a + s) (rgk k a s : Int) (.v (.int (rgk k a s : Int))) c0.1 c0.2 (by omega) (by omega) (by omega)
    refine ⟨s2', s3', ?_⟩
    have e4 : a + s + s * (m : Int) = a + s * ((m + 1 : Nat) : Int) := by rw [e3, Int.mul_add, Int.mul_one]; omega
    rw [e4] at r
    rw [rgs, ← ins_cons]
    have hlen := settingBy_len k a
    rw [q] at r
    generalize rgk k a s = j at *
    have hl' : ¬ (j : Int) = last := fun e => hl e.symm
    have my := r_l_may_eq (settingBy k a) j (by omega)
    rw [hm] at my
    have tu := l_turned_eq (S := settingBy k a) (j := j) (by omega) (by omega)
    have h0 : (j : Int) < (k : Int) := by omega
    rw [forGo]
    simp -implicitDefEqProofs [hlen, h0, hj, hl', my, tu]
    exact r
theorem gone6_eq {k : Nat} (hk0 : 0 < k) (hk : k ≤ 40) {S : List Int} (hS : Bar k S) {s : Int} (hs : s = 1 ∨ s = -1) (m : Nat) (b0 : 0 ≤ numBy S + s * m) (b1 : numBy S + s * m < 2 ^ k) :
    r_l_gone [.tuple (ins S), .list (ins (rgs k s (numBy S) m))] = .ok (.tuple (ins (settingBy k (numBy S + s * m)))) := by
  obtain ⟨s2, s3, e⟩ := gone_loop6 hk0 hk hs (.v (.list (ins (rgs k s (numBy S) m)))) m (numBy S) (-1) .un hS.num.1 hS.num.2 b0 b1 (by omega)
  rw [hS.back] at e
  have e0 : r_l_gone [.tuple (ins S), .list (ins (rgs k s (numBy S) m))] = (F_l_gone [.v (.tuple (ins S)), .v (.list (ins (rgs k s (numBy S) m))), .un, .un]).toR := rfl
  rw [e0]
  unfold F_l_gone
  refine seq_step (δ' := [.v (.tuple (ins S)), .v (.list (ins (rgs k s (numBy S) m))), .v (.int (-1)), .un]) (by simp -implicitDefEqProofs) ?_
  exact seq_step (by rw [fFor_ap]; simp only [fSeqI_ap, fVar_s, fVar_z, to2_ok, seqD_l]; exact e) (by simp -implicitDefEqProofs)
theorem intsOf_ins : ∀ l : List Int, intsOf (ins l) = some l
  | [] => rfl
  | x :: l => by rw [← ins_cons, intsOf, intsOf_ins l]; rfl
abbrev B6n : List Sl → Fl := (fSeq (fSetO 5 (fLc (fRg rg1 (fACons (fCall gLen (fACons (fVar 1) fANil)) fANil)) (setN 6) (fTst (fCall r_l_may (fACons (fVar 1) (fACons (fVar 6) fANil)))) (fVar 6) [6]))
      (fSeq (fIfS (fAnd (fTst (fOp gGt (fCall gLen (fACons (fVar 5) fANil)) (fC (.int 1)))) (fTst (fOp (gIn false) (fVar 3) (fVar 5)))) (fRem 5 (fVar 3)) (.nx))
      (fSeq (fSetB 3 (fOp gIx (fVar 5) (fOp gMod (fOp gFdiv (fCall r_l_mixed (fACons (fVar 0) (fACons (fC (.int 10)) fANil))) (fOp gAdd (fC (.int 1)) (fVar 4))) (fCall gLen (fACons (fVar 5) fANil)))))
      (fSet 1 (fCall r_l_turned (fACons (fVar 1) (fACons (fVar 3) fANil)))))))
theorem near_turn (ns : List Int) {k : Nat} (hk0 : 0 < k) (hk : k ≤ 40) {T : List Int} (hT : Bar k T) (w : Sl) (last : Int) (lo : Nat) (hlo : lo ≤ 1000) (s5 s6 : Sl) : ∃ (j : Nat) (L : List Int), j < k ∧
    B6n [.v (scr ns), .v (.tuple (ins T)), w, .v (.int last), .v (.int lo), s5, s6] = .nx [.v (scr ns), .v (.tuple (ins (turnI T j))), w, .v (.int j), .v (.int lo), .own (ins L), s6] := by
  have hl := hT.len
  have lc := lc_range (step := lcStep (setN 6) (fTst (fCall r_l_may (fACons (fVar 1) (fACons (fVar 6) fANil)))) (fVar 6) (wipeD [.v (scr ns), .v (.tuple (ins T)), w, .v (.int last), .v (.int lo), s5, s6] [6])) (n := k) (mayP T) fun i hi => by
    have my := r_l_may_eq T i (by omega)
    simp -implicitDefEqProofs [lcStep, wipeD, my]
    cases mayP T i <;> rfl
  have hmem : ∀ x ∈ ((List.range k).filter (mayP T)).map (fun i => ((i : Nat) : Int)), ∃ i : Nat, i < k ∧ x = i := fun x hx => by
    obtain ⟨i, hi, rfl⟩ := List.mem_map.mp hx
    exact ⟨i, List.mem_range.mp (List.mem_filter.mp hi).1, rfl⟩
  have hne : 0 < (((List.range k).filter (mayP T)).map (fun i => ((i : Nat) : Int))).length := by
    rw [List.length_map]
    apply List.length_pos_of_mem (a := 0)
    exact List.mem_filter.mpr ⟨List.mem_range.mpr hk0, by simp [mayP]⟩
  generalize ((List.range k).filter (mayP T)).map (fun i => ((i : Nat) : Int)) = L at *
  have em := mixed_at ns (i := 10) 10 rfl
  have hp : 0 < 1 + (lo : Int) := by omega
  have hp2 : 1 + (lo : Int) < 18446744073709551616 := by omega
  have st1 : fSetO 5 (fLc (fRg rg1 (fACons (fCall gLen (fACons (fVar 1) fANil)) fANil)) (setN 6) (fTst (fCall r_l_may (fACons (fVar 1) (fACons (fVar 6) fANil)))) (fVar 6) [6]) [.v (scr ns), .v (.tuple (ins T)), w, .v (.int last), .v (.int lo), s5, s6] = .nx [.v (scr ns), .v (.tuple (ins T)), w, .v (.int last), .v (.int lo), .own (ins L), s6] := by
    rw [fSetO_ap, fLc_ap]
    have hr : fRg rg1 (fACons (fCall gLen (fACons (fVar 1) fANil)) fANil) [.v (scr ns), .v (.tuple (ins T)), w, .v (.int last), .v (.int lo), s5, s6] = .ok (ins ((List.range k).map fun i => ((i : Nat) : Int))) := by
      simp -implicitDefEqProofs [hl, rg1_nat (show k ≤ 1000000 by omega)]
    rw [hr]
    simp only []
    rw [lc]
    simp -implicitDefEqProofs [LIMn (show k ≤ 100000 by omega)]
  have fin : ∀ L' : List Int, 0 < L'.length → (∀ x ∈ L', ∃ i : Nat, i < k ∧ x = i) → ∃ j : Nat, j < k ∧ (fSeq (fSetB 3 (fOp gIx (fVar 5) (fOp gMod (fOp gFdiv (fCall r_l_mixed (fACons (fVar 0) (fACons (fC (.int 10)) fANil))) (fOp gAdd (fC (.int 1)) (fVar 4))) (fCall gLen (fACons (fVar 5) fANil)))))
      (fSet 1 (fCall r_l_turned (fACons (fVar 1) (fACons (fVar 3) fANil))))) [.v (scr ns), .v (.tuple (ins T)), w, .v (.int last), .v (.int lo), .own (ins L'), s6] = .nx [.v (scr ns), .v (.tuple (ins (turnI T j))), w, .v (.int j), .v (.int lo), .own (ins L'), s6] := by
    intro L' h0 hm
    have h0' : 0 < (L'.length : Int) := by omega
    have q1 := Int.emod_nonneg (mixed ns 10 / (1 + (lo : Int))) (show (L'.length : Int) ≠ 0 by omega)
    have q2 := Int.emod_lt_of_pos (mixed ns 10 / (1 + (lo : Int))) h0'
    obtain ⟨ix, hix⟩ : ∃ ix : Nat, mixed ns 10 / (1 + (lo : Int)) % L'.length = ix := ⟨(mixed ns 10 / (1 + (lo : Int)) % L'.length).toNat, by omega⟩
    have hixl : ix < L'.length := by omega
    obtain ⟨j, hj, ej⟩ := hm L'[ix] (List.getElem_mem hixl)
    have gx := gIx_l hixl
    rw [ej] at gx
    have tu := l_turned_eq (S := T) (j := j) (by omega) (by omega)
    refine ⟨j, hj, seq_nx (δ' := [.v (scr ns), .v (.tuple (ins T)), w, .v (.int j), .v (.int lo), .own (ins L'), s6]) ?_ ?_⟩
    · simp -implicitDefEqProofs [em, hp, hp2, h0, h0', hix, gx]
    · simp -implicitDefEqProofs [tu]
  by_cases c : 1 < L.length ∧ last ∈ L
  · have hle := List.length_erase_of_mem c.2
    obtain ⟨j, hj, e⟩ := fin (L.erase last) (by omega) fun x hx => hmem x (List.mem_of_mem_erase hx)
    refine ⟨j, L.erase last, hj, seq_nx st1 (seq_nx (δ' := [.v (scr ns), .v (.tuple (ins T)), w, .v (.int last), .v (.int lo), .own (ins (L.erase last)), s6]) ?_ e)⟩
    have c1 : (1 : Int) < (L.length : Int) := by omega
    simp -implicitDefEqProofs [c.1, c1, gIn_l, c.2, fRem, intsOf_ins]
    rfl
  · obtain ⟨j, hj, e⟩ := fin L hne hmem
    refine ⟨j, L, hj, seq_nx st1 (seq_nx (δ' := [.v (scr ns), .v (.tuple (ins T)), w, .v (.int last), .v (.int lo), .own (ins L), s6]) ?_ e)⟩
    by_cases c1 : 1 < L.length
    · have c2 : ¬ last ∈ L := fun h => c ⟨c1, h⟩
      have c3 : (1 : Int) < (L.length : Int) := by omega
      simp -implicitDefEqProofs [c1, c3, gIn_l, c2]
    · have c3 : ¬ (1 : Int) < (L.length : Int) := by omega
      simp -implicitDefEqProofs [c1, c3, gIn_l]
theorem near_loop (ns : List Int) {k : Nat} (hk0 : 0 < k) (hk : k ≤ 40) (w : Sl) : ∀ (m lo : Nat) (T : List Int) (last : Int) (s4 s5 s6 : Sl), Bar k T → lo + m ≤ 1000 → ∃ T' last' s4' s5', Bar k T' ∧
    forGo (setN 4) B6n (rgD lo 1 m) [.v (scr ns), .v (.tuple (ins T)), w, .v (.int last), s4, s5, s6] = .nx [.v (scr ns), .v (.tuple (ins T')), w, .v (.int last'), s4', s5', s6] := by
  intro m
  induction m with
  | zero => intro lo T last s4 s5 s6 h _; exact ⟨T, last, s4, s5, h, by rw [rgD_zero, forGo]⟩
  | succ m ih =>
    intro lo T last s4 s5 s6 h hl
    obtain ⟨j, L, hj, e⟩ := near_turn ns hk0 hk h w last lo (by omega) s5 s6
    obtain ⟨T', last', s4', s5', h', e'⟩ := ih (lo + 1) (turnI T j) j (.v (.int lo)) (.own (ins L)) s6 (turn_bar h j) (by omega)
    refine ⟨T', last', s4', s5', h', ?_⟩
    have e2 : ((lo + 1 : Nat) : Int) = (lo : Int) + 1 := by omega
    rw [e2] at e'
    rw [rgD_succ, forGo, setN_ap]
    simp only [List.set_cons_succ, List.set_cons_zero]
    rw [e]
    exact e'
theorem l_near_eq (ns : List Int) {k : Nat} (hk0 : 0 < k) (hk : k ≤ 40) {S : List Int} (hS : Bar k S) {m : Nat} (hm : m ≤ 1000) : ∃ T, Bar k T ∧ r_l_near [scr ns, .tuple (ins S), .int m] = .ok (.tuple (ins T)) := by
  obtain ⟨T, last, s4, s5, hT, e⟩ := near_loop ns hk0 hk (.v (.int m)) m 0 S (-1) .un .un .un hS (by omega)
  refine ⟨T, hT, ?_⟩
  have e0 : r_l_near [scr ns, .tuple (ins S), .int m] = (F_l_near [.v (scr ns), .v (.tuple (ins S)), .v (.int m), .un, .un, .un, .un]).toR := rfl
  rw [e0]
  unfold F_l_near
  refine seq_step (δ' := [.v (scr ns), .v (.tuple (ins S)), .v (.int m), .v (.int (-1)), .un, .un, .un]) (by simp -implicitDefEqProofs) ?_
  have hb : -BIG ≤ (m : Int) ∧ (m : Int) ≤ BIG := by unfold BIG; omega
  refine seq_step (δ' := [.v (scr ns), .v (.tuple (ins T)), .v (.int m), .v (.int last), s4, s5, .un]) ?_ (by simp -implicitDefEqProofs)
  have hr : fRg rg1 (fACons (fVar 2) fANil) [.v (scr ns), .v (.tuple (ins S)), .v (.int m), .v (.int (-1)), .un, .un, .un] = .ok (rgD 0 1 m) := by
    simp -implicitDefEqProofs [rg1, hb]
  rw [fFor_ap, hr]
  exact e
end DM
set_option Elab.async false
set_option linter.all false
set_option maxRecDepth 100000
set_option maxHeartbeats 1000000
/-! The law k02. -/
namespace DM
open PySem DL
theorem beq_no {x y : Str} (h : x ≠ y) : (x == y) = false := beq_eq_false_iff_ne.mpr h
theorem setting_word : word "BadSetting" = [.str (Str.ofString "setting")] := by
  unfold word
  rw [beq_no (x := "BadSetting") (y := "BadBar") (by decide +kernel)]
  rfl
theorem bar_word : word "BadBar" = [.str (Str.ofString "bar")] := rfl
theorem number_word : word "BadNumber" = [.str (Str.ofString "number")] := by
  unfold word
  rw [beq_no (x := "BadNumber") (y := "BadBar") (by decide +kernel), beq_no (x := "BadNumber") (y := "BadSetting") (by decide +kernel), beq_no (x := "BadNumber") (y := "BadChest") (by decide +kernel), beq_no (x := "BadNumber") (y := "BadRow") (by decide +kernel)]
  rfl
/-! ### what is no setting -/
def BadS (d : D) : Prop := r_b_need_setting [d] = .exc "BadSetting"
theorem badS_other {d : D} (h : isT "tuple" d = false) : BadS d := by
  unfold BadS r_b_need_setting F_b_need_setting DL.run
  simp -implicitDefEqProofs [slots0, h]
theorem badS_tuple {ds : List D} (h : okSetting (.tuple ds) = false) : BadS (.tuple ds) := by
  unfold BadS
  rw [r_b_need_setting_eq, h]
  rfl
theorem badS_at {ds : List D} {x : D} (hx : x ∈ ds) (h : among x 0 1 = false) : BadS (.tuple ds) := badS_tuple (by
  show (decide (1 ≤ ds.length) && decide (ds.length ≤ 40) && ds.all fun x => among x 0 1) = false
  have : (ds.all fun x => among x 0 1) = false := by
    rw [List.all_eq_false]
    exact ⟨x, hx, by rw [h]; decide⟩
  rw [this, Bool.and_false])
theorem badS_long {ds : List D} (h : ds.length = 0 ∨ 40 < ds.length) : BadS (.tuple ds) := badS_tuple (by
  show (decide (1 ≤ ds.length) && decide (ds.length ≤ 40) && ds.all fun x => among x 0 1) = false
  rcases h with h | h
  · rw [decide_eq_false (by omega : ¬ 1 ≤ ds.length)]; rfl
  · rw [decide_eq_false (by omega : ¬ ds.length ≤ 40)]; simp)
theorem cutD_get {S : List Int} {j : Nat} {x : D} (ds es : List D) : x ∈ ds ++ [x] ++ es := by simp
theorem spoilt_eq {k : Nat} (k1 : 1 ≤ k) (k40 : k ≤ 40) {S : List Int} (hS : Bar k S) {cell : Int} (hc : 0 ≤ cell) : ∃ d, r_l_spoilt [.tuple (ins S), .int cell] = .ok d ∧ BadS d := by
  have hl := hS.len
  have p0 : 0 < (S.length : Int) := by omega
  have p0' : 0 < S.length := by omega
  have q1 := Int.emod_nonneg (cell / 13) (show (S.length : Int) ≠ 0 by omega)
  have q2 := Int.emod_lt_of_pos (cell / 13) p0
  obtain ⟨a, ha⟩ : ∃ a : Nat, cell / 13 % (S.length : Int) = a := ⟨(cell / 13 % (S.length : Int)).toNat, by omega⟩
  have e0 : r_l_spoilt [.tuple (ins S), .int cell] = (F_l_spoilt [.v (.tuple (ins S)), .v (.int cell), .un, .un, .un]).toR := rfl
  have tr := tup_rep (m := 41 - S.length) (by omega)
  rw [show ((41 - S.length : Nat) : Int) = 41 - (S.length : Int) by omega] at tr
  have c41 := cat_t (xs := ins S) (ys := ins (List.replicate (41 - S.length) 0)) (by simp; omega)
  have hm : ∃ m : Nat, cell % 14 = m ∧ m < 14 := ⟨(cell % 14).toNat, by omega, by omega⟩
  obtain ⟨m, em, m14⟩ := hm
  have ct := cutD_take (ins S) a
  have cd := cutD_drop (ins S) (a + 1)
  rw [show ((a + 1 : Nat) : Int) = (a : Int) + 1 by omega] at cd
  generalize hBL : ([.int 2, .int (-1), .bool true, .bool false, .str (Str.ofString "1"), .none, .tuple [.int 0]] : List D) = BL
  generalize hSL : ([.list (ins S), .str (Str.ofString "01"), .none, .int 1, .dict [], .tuple [], .tuple (ins S ++ ins (List.replicate (41 - S.length) 0))] : List D) = SL
  have bl : BL.length = 7 := by rw [← hBL]; rfl
  have sl : SL.length = 7 := by rw [← hSL]; rfl
  have badB : ∀ x ∈ BL, among x 0 1 = false := by
    intro x hx
    rw [← hBL] at hx
    simp only [List.mem_cons, List.not_mem_nil, or_false] at hx
    rcases hx with rfl | rfl | rfl | rfl | rfl | rfl | rfl <;> rfl
  have badL : ∀ x ∈ SL, BadS x := by
    intro x hx
    rw [← hSL] at hx
    simp only [List.mem_cons, List.not_mem_nil, or_false] at hx
    rcases hx with rfl | rfl | rfl | rfl | rfl | rfl | rfl
    · exact badS_other rfl
    · exact badS_other rfl
    · exact badS_other rfl
    · exact badS_other rfl
    · exact badS_other rfl
    · exact badS_long (.inl rfl)
    · exact badS_long (.inr (by simp; omega))
  have st : ∀ {B : List Sl → Fl} {r : R}, (B [.v (.tuple (ins S)), .v (.int cell), .v (.int a), .v (.list BL), .v (.list SL)]).toR = r → (fSeq (fSet 2 (fOp gMod (fOp gFdiv (fVar 1) (fC (.int 13))) (fCall gLen (fACons (fVar 0) fANil))))
    (fSeq (fSet 3 (fLst (fACons (fC (.int 2)) (fACons (fNeg (fC (.int 1))) (fACons (fC (.bool true)) (fACons (fC (.bool false)) (fACons (fC (.str (Str.ofString "1"))) (fACons (fC .none) (fACons (fTup (fACons (fC (.int 0)) fANil)) fANil)))))))))
    (fSeq (fSet 4 (fLst (fACons (fCall gList (fACons (fVar 0) fANil)) (fACons (fC (.str (Str.ofString "01"))) (fACons (fC .none) (fACons (fC (.int 1)) (fACons (fC (.dict [])) (fACons (fTup fANil) (fACons (fOp gAdd (fVar 0) (fOp gMul (fTup (fACons (fC (.int 0)) fANil)) (fOp gSub (fC (.int 41)) (fCall gLen (fACons (fVar 0) fANil))))) fANil))))))))) B)) [.v (.tuple (ins S)), .v (.int cell), .un, .un, .un]).toR = r := fun {B r} h => by
    refine seq_step (δ' := [.v (.tuple (ins S)), .v (.int cell), .v (.int a), .un, .un]) (by simp -implicitDefEqProofs [p0, p0', ha]) ?_
    refine seq_step (δ' := [.v (.tuple (ins S)), .v (.int cell), .v (.int a), .v (.list BL), .un]) (by rw [← hBL]; simp -implicitDefEqProofs [LIMn (show 7 ≤ 100000 by omega)]) ?_
    refine seq_step (δ' := [.v (.tuple (ins S)), .v (.int cell), .v (.int a), .v (.list BL), .v (.list SL)]) (by rw [← hSL]; generalize ins (List.replicate (41 - S.length) 0) = Z at *; simp -implicitDefEqProofs [LIMn (show 7 ≤ 100000 by omega), tr, c41]) h
  by_cases lt : m < 7
  · have ix : gIx (.list SL) (.int m) = .ok (SL[m]'(by omega)) := by
      show (match L2.atI SL (m : Int) with | some d => R.ok d | none => .bad) = _
      rw [atI_lt (by omega)]
    refine ⟨SL[m]'(by omega), ?_, badL _ (List.getElem_mem _)⟩
    rw [e0]
    unfold F_l_spoilt
    refine st ?_
    have lt' : (m : Int) < 7 := by omega
    simp -implicitDefEqProofs [em, lt, lt', ix]
  · have ix : gIx (.list BL) (.int ((m : Int) - 7)) = .ok (BL[m - 7]'(by omega)) := by
      rw [show (m : Int) - 7 = ((m - 7 : Nat) : Int) by omega]
      show (match L2.atI BL ((m - 7 : Nat) : Int) with | some d => R.ok d | none => .bad) = _
      rw [atI_lt (by omega)]
    have b1 := badB _ (List.getElem_mem (show m - 7 < BL.length by omega))
    generalize BL[m - 7]'(by omega) = x at ix b1
    have t1 : ((ins S).take a).length ≤ S.length := by rw [List.length_take, ints_length]; omega
    have t2 : ((ins S).drop (a + 1)).length ≤ S.length := by rw [List.length_drop, ints_length]; omega
    have k1 := cat_t (xs := (ins S).take a) (ys := [x]) (by simp only [List.length_cons, List.length_nil]; omega)
    have k2 := cat_t (xs := (ins S).take a ++ [x]) (ys := (ins S).drop (a + 1)) (by rw [List.length_append]; simp only [List.length_cons, List.length_nil]; omega)
    refine ⟨.tuple ((ins S).take a ++ [x] ++ (ins S).drop (a + 1)), ?_, badS_at (x := x) (by simp) b1⟩
    rw [e0]
    unfold F_l_spoilt
    refine st ?_
    have lt' : ¬ (m : Int) < 7 := by omega
    generalize (ins S).take a = T1 at *
    generalize (ins S).drop (a + 1) = T2 at *
    have nl : ∀ z : List Int, ins S = ins z → True := fun _ _ => trivial
    simp -implicitDefEqProofs only [List.append_assoc] at k2 ⊢
    simp -implicitDefEqProofs [em, lt, lt', ix, ct, cd, k1, k2]
/-! ### refusals -/
section
variable {k : Nat} (k1 : 1 ≤ k) (k40 : k ≤ 40) {S : List Int} (hS : Bar k S) {d : D} (hd : BadS d)
include k1 k40 hS hd
theorem asked_bad {w : Int} (h0 : 0 ≤ w) (h9 : w < 9) : r_l_asked4 [.int w, d, .tuple (ins S)] = .exc "BadSetting" := by
  have hl := hS.len
  have ok := okSetting_bits hS.bits (by omega) (by omega)
  unfold BadS at hd
  have n2 : ∀ x, r_b_need_two [d, x] = .exc "BadSetting" := fun x => by
    unfold r_b_need_two F_b_need_two DL.run
    simp -implicitDefEqProofs [slots0, hd]
  have n3 : r_b_need_two [.tuple (ins S), d] = .exc "BadSetting" := by
    unfold r_b_need_two F_b_need_two DL.run
    simp -implicitDefEqProofs [slots0, hd, r_b_need_setting_eq, ok]
  have a1 : r_b_changeable3 [d] = .exc "BadSetting" := by unfold r_b_changeable3 F_b_changeable3 DL.run; simp -implicitDefEqProofs [slots0, hd]
  have a2 : r_b_changed3 [d, .int (-1)] = .exc "BadSetting" := by unfold r_b_changed3 F_b_changed3 DL.run; simp -implicitDefEqProofs [slots0, hd]
  have a3 : r_b_number_of [d] = .exc "BadSetting" := by unfold r_b_number_of F_b_number_of DL.run; simp -implicitDefEqProofs [slots0, hd]
  have a4 : r_b_apart [d, .none] = .exc "BadSetting" := by unfold r_b_apart F_b_apart DL.run; simp -implicitDefEqProofs [slots0, n2]
  have a5 : r_b_apart [.tuple (ins S), d] = .exc "BadSetting" := by unfold r_b_apart F_b_apart DL.run; simp -implicitDefEqProofs [slots0, n3]
  have a6 : r_b_way [d, .tuple (ins S), .int (-1)] = .exc "BadSetting" := by unfold r_b_way F_b_way DL.run; simp -implicitDefEqProofs [slots0, n2]
  have a7 : r_b_way [.tuple (ins S), d, .int (-1)] = .exc "BadSetting" := by unfold r_b_way F_b_way DL.run; simp -implicitDefEqProofs [slots0, n3]
  have a8 : r_n_shown2 [d] = .exc "BadSetting" := by unfold r_n_shown2 F_n_shown2 DL.run; simp -implicitDefEqProofs [slots0, hd]
  have e0 : r_l_asked4 [.int w, d, .tuple (ins S)] = (F_l_asked4 [.v (.int w), .v d, .v (.tuple (ins S))]).toR := rfl
  rw [e0]
  unfold F_l_asked4
  have hw : w = 0 ∨ w = 1 ∨ w = 2 ∨ w = 3 ∨ w = 4 ∨ w = 5 ∨ w = 6 ∨ w = 7 ∨ w = 8 := by omega
  rcases hw with rfl | rfl | rfl | rfl | rfl | rfl | rfl | rfl | rfl
  · simp -implicitDefEqProofs [hd]
  · simp -implicitDefEqProofs [a1]
  · simp -implicitDefEqProofs [a2]
  · simp -implicitDefEqProofs [a3]
  · simp -implicitDefEqProofs [a4]
  · simp -implicitDefEqProofs [a5]
  · simp -implicitDefEqProofs [a6]
  · simp -implicitDefEqProofs [a7]
  · simp -implicitDefEqProofs [a8]
end
abbrev L2w : List Str := ["BadSetting", "BadBar", "BadNumber"]
theorem try_word {i : Nat} {b : List Sl → Fl} {δ δ' : List Sl} {c : Str} (h : b δ = .exc c δ') (hc : c ∈ L2w) (hi : i < δ'.length) : fTry i L2w b (fun c => .rn (word c)) δ = .rn (word c) := by
  unfold fTry
  rw [h]
  exact if_pos ⟨hc, hi⟩
theorem told_exc {w : Int} {d g : D} {c : Str} (hc : c ∈ L2w) (h : r_l_asked4 [.int w, d, g] = .exc c) : r_l_told4 [.int w, d, g] = .new (word c) := by
  have e0 : r_l_told4 [.int w, d, g] = (F_l_told4 [.v (.int w), .v d, .v g, .un]).toR := rfl
  rw [e0]
  unfold F_l_told4
  have b : fDrop (fCall r_l_asked4 (fACons (fVar 0) (fACons (fVar 1) (fACons (fVar 2) fANil)))) [.v (.int w), .v d, .v g, .un] = .exc c [.v (.int w), .v d, .v g, .un] := by simp -implicitDefEqProofs [h]
  rw [fSeq_ap, try_word b hc (by simp)]
  rfl
theorem made_exc {d x : D} {c : Str} (hc : c ∈ L2w) (h : r_b_setting_at [d, x] = .exc c) : r_l_made [d, x] = .new (word c) := by
  have e0 : r_l_made [d, x] = (F_l_made [.v d, .v x, .un]).toR := rfl
  rw [e0]
  unfold F_l_made
  have b : fDrop (fCall r_b_setting_at (fACons (fVar 0) (fACons (fVar 1) fANil))) [.v d, .v x, .un] = .exc c [.v d, .v x, .un] := by simp -implicitDefEqProofs [h]
  rw [fSeq_ap, try_word b hc (by simp)]
  rfl
theorem way_exc {d x y : D} {c : Str} (hc : c ∈ L2w) (h : r_b_way [d, x, y] = .exc c) : r_l_way [d, x, y] = .new (word c) := by
  have e0 : r_l_way [d, x, y] = (F_l_way [.v d, .v x, .v y, .un]).toR := rfl
  rw [e0]
  unfold F_l_way
  have b : fDrop (fCall r_b_way (fACons (fVar 0) (fACons (fVar 1) (fACons (fVar 2) fANil)))) [.v d, .v x, .v y, .un] = .exc c [.v d, .v x, .v y, .un] := by simp -implicitDefEqProofs [h]
  rw [fSeq_ap, try_word b hc (by simp)]
  rfl
theorem at_bar {d : D} (x : D) (h : among d 1 40 = false) : r_b_setting_at [d, x] = .exc "BadBar" := by
  unfold r_b_setting_at F_b_setting_at DL.run
  simp -implicitDefEqProofs [slots0, h]
theorem at_number {k : Nat} (k1 : 1 ≤ k) (k40 : k ≤ 40) {d : D} (h : among d 0 (2 ^ k - 1) = false) : r_b_setting_at [.int k, d] = .exc "BadNumber" := by
  have a1 : (1 : Int) ≤ k := by omega
  have a2 : (k : Int) ≤ 40 := by omega
  have so := r_b_settings_of_eq k (by omega)
  unfold r_b_setting_at F_b_setting_at DL.run
  generalize (2 : Int) ^ k = p at *
  simp -implicitDefEqProofs [slots0, a1, a2, so, h]
theorem way_most {k : Nat} (k1 : 1 ≤ k) (k40 : k ≤ 40) {S : List Int} (hS : Bar k S) {d : D} (h : among d 0 1000 = false) : r_b_way [.tuple (ins S), .tuple (ins S), d] = .exc "BadNumber" := by
  have n2 := need_two_eq k1 k40 hS hS
  have nm : r_b_need_most [d] = .exc "BadNumber" := by
    unfold r_b_need_most F_b_need_most DL.run
    simp -implicitDefEqProofs [slots0, h]
  unfold r_b_way F_b_way DL.run
  simp -implicitDefEqProofs [slots0, n2, nm]
theorem two_unlike {S T : List Int} (hS : okSetting (.tuple (ins S)) = true) (hT : okSetting (.tuple (ins T)) = true) (hn : S.length ≠ T.length) : r_b_need_two [.tuple (ins S), .tuple (ins T)] = .exc "BadSetting" := by
  have h : ¬ (S.length : Int) = (T.length : Int) := by omega
  unfold r_b_need_two F_b_need_two DL.run
  simp -implicitDefEqProofs [slots0, r_b_need_setting_eq, hS, hT, h]
theorem word_ne (z : Str) : gNe (.list [.str z]) (.list [.str z]) = .ok (.bool false) := gNe_self (by simp [cmpb, PyData.plain, PyData.plainAll, PyData.depth, PyData.depthAll])
theorem test_loop {f : D → R} {e : List Sl → R} {z : Str} (i : Nat) (δ0 : List Sl) (hi : i < δ0.length) (he : ∀ d, e (thaw (δ0.set i (.v d))) = f d) : ∀ (ds : List D) (s : Sl), (∀ d ∈ ds, f d = .new [.str z]) → ∃ s', forGo (setN i) (fIfS (fTst (fOp gNe e (fLst (fACons (fC (.str z)) fANil)))) (fRet (fC (.bool false))) (.nx)) ds (δ0.set i s) = .nx (δ0.set i s')
  | [], s, _ => ⟨s, rfl⟩
  | d :: ds, s, h => by
    obtain ⟨s', ih⟩ := test_loop i δ0 hi he ds (.v d) fun x hx => h x (List.mem_cons_of_mem _ hx)
    have hd := h d List.mem_cons_self
    have e1 := he d
    rw [hd] at e1
    have wn := word_ne z
    refine ⟨s', ?_⟩
    rw [forGo]
    simp only [setN_ap, List.set_set]
    generalize δ0.set i (.v d) = δ1 at *
    simp -implicitDefEqProofs [e1, wn]
    exact ih
end DM
set_option Elab.async false
set_option linter.all false
set_option maxRecDepth 100000
set_option maxHeartbeats 1000000
namespace DM
open PySem DL
theorem cutD_last {S : List Int} (h : 1 ≤ S.length) : cutD (ins S) none (some (-1)) = ins (S.take (S.length - 1)) := by
  rw [cutD_ins]
  unfold cutD
  have e1 : HT.sIx S.length 0 none = 0 := HT.sIx_none _ _
  have e2 : HT.sIx S.length S.length (some (-1)) = S.length - 1 := by
    unfold HT.sIx
    simp
    omega
  rw [e1, e2]
  simp
theorem bits_take {S : List Int} (h : Bits S) (n : Nat) : Bits (S.take n) := fun x hx => h x (List.mem_of_mem_take hx)
theorem bits_snoc {S : List Int} (h : Bits S) : Bits (S ++ [1]) := fun x hx => by
  rcases List.mem_append.mp hx with hx | hx
  · exact h x hx
  · rw [List.mem_singleton.mp hx]; exact .inr rfl
theorem law_k02 (ns : List Int) : r_law_k026 [scr ns] = .ok (.bool true) := by
  obtain ⟨k, hk, k1, k40⟩ : ∃ k : Nat, 1 + mixed ns 0 % 40 = k ∧ 1 ≤ k ∧ k ≤ 40 := by
    have := mixed_nn ns 0
    exact ⟨(1 + mixed ns 0 % 40).toNat, by omega, by omega, by omega⟩
  have em0 := mixed_at ns (i := 0) 0 rfl
  have em4 := mixed_at ns (i := 4) 4 rfl
  have m4 := mixed_nn ns 4
  obtain ⟨S, hS, eS⟩ := l_setting_eq ns 1 k1 k40
  have eS' : r_l_setting [scr ns, .int 1, .int k] = .ok (.tuple (ins S)) := eS
  have hl := hS.len
  generalize mixed ns 4 = cell at *
  obtain ⟨bad, eb, hbad⟩ := spoilt_eq k1 k40 hS (cell := cell / 9) (by omega)
  have ok := okSetting_bits hS.bits (by omega) (by omega)
  have as := asked_bad k1 k40 hS hbad (w := cell % 9) (by omega) (by omega)
  have to := told_exc (by simp) as
  rw [setting_word] at to
  have ws := word_ne (Str.ofString "setting")
  have e0 : r_law_k026 [scr ns] = (F_law_k026 [.v (scr ns), .un, .un, .un, .un, .un, .un]).toR := rfl
  rw [e0]
  unfold F_law_k026
  refine seq_step (δ' := [.v (scr ns), .v (.int k), .un, .un, .un, .un, .un]) (by simp -implicitDefEqProofs [em0, hk]) ?_
  refine seq_step (δ' := [.v (scr ns), .v (.int k), .v (.tuple (ins S)), .un, .un, .un, .un]) (by simp -implicitDefEqProofs [eS']) ?_
  refine seq_step (δ' := [.v (scr ns), .v (.int k), .v (.tuple (ins S)), .v (.int cell), .un, .un, .un]) (by simp -implicitDefEqProofs [em4]) ?_
  refine seq_step (δ' := [.v (scr ns), .v (.int k), .v (.tuple (ins S)), .v (.int cell), .v bad, .un, .un]) (by simp -implicitDefEqProofs [eb]) ?_
  refine seq_step (δ' := [.v (scr ns), .v (.int k), .v (.tuple (ins S)), .v (.int cell), .v bad, .un, .un]) ?_ ?_
  · generalize Str.ofString "setting" = z at *
    simp -implicitDefEqProofs [r_b_need_setting_eq, ok, gIs, isNone, to, ws]
  -- rings that are none
  have p40 := pow2_pos k
  have pk40 : (2 : Int) ^ k ≤ 2 ^ 40 := by
    have : (2 : Nat) ^ k ≤ 2 ^ 40 := Nat.pow_le_pow_right (by omega) k40
    exact_mod_cast this
  have bars : ∀ d ∈ ([.int 0, .int 41, .int (-(k : Int)), .int (40 + (k : Int)), .bool true, .str (Str.ofString "3"), .none, .list [.int k]] : List D), r_l_made [d, .int (-1)] = .new [.str (Str.ofString "bar")] := by
    intro d hd
    rw [← bar_word]
    refine made_exc (by simp) (at_bar _ ?_)
    simp only [List.mem_cons, List.not_mem_nil, or_false] at hd
    rcases hd with rfl | rfl | rfl | rfl | rfl | rfl | rfl | rfl
    · rfl
    · rfl
    · rw [among_int, decide_eq_false (by omega : ¬ (1 : Int) ≤ -(k : Int))]; rfl
    · rw [among_int, decide_eq_false (by omega : ¬ 40 + (k : Int) ≤ 40), Bool.and_false]
    · rfl
    · rfl
    · rfl
    · rfl
  generalize hB1 : ([.int 0, .int 41, .int (-(k : Int)), .int (40 + (k : Int)), .bool true, .str (Str.ofString "3"), .none, .list [.int k]] : List D) = B1 at bars
  obtain ⟨t5, e5⟩ := test_loop (f := fun d => r_l_made [d, .int (-1)]) (e := fCall r_l_made (fACons (fVar 5) (fACons (fNeg (fC (.int 1))) fANil))) 5 [.v (scr ns), .v (.int k), .v (.tuple (ins S)), .v (.int cell), .v bad, .un, .un] (by simp) (fun d => by simp -implicitDefEqProofs) B1 .un bars
  refine seq_step (δ' := [.v (scr ns), .v (.int k), .v (.tuple (ins S)), .v (.int cell), .v bad, t5, .un]) ?_ ?_
  · have it : fSeqI (fLst (fACons (fC (.int 0)) (fACons (fC (.int 41)) (fACons (fNeg (fVar 1)) (fACons (fOp gAdd (fC (.int 40)) (fVar 1)) (fACons (fC (.bool true)) (fACons (fC (.str (Str.ofString "3"))) (fACons (fC .none) (fACons (fLst (fACons (fVar 1) fANil)) fANil))))))))) [.v (scr ns), .v (.int k), .v (.tuple (ins S)), .v (.int cell), .v bad, .un, .un] = .ok B1 := by
      rw [← hB1]
      generalize Str.ofString "3" = z at *
      simp -implicitDefEqProofs [LIMn (show 8 ≤ 100000 by omega)]
    rw [fFor_ap, it]
    exact e5
  -- numbers that are none
  have p30 : (2 : Int) ^ 40 ≤ 10 ^ 30 := by decide
  have nums : ∀ d ∈ ([.int (-1), .int (2 ^ k), .int (0 - 2 ^ k), .int (10 ^ 30), .bool true, .str (Str.ofString "0"), .none, .tuple [.int 0]] : List D), r_l_made [.int k, d] = .new [.str (Str.ofString "number")] := by
    intro d hd
    rw [← number_word]
    refine made_exc (by simp) (at_number k1 k40 ?_)
    generalize hp : (2 : Int) ^ k = p at *
    generalize hq : (10 : Int) ^ 30 = q at *
    simp only [List.mem_cons, List.not_mem_nil, or_false] at hd
    rcases hd with rfl | rfl | rfl | rfl | rfl | rfl | rfl | rfl
    · rfl
    · rw [among_int, decide_eq_false (by omega : ¬ p ≤ p - 1), Bool.and_false]
    · rw [among_int, decide_eq_false (by omega : ¬ (0 : Int) ≤ 0 - p)]; rfl
    · rw [among_int, decide_eq_false (by omega : ¬ q ≤ p - 1), Bool.and_false]
    · rfl
    · rfl
    · rfl
    · rfl
  have tw := r_l_twos_eq k (by omega)
  have pw : gPow (.int 10) (.int 30) = .ok (.int (10 ^ 30)) := rfl
  have pw2 : gPow (.int 10) (.int 20) = .ok (.int (10 ^ 20)) := rfl
  have p20 : (1000 : Int) < 10 ^ 20 := by decide
  generalize hp : (2 : Int) ^ k = p at *
  generalize hq : (10 : Int) ^ 30 = q at *
  generalize hq2 : (10 : Int) ^ 20 = q2 at *
  generalize hB2 : ([.int (-1), .int p, .int (0 - p), .int q, .bool true, .str (Str.ofString "0"), .none, .tuple [.int 0]] : List D) = B2 at nums
  obtain ⟨u5, e5'⟩ := test_loop (f := fun d => r_l_made [.int k, d]) (e := fCall r_l_made (fACons (fVar 1) (fACons (fVar 5) fANil))) 5 [.v (scr ns), .v (.int k), .v (.tuple (ins S)), .v (.int cell), .v bad, t5, .un] (by simp) (fun d => by simp -implicitDefEqProofs) B2 t5 nums
  refine seq_step (δ' := [.v (scr ns), .v (.int k), .v (.tuple (ins S)), .v (.int cell), .v bad, u5, .un]) ?_ ?_
  · have it : fSeqI (fLst (fACons (fNeg (fC (.int 1))) (fACons (fCall r_l_twos (fACons (fVar 1) fANil)) (fACons (fOp gSub (fC (.int 0)) (fCall r_l_twos (fACons (fVar 1) fANil))) (fACons (fOp gPow (fC (.int 10)) (fC (.int 30))) (fACons (fC (.bool true)) (fACons (fC (.str (Str.ofString "0"))) (fACons (fC .none) (fACons (fTup (fACons (fC (.int 0)) fANil)) fANil))))))))) [.v (scr ns), .v (.int k), .v (.tuple (ins S)), .v (.int cell), .v bad, t5, .un] = .ok B2 := by
      rw [← hB2]
      generalize Str.ofString "0" = z at *
      simp -implicitDefEqProofs [LIMn (show 8 ≤ 100000 by omega), tw, pw]
    rw [fFor_ap, it]
    exact e5'
  -- another length
  have cl := cutD_last (S := S) (by omega)
  refine seq_step (δ' := [.v (scr ns), .v (.int k), .v (.tuple (ins S)), .v (.int cell), .v bad, u5, .v (.tuple (ins (S.take (S.length - 1))))]) (by simp -implicitDefEqProofs [cl]) ?_
  obtain ⟨O, hO1, hO2, hO3, hO4⟩ : ∃ O : List Int, (if k = 1 then O = S ++ [1] else O = S.take (S.length - 1)) ∧ Bits O ∧ (1 ≤ O.length ∧ O.length ≤ 40) ∧ S.length ≠ O.length := by
    by_cases q1 : k = 1
    · refine ⟨S ++ [1], by rw [if_pos q1], bits_snoc hS.bits, ⟨by simp, by simp; omega⟩, by simp⟩
    · refine ⟨S.take (S.length - 1), by rw [if_neg q1], bits_take hS.bits _, ⟨by rw [List.length_take]; omega, by rw [List.length_take]; omega⟩, by rw [List.length_take]; omega⟩
  refine seq_step (δ' := [.v (scr ns), .v (.int k), .v (.tuple (ins S)), .v (.int cell), .v bad, u5, .v (.tuple (ins O))]) ?_ ?_
  · by_cases q1 : k = 1
    · rw [if_pos q1] at hO1
      subst q1
      have c := cat_t (xs := ins S) (ys := [.int 1]) (by simp; omega)
      rw [show ins S ++ [.int 1] = ins O from by rw [hO1]; unfold ins; simp] at c
      simp -implicitDefEqProofs [c]
    · rw [if_neg q1] at hO1
      subst hO1
      have q1' : ¬ (k : Int) = 1 := by omega
      simp -implicitDefEqProofs [q1, q1']
  have okO := okSetting_bits hO2 hO3.1 hO3.2
  have tu := two_unlike ok okO hO4
  have wy : r_b_way [.tuple (ins S), .tuple (ins O), .int (-1)] = .exc "BadSetting" := by
    unfold r_b_way F_b_way DL.run
    simp -implicitDefEqProofs [slots0, tu]
  have ap : r_b_apart [.tuple (ins S), .tuple (ins O)] = .exc "BadSetting" := by
    unfold r_b_apart F_b_apart DL.run
    simp -implicitDefEqProofs [slots0, tu]
  have a5 : r_l_asked4 [.int 5, .tuple (ins O), .tuple (ins S)] = .exc "BadSetting" := by
    have e0 : r_l_asked4 [.int 5, .tuple (ins O), .tuple (ins S)] = (F_l_asked4 [.v (.int 5), .v (.tuple (ins O)), .v (.tuple (ins S))]).toR := rfl
    rw [e0]
    unfold F_l_asked4
    simp -implicitDefEqProofs [ap]
  have w1 := way_exc (by simp) wy
  have w2 := told_exc (by simp) a5
  rw [setting_word] at w1 w2
  refine seq_step (δ' := [.v (scr ns), .v (.int k), .v (.tuple (ins S)), .v (.int cell), .v bad, u5, .v (.tuple (ins O))]) ?_ ?_
  · generalize Str.ofString "setting" = z at *
    simp -implicitDefEqProofs [w1, w2, ws]
  -- most that is none
  have mosts : ∀ d ∈ ([.int (-1), .int 1001, .bool true, .str (Str.ofString "1"), .none, .int q2] : List D), r_l_way [.tuple (ins S), .tuple (ins S), d] = .new [.str (Str.ofString "number")] := by
    intro d hd
    rw [← number_word]
    refine way_exc (by simp) (way_most k1 k40 hS ?_)
    simp only [List.mem_cons, List.not_mem_nil, or_false] at hd
    rcases hd with rfl | rfl | rfl | rfl | rfl | rfl
    · rfl
    · rfl
    · rfl
    · rfl
    · rfl
    · rw [among_int, decide_eq_false (by omega : ¬ q2 ≤ 1000), Bool.and_false]
  generalize hB3 : ([.int (-1), .int 1001, .bool true, .str (Str.ofString "1"), .none, .int q2] : List D) = B3 at mosts
  obtain ⟨v5, e6⟩ := test_loop (f := fun d => r_l_way [.tuple (ins S), .tuple (ins S), d]) (e := fCall r_l_way (fACons (fVar 2) (fACons (fVar 2) (fACons (fVar 5) fANil)))) 5 [.v (scr ns), .v (.int k), .v (.tuple (ins S)), .v (.int cell), .v bad, u5, .v (.tuple (ins O))] (by simp) (fun d => by simp -implicitDefEqProofs) B3 u5 mosts
  refine seq_step (δ' := [.v (scr ns), .v (.int k), .v (.tuple (ins S)), .v (.int cell), .v bad, v5, .v (.tuple (ins O))]) ?_ ?_
  · have it : fSeqI (fLst (fACons (fNeg (fC (.int 1))) (fACons (fC (.int 1001)) (fACons (fC (.bool true)) (fACons (fC (.str (Str.ofString "1"))) (fACons (fC .none) (fACons (fOp gPow (fC (.int 10)) (fC (.int 20))) fANil))))))) [.v (scr ns), .v (.int k), .v (.tuple (ins S)), .v (.int cell), .v bad, u5, .v (.tuple (ins O))] = .ok B3 := by
      rw [← hB3]
      generalize Str.ofString "1" = z at *
      simp -implicitDefEqProofs [LIMn (show 6 ≤ 100000 by omega), pw2]
    rw [fFor_ap, it]
    exact e6
  refine seq_step (δ' := [.v (scr ns), .v (.int k), .v (.tuple (ins S)), .v (.int cell), .v bad, v5, .v (.tuple (ins O))]) (by simp -implicitDefEqProofs) ?_
  have y1 := way_eq k1 k40 hS hS (M := 1000) (by omega) (s := 1) (.inl rfl) (q := 0) (by omega)
  have y0 := way_eq k1 k40 hS hS (M := 0) (by omega) (s := 1) (.inl rfl) (q := 0) (by omega)
  rw [Nat.zero_min] at y1
  rw [Nat.zero_min] at y0
  have y1' : r_b_way [.tuple (ins S), .tuple (ins S), .int 1000] = .new [] := y1
  have y0' : r_b_way [.tuple (ins S), .tuple (ins S), .int 0] = .new [] := y0
  have z := gEq_l (ns := []) (ms := [])
  rw [show ins [] = [] from rfl] at z
  simp -implicitDefEqProofs [y1', y0', z]
end DM
set_option Elab.async false
set_option linter.all false
set_option maxRecDepth 100000
set_option maxHeartbeats 1000000
/-! The making of a rack does not ask where the rack lies. -/
namespace DM
open PySem DL
abbrev BN1 : List Sl → Fl := fDrop (fCall r_c_need_counts (fACons (fVar 2) fANil))
theorem bn1 (x : Addr) (d e : D) : BN1 [.ob x, .v d, .v e] = (match r_c_need_counts [e] with
    | .ok _ => .nx [.ob x, .v d, .v e]
    | .new _ => .nx [.ob x, .v d, .v e]
    | .exc c => .exc c [.ob x, .v d, .v e]
    | .bad => .bad) := rfl
theorem init_loop (x : Addr) (d : D) : ∀ (ds : List D) (s2 : Sl), (∃ s', forGo (setN 2) BN1 ds [.ob x, .v d, s2] = .nx [.ob x, .v d, s'] ∧ forGo (setN 2) BN1 ds [.ob 0, .v d, s2] = .nx [.ob 0, .v d, s']) ∨
    (∃ c s', forGo (setN 2) BN1 ds [.ob x, .v d, s2] = .exc c [.ob x, .v d, s'] ∧ forGo (setN 2) BN1 ds [.ob 0, .v d, s2] = .exc c [.ob 0, .v d, s']) ∨
    (forGo (setN 2) BN1 ds [.ob x, .v d, s2] = .bad ∧ forGo (setN 2) BN1 ds [.ob 0, .v d, s2] = .bad)
  | [], s2 => .inl ⟨s2, rfl, rfl⟩
  | e :: ds, s2 => by
    have ih := init_loop x d ds (.v e)
    have h1 : ∀ y : Addr, forGo (setN 2) BN1 (e :: ds) [.ob y, .v d, s2] = (match BN1 [.ob y, .v d, .v e] with
      | .nx δ2 => forGo (setN 2) BN1 ds δ2
      | .ct δ2 => forGo (setN 2) BN1 ds δ2
      | .bk δ2 => .nx δ2
      | f => f) := fun y => by
      rw [forGo]
      rfl
    rw [h1, h1, bn1, bn1]
    cases r_c_need_counts [e] with
    | ok _ => exact ih
    | new _ => exact ih
    | exc c => exact .inr (.inl ⟨c, .v e, rfl, rfl⟩)
    | bad => exact .inr (.inr ⟨rfl, rfl⟩)
theorem init_f1 (x : Addr) (d : D) (s : Sl) : f_k_Rinit1 [.ob x, .v d, s] = f_k_Rinit1 [.ob 0, .v d, s] := by
  have e : lcStep (setN 2) (fC (.bool true)) (fCall gList (fACons (fVar 2) fANil)) (wipeD [.ob x, .v d, s] [2]) = lcStep (setN 2) (fC (.bool true)) (fCall gList (fACons (fVar 2) fANil)) (wipeD [.ob 0, .v d, s] [2]) := funext fun _ => rfl
  unfold f_k_Rinit1
  rw [fLc_ap, fLc_ap, e]
  rfl
theorem init_f2 (x : Addr) (d : D) (s : Sl) : f_k_Rinit2 [.ob x, .v d, s] = f_k_Rinit2 [.ob 0, .v d, s] := by
  have e : lcStep (setN 2) (fC (.bool true)) (fOp gMul (fTup (fACons (fC (.int 0)) fANil)) (fCall gLen (fACons (fVar 2) fANil))) (wipeD [.ob x, .v d, s] [2]) = lcStep (setN 2) (fC (.bool true)) (fOp gMul (fTup (fACons (fC (.int 0)) fANil)) (fCall gLen (fACons (fVar 2) fANil))) (wipeD [.ob 0, .v d, s] [2]) := funext fun _ => rfl
  unfold f_k_Rinit2
  rw [fLc_ap, fLc_ap, e]
  rfl
theorem initRun_1 (m : Nat) (F1 F2 : List Sl → Fl) (f1 f2 : List Sl → R) (x : Addr) (d : D) : initRun m F1 F2 f1 f2 x [d] = (match F1 (.ob x :: .v d :: List.replicate m .un) with
    | .nx δ1 => (match F2 δ1 with
      | .nx δ2 => if isOb x δ2 = true ∧ δ2.all Sl.plainS = true then (match f1 δ2, f2 δ2 with
        | .new a, .new b => rkR a b
        | _, _ => .bad) else .bad
      | .exc c _ => .exc c
      | _ => .bad)
    | .exc c _ => .exc c
    | _ => .bad) := rfl
theorem init_all (x : Addr) (d : D) : initRun 1 F_k_Rinit1 F_k_Rinit2 f_k_Rinit1 f_k_Rinit2 x [d] = initRun 1 F_k_Rinit1 F_k_Rinit2 f_k_Rinit1 f_k_Rinit2 0 [d] := by
  have h1 : ∀ y : Addr, F_k_Rinit1 [.ob y, .v d, .un] = ((fOr (fNot (fTst (fIsi "list" (fVar 1)))) (fNot (fTst (fChain gLe gLe (fC (.int 1)) (fCall gLen (fACons (fVar 1) fANil)) (fC (.int 5)))))) [.ob 0, .v d, .un]).cnf [.ob y, .v d, .un] (.exc (Str.ofString "BadChest") [.ob y, .v d, .un]) (.nx [.ob y, .v d, .un]) := fun y => by
    unfold F_k_Rinit1
    rw [fIfS_ap]
    rfl
  have un : List.replicate 1 Sl.un = [.un] := rfl
  rw [initRun_1, initRun_1, un, h1 x, h1 0]
  generalize (fOr (fNot (fTst (fIsi "list" (fVar 1)))) (fNot (fTst (fChain gLe gLe (fC (.int 1)) (fCall gLen (fACons (fVar 1) fANil)) (fC (.int 5)))))) [.ob 0, .v d, .un] = c
  have go : (match F_k_Rinit2 [.ob x, .v d, .un] with
      | .nx δ2 => if isOb x δ2 = true ∧ δ2.all Sl.plainS = true then (match f_k_Rinit1 δ2, f_k_Rinit2 δ2 with
        | .new a, .new b => rkR a b
        | _, _ => .bad) else .bad
      | .exc c _ => .exc c
      | _ => R.bad) = (match F_k_Rinit2 [.ob 0, .v d, .un] with
      | .nx δ2 => if isOb 0 δ2 = true ∧ δ2.all Sl.plainS = true then (match f_k_Rinit1 δ2, f_k_Rinit2 δ2 with
        | .new a, .new b => rkR a b
        | _, _ => .bad) else .bad
      | .exc c _ => .exc c
      | _ => R.bad) := by
    have h2 : ∀ y : Addr, F_k_Rinit2 [.ob y, .v d, .un] = (match RL.to2 (.ok d) seqD with
      | .ok ds => forGo (setN 2) BN1 ds [.ob y, .v d, .un]
      | .exc c => .exc c [.ob y, .v d, .un]
      | .bad => .bad) := fun y => by
      unfold F_k_Rinit2
      rw [fFor_ap]
      rfl
    rw [h2 x, h2 0]
    cases RL.to2 (.ok d) seqD with
    | exc c => rfl
    | bad => rfl
    | ok ds =>
      rcases init_loop x d ds .un with ⟨s', e1, e2⟩ | ⟨c, s', e1, e2⟩ | ⟨e1, e2⟩
      · simp only [e1, e2]
        have i0 : ∀ y : Addr, isOb y [.ob y, .v d, s'] = true := fun y => by
          show decide (y = y) = true
          exact decide_eq_true rfl
        have i1 := i0 x
        have i2 := i0 0
        rw [i1, i2, init_f1 x, init_f2 x]
        rfl
      · simp only [e1, e2]
      · simp only [e1, e2]
  cases c with
  | ok b =>
    cases b with
    | bool b => cases b <;> first | rfl | exact go
    | _ => rfl
  | _ => rfl
theorem init_ind (x : Addr) (d : D) (_ : r_k_Rinit [d] ≠ .bad) : initRun 1 F_k_Rinit1 F_k_Rinit2 f_k_Rinit1 f_k_Rinit2 x [d] = r_k_Rinit [d] := init_all x d
theorem init_len (ds : List D) (h : r_k_Rinit ds ≠ .bad) : ds.length = 1 := by
  match ds, h with
  | [_], _ => rfl
  | [], h => exact absurd rfl h
  | _ :: _ :: _, h => exact absurd rfl h
end DM
set_option Elab.async false
set_option linter.all false
set_option maxRecDepth 100000
set_option maxHeartbeats 1000000
/-! The law k16: what is refused. -/
namespace DM
open PySem DL
/-! ### counts -/
def BadC (d : D) : Prop := r_c_need_counts [d] = .exc "BadChest"
def okC (ds : List D) : Bool := decide (1 ≤ ds.length) && decide (ds.length ≤ 12) && ds.all fun x => among x 2 9
theorem needc_loop (t : Sl) : ∀ (ds : List D) (s : Sl), (forGo (setN 1) (fIfS (fNot (fTst (fCall r_b_is_among (fACons (fVar 1) (fACons (fC (.int 2)) (fACons (fC (.int 9)) fANil)))))) (fun δ => .exc (Str.ofString "BadChest") δ) (.nx)) ds [t, s]).toR = if (ds.all fun x => among x 2 9) = true then .ok .none else .exc (Str.ofString "BadChest")
  | [], s => by simp [forGo]
  | d :: ds, s => by
    have ih := needc_loop t ds (.v d)
    cases t <;> (simp only [forGo, setN_ap, List.set_cons_succ, List.set_cons_zero]; simp; cases h : among d 2 9 <;> simp [h] <;> simpa using ih)
theorem needc_eq (ds : List D) : r_c_need_counts [.list ds] = if okC ds = true then .ok .none else .exc (Str.ofString "BadChest") := by
  unfold r_c_need_counts F_c_need_counts DL.run
  have e := needc_loop (.v (.list ds)) ds .un
  by_cases h1 : 1 ≤ ds.length
  · by_cases h2 : ds.length ≤ 12
    · have h3 : (1 : Int) ≤ (ds.length : Int) := by omega
      have h4 : (ds.length : Int) ≤ 12 := by omega
      simp [slots0, isT, tyN, okC, h1, h2, h3, h4]
      simpa using e
    · have h4 : ¬ (ds.length : Int) ≤ 12 := by omega
      simp [slots0, isT, tyN, okC, h1, h2, h4]
  · have h3 : ¬ (1 : Int) ≤ (ds.length : Int) := by omega
    simp [slots0, isT, tyN, okC, h1, h3]
theorem badC_other {d : D} (h : isT "list" d = false) : BadC d := by
  unfold BadC r_c_need_counts F_c_need_counts DL.run
  simp -implicitDefEqProofs [slots0, h]
theorem badC_list {ds : List D} (h : okC ds = false) : BadC (.list ds) := by
  unfold BadC
  rw [needc_eq, h]
  rfl
theorem badC_at {ds : List D} {x : D} (hx : x ∈ ds) (h : among x 2 9 = false) : BadC (.list ds) := badC_list (by
  have : (ds.all fun x => among x 2 9) = false := by
    rw [List.all_eq_false]
    exact ⟨x, hx, by rw [h]; decide⟩
  unfold okC
  rw [this, Bool.and_false])
theorem badC_long {ds : List D} (h : ds.length = 0 ∨ 12 < ds.length) : BadC (.list ds) := badC_list (by
  unfold okC
  rcases h with h | h
  · rw [decide_eq_false (by omega : ¬ 1 ≤ ds.length)]; rfl
  · rw [decide_eq_false (by omega : ¬ ds.length ≤ 12)]; simp)
/-! ### rows -/
def BadR (cs : List Int) (d : D) : Prop := r_c_is_row [.list (ins cs), d] = .ok (.bool false)
theorem badR_other {cs : List Int} {d : D} (h : isT "tuple" d = false) : BadR cs d := by
  unfold BadR r_c_is_row F_c_is_row DL.run
  simp -implicitDefEqProofs [slots0, h]
theorem badR_len {cs : List Int} {ds : List D} (h : ds.length ≠ cs.length) : BadR cs (.tuple ds) := by
  have h' : ¬ (ds.length : Int) = (cs.length : Int) := by omega
  unfold BadR r_c_is_row F_c_is_row DL.run
  simp -implicitDefEqProofs [slots0, h', h]
abbrev BI16 : List Sl → Fl := (fIfS (fNot (fTst (fCall r_b_is_among (fACons (fVar 2) (fACons (fC (.int 0)) (fACons (fOp gSub (fVar 3) (fC (.int 1))) fANil)))))) (fRet (fC (.bool false))) (.nx))
theorem badR_loop (t u : Sl) : ∀ (ds : List D) (cs : List Int) (i : Nat) (h1 : i < ds.length) (h2 : i < cs.length) (s2 s3 : Sl), among ds[i] 0 (cs[i] - 1) = false → forGo (setT [2, 3]) BI16 (List.zipWith prD ds (ins cs)) [t, u, s2, s3] = .rt (.bool false)
  | [], _, _, h, _, _, _, _ => absurd h (by simp)
  | _ :: _, [], _, _, h, _, _, _ => absurd h (by simp)
  | d :: ds, c :: cs, i, h1, h2, s2, s3, h => by
    rw [← ins_cons, List.zipWith_cons_cons]
    unfold forGo
    cases hd : among d 0 (c - 1) with
    | false => simp -implicitDefEqProofs [hd]
    | true =>
      cases i with
      | zero =>
        rw [List.getElem_cons_zero, List.getElem_cons_zero, hd] at h
        cases h
      | succ i =>
        have ih := badR_loop t u ds cs i (by simpa using h1) (by simpa using h2) (.v d) (.v (.int c)) (by simpa using h)
        simp -implicitDefEqProofs [hd]
        exact ih
theorem badR_at {cs : List Int} {ds : List D} (hl : ds.length = cs.length) {i : Nat} (h1 : i < ds.length) (h2 : i < cs.length) (h : among ds[i] 0 (cs[i] - 1) = false) : BadR cs (.tuple ds) := by
  have e := badR_loop (.v (.list (ins cs))) (.v (.tuple ds)) ds cs i h1 h2 .un .un h
  have e0 : r_c_is_row [.list (ins cs), .tuple ds] = (F_c_is_row [.v (.list (ins cs)), .v (.tuple ds), .un, .un]).toR := rfl
  have h' : (ds.length : Int) = (cs.length : Int) := by omega
  unfold BadR
  rw [e0]
  unfold F_c_is_row
  refine seq_step (δ' := [.v (.list (ins cs)), .v (.tuple ds), .un, .un]) (by simp -implicitDefEqProofs [isT, tyN, h']) ?_
  have it : fRg zipD (fACons (fVar 1) (fACons (fVar 0) fANil)) [.v (.list (ins cs)), .v (.tuple ds), .un, .un] = .ok (List.zipWith prD ds (ins cs)) := by
    simp -implicitDefEqProofs [zipD, sqD]
  rw [fSeq_ap, fFor_ap, it]
  simp only []
  rw [e]
  rfl
section
variable {cs : List Int} (G : Good cs) {d : D} (hd : BadR cs d)
include G hd
theorem need_row_bad : r_c_need_row [.list (ins cs), d] = .exc "BadRow" := by
  have g := need_counts_eq G
  unfold BadR at hd
  unfold r_c_need_row F_c_need_row DL.run
  simp -implicitDefEqProofs [slots0, g, hd]
theorem asked_r {w : Int} (h0 : 6 ≤ w) (h9 : w < 12) : r_l_asked6 [.int w, .list (ins cs), d] = .exc "BadRow" := by
  have nr := need_row_bad G hd
  generalize ins cs = C at *
  have a1 : r_c_number_in [.list C, d] = .exc "BadRow" := by unfold r_c_number_in F_c_number_in DL.run; simp -implicitDefEqProofs [slots0, nr]
  have a2 : r_c_moves2 [.list C, d] = .exc "BadRow" := by unfold r_c_moves2 F_c_moves2 DL.run; simp -implicitDefEqProofs [slots0, nr]
  have a3 : r_c_moved2 [.list C, d, .none] = .exc "BadRow" := by unfold r_c_moved2 F_c_moved2 DL.run; simp -implicitDefEqProofs [slots0, nr]
  have a4 : r_n_shown_row2 [.list C, d] = .exc "BadRow" := by unfold r_n_shown_row2 F_n_shown_row2 DL.run; simp -implicitDefEqProofs [slots0, nr]
  have a5 : r_c_way_in [.list C, d, .none, .int (-1)] = .exc "BadRow" := by unfold r_c_way_in F_c_way_in DL.run; simp -implicitDefEqProofs [slots0, nr]
  have e0 : r_l_asked6 [.int w, .list C, d] = (F_l_asked6 [.v (.int w), .v (.list C), .v d]).toR := rfl
  rw [e0]
  unfold F_l_asked6
  have hw : w = 6 ∨ w = 7 ∨ w = 8 ∨ w = 9 ∨ w = 10 ∨ w = 11 := by omega
  rcases hw with rfl | rfl | rfl | rfl | rfl | rfl
  · simp -implicitDefEqProofs [nr]
  · simp -implicitDefEqProofs [a1]
  · simp -implicitDefEqProofs [a2]
  · simp -implicitDefEqProofs [a3]
  · simp -implicitDefEqProofs [a4]
  · simp -implicitDefEqProofs [a5]
end
theorem asked_c {d : D} (hd : BadC d) (x : D) {w : Int} (h0 : 0 ≤ w) (h9 : w < 12) : r_l_asked6 [.int w, d, x] = .exc "BadChest" := by
  unfold BadC at hd
  have nr : r_c_need_row [d, x] = .exc "BadChest" := by unfold r_c_need_row F_c_need_row DL.run; simp -implicitDefEqProofs [slots0, hd]
  have b1 : r_c_many [d] = .exc "BadChest" := by unfold r_c_many F_c_many DL.run; simp -implicitDefEqProofs [slots0, hd]
  have b2 : r_c_rows [d] = .exc "BadChest" := by unfold r_c_rows F_c_rows DL.run; simp -implicitDefEqProofs [slots0, hd]
  have b3 : r_c_row_at [d, .int (-1)] = .exc "BadChest" := by unfold r_c_row_at F_c_row_at DL.run; simp -implicitDefEqProofs [slots0, hd]
  have b4 : r_n_read_row2 [d, .int 5] = .exc "BadChest" := by unfold r_n_read_row2 F_n_read_row2 DL.run; simp -implicitDefEqProofs [slots0, hd]
  have a1 : r_c_number_in [d, x] = .exc "BadChest" := by unfold r_c_number_in F_c_number_in DL.run; simp -implicitDefEqProofs [slots0, nr]
  have a2 : r_c_moves2 [d, x] = .exc "BadChest" := by unfold r_c_moves2 F_c_moves2 DL.run; simp -implicitDefEqProofs [slots0, nr]
  have a3 : r_c_moved2 [d, x, .none] = .exc "BadChest" := by unfold r_c_moved2 F_c_moved2 DL.run; simp -implicitDefEqProofs [slots0, nr]
  have a4 : r_n_shown_row2 [d, x] = .exc "BadChest" := by unfold r_n_shown_row2 F_n_shown_row2 DL.run; simp -implicitDefEqProofs [slots0, nr]
  have a5 : r_c_way_in [d, x, .none, .int (-1)] = .exc "BadChest" := by unfold r_c_way_in F_c_way_in DL.run; simp -implicitDefEqProofs [slots0, nr]
  have e0 : r_l_asked6 [.int w, d, x] = (F_l_asked6 [.v (.int w), .v d, .v x]).toR := rfl
  rw [e0]
  unfold F_l_asked6
  have hw : w = 0 ∨ w = 1 ∨ w = 2 ∨ w = 3 ∨ w = 4 ∨ w = 5 ∨ w = 6 ∨ w = 7 ∨ w = 8 ∨ w = 9 ∨ w = 10 ∨ w = 11 := by omega
  rcases hw with rfl | rfl | rfl | rfl | rfl | rfl | rfl | rfl | rfl | rfl | rfl | rfl
  · simp -implicitDefEqProofs [fCall3, hd]
  · simp -implicitDefEqProofs [fCall3, b1]
  · simp -implicitDefEqProofs [fCall3, b2]
  · simp -implicitDefEqProofs [fCall3, hd]
  · simp -implicitDefEqProofs [b3]
  · simp -implicitDefEqProofs [b4]
  · simp -implicitDefEqProofs [nr]
  · simp -implicitDefEqProofs [a1]
  · simp -implicitDefEqProofs [a2]
  · simp -implicitDefEqProofs [a3]
  · simp -implicitDefEqProofs [a4]
  · simp -implicitDefEqProofs [a5]
/-! ### tries -/
abbrev L6w : List Str := ["BadChest", "BadRow", "BadNumber"]
theorem chest_word : word "BadChest" = [.str (Str.ofString "chest")] := by
  unfold word
  rw [beq_no (x := "BadChest") (y := "BadBar") (by decide +kernel), beq_no (x := "BadChest") (y := "BadSetting") (by decide +kernel)]
  rfl
theorem row_word : word "BadRow" = [.str (Str.ofString "row")] := by
  unfold word
  rw [beq_no (x := "BadRow") (y := "BadBar") (by decide +kernel), beq_no (x := "BadRow") (y := "BadSetting") (by decide +kernel), beq_no (x := "BadRow") (y := "BadChest") (by decide +kernel)]
  rfl
theorem try_word6 {i : Nat} {b : List Sl → Fl} {δ δ' : List Sl} {c : Str} (h : b δ = .exc c δ') (hc : c ∈ L6w) (hi : i < δ'.length) : fTry i L6w b (fun c => .rn (word c)) δ = .rn (word c) := by
  unfold fTry
  rw [h]
  exact if_pos ⟨hc, hi⟩
theorem told5_exc {w : Int} {d g : D} {c : Str} (hc : c ∈ L6w) (h : r_l_asked6 [.int w, d, g] = .exc c) : r_l_told5 [.int w, d, g] = .new (word c) := by
  have e0 : r_l_told5 [.int w, d, g] = (F_l_told5 [.v (.int w), .v d, .v g, .un]).toR := rfl
  rw [e0]
  unfold F_l_told5
  have b : fDrop (fCall r_l_asked6 (fACons (fVar 0) (fACons (fVar 1) (fACons (fVar 2) fANil)))) [.v (.int w), .v d, .v g, .un] = .exc c [.v (.int w), .v d, .v g, .un] := by simp -implicitDefEqProofs [h]
  rw [fSeq_ap, try_word6 b hc (by simp)]
  rfl
end DM
set_option Elab.async false
set_option linter.all false
set_option maxRecDepth 100000
set_option maxHeartbeats 1000000
/-! The law k16: racks. -/
namespace DM
open PySem DL
theorem go_nx {set : D → List Sl → Option (List Sl)} {B : List Sl → Fl} {e : D} {ds : List D} {δ δ' δ2 : List Sl} (h : set e δ = some δ') (hB : B δ' = .nx δ2) : forGo set B (e :: ds) δ = forGo set B ds δ2 := by
  rw [forGo, h]
  simp only []
  rw [hB]
theorem go_exc {set : D → List Sl → Option (List Sl)} {B : List Sl → Fl} {e : D} {ds : List D} {δ δ' δ2 : List Sl} {c : Str} (h : set e δ = some δ') (hB : B δ' = .exc c δ2) : forGo set B (e :: ds) δ = .exc c δ2 := by
  rw [forGo, h]
  simp only []
  rw [hB]
theorem rinit_step (d : D) (hc : (fOr (fNot (fTst (fIsi "list" (fVar 1)))) (fNot (fTst (fChain gLe gLe (fC (.int 1)) (fCall gLen (fACons (fVar 1) fANil)) (fC (.int 5)))))) (thaw [.ob 0, .v d, .un]) = .ok (.bool true)) : r_k_Rinit [d] = .exc "BadChest" := by
  have e : F_k_Rinit1 (.ob 0 :: .v d :: List.replicate 1 .un) = .exc "BadChest" [.ob 0, .v d, .un] := by
    show F_k_Rinit1 [.ob 0, .v d, .un] = _
    unfold F_k_Rinit1
    rw [fIfS_ap, hc, cnf_b, if_pos rfl]
  show initRun 1 F_k_Rinit1 F_k_Rinit2 f_k_Rinit1 f_k_Rinit2 0 [d] = _
  rw [initRun_1, e]
theorem rinit_other {d : D} (h : isT "list" d = false) : r_k_Rinit [d] = .exc "BadChest" := rinit_step d (by simp -implicitDefEqProofs [h])
theorem rinit_len {ds : List D} (h : ds.length = 0 ∨ 5 < ds.length) : r_k_Rinit [.list ds] = .exc "BadChest" := rinit_step (.list ds) (by
  rcases h with h | h
  · have h1 : ¬ (1 : Int) ≤ (ds.length : Int) := by omega
    have h1' : ¬ 1 ≤ ds.length := by omega
    simp -implicitDefEqProofs [isT, tyN, h1, h1', h]
  · have h1 : (1 : Int) ≤ (ds.length : Int) := by omega
    have h2 : ¬ (ds.length : Int) ≤ 5 := by omega
    have h1' : 1 ≤ ds.length := by omega
    have h2' : ¬ ds.length ≤ 5 := by omega
    simp -implicitDefEqProofs [isT, tyN, h1, h2, h1', h2'])
theorem rinit_go {ds : List D} (h1 : 1 ≤ ds.length) (h2 : ds.length ≤ 5) : r_k_Rinit [.list ds] = (match forGo (setN 2) BN1 ds [.ob 0, .v (.list ds), .un] with
      | .nx δ2 => if isOb 0 δ2 = true ∧ δ2.all Sl.plainS = true then (match f_k_Rinit1 δ2, f_k_Rinit2 δ2 with
        | .new a, .new b => rkR a b
        | _, _ => .bad) else .bad
      | .exc c _ => .exc c
      | _ => R.bad) := by
  show initRun 1 F_k_Rinit1 F_k_Rinit2 f_k_Rinit1 f_k_Rinit2 0 [.list ds] = _
  rw [initRun_1]
  have e : F_k_Rinit1 (.ob 0 :: .v (.list ds) :: List.replicate 1 .un) = .nx [.ob 0, .v (.list ds), .un] := by
    show F_k_Rinit1 [.ob 0, .v (.list ds), .un] = _
    have g1 : (1 : Int) ≤ (ds.length : Int) := by omega
    have g2 : (ds.length : Int) ≤ 5 := by omega
    unfold F_k_Rinit1
    simp -implicitDefEqProofs [isT, tyN, g1, g2, h1, h2]
  have e2 : F_k_Rinit2 [.ob 0, .v (.list ds), .un] = forGo (setN 2) BN1 ds [.ob 0, .v (.list ds), .un] := by
    unfold F_k_Rinit2
    rw [fFor_ap]
    rfl
  rw [e]
  simp only []
  first
    | (rw [e2]; done)
    | (rw [e2]; cases forGo (setN 2) BN1 ds [.ob 0, .v (.list ds), .un] <;> rfl)
theorem bn_bad (d : D) : ∀ (ds : List D) (s : Sl), (∀ e ∈ ds, r_c_need_counts [e] = .ok .none ∨ BadC e) → (∃ e ∈ ds, BadC e) → ∃ δ, forGo (setN 2) BN1 ds [.ob 0, .v d, s] = .exc "BadChest" δ
  | [], _, _, h => by obtain ⟨_, h, _⟩ := h; cases h
  | e :: ds, s, ha, hb => by
    have st : setN 2 e [.ob 0, .v d, s] = some [.ob 0, .v d, .v e] := rfl
    rcases ha e List.mem_cons_self with h | h
    · have b : BN1 [.ob 0, .v d, .v e] = .nx [.ob 0, .v d, .v e] := by rw [bn1, h]
      rw [go_nx st b]
      refine bn_bad d ds (.v e) (fun x hx => ha x (List.mem_cons_of_mem _ hx)) ?_
      obtain ⟨x, hx, hxb⟩ := hb
      rcases List.mem_cons.mp hx with rfl | hx
      · unfold BadC at hxb
        rw [h] at hxb
        cases hxb
      · exact ⟨x, hx, hxb⟩
    · unfold BadC at h
      have b : BN1 [.ob 0, .v d, .v e] = .exc "BadChest" [.ob 0, .v d, .v e] := by rw [bn1, h]
      exact ⟨_, go_exc st b⟩
theorem rinit_bad {ds : List D} (h1 : 1 ≤ ds.length) (h2 : ds.length ≤ 5) (ha : ∀ e ∈ ds, r_c_need_counts [e] = .ok .none ∨ BadC e) (hb : ∃ e ∈ ds, BadC e) : r_k_Rinit [.list ds] = .exc "BadChest" := by
  obtain ⟨δ, e⟩ := bn_bad (.list ds) ds .un ha hb
  rw [rinit_go h1 h2, e]
theorem bn_ok (d : D) : ∀ (ds : List D) (s : Sl), s.plainS = true → (∀ e ∈ ds, r_c_need_counts [e] = .ok .none) → ∃ s', s'.plainS = true ∧ forGo (setN 2) BN1 ds [.ob 0, .v d, s] = .nx [.ob 0, .v d, s']
  | [], s, hs, _ => ⟨s, hs, rfl⟩
  | e :: ds, s, hs, ha => by
    have b : BN1 [.ob 0, .v d, .v e] = .nx [.ob 0, .v d, .v e] := by rw [bn1, ha e List.mem_cons_self]
    rw [go_nx (show setN 2 e [.ob 0, .v d, s] = some [.ob 0, .v d, .v e] from rfl) b]
    exact bn_ok d ds (.v e) rfl fun x hx => ha x (List.mem_cons_of_mem _ hx)
def zerosC (css : List (List Int)) : List (List Int) := css.map fun c => List.replicate c.length 0
theorem dec_ls : ∀ css : List (List Int), decL (css.map fun c => .list (ins c)) = some css
  | [] => rfl
  | c :: css => by
    rw [List.map_cons, decL, intsOf_ins, dec_ls css]
theorem dec_ts : ∀ css : List (List Int), decT (css.map fun c => .tuple (ins c)) = some css
  | [] => rfl
  | c :: css => by
    rw [List.map_cons, decT, intsOf_ins, dec_ts css]
theorem rinit_ok {css : List (List Int)} (h1 : 1 ≤ css.length) (h2 : css.length ≤ 5) (hg : ∀ c ∈ css, Good c) : r_k_Rinit [.list (css.map fun c => .list (ins c))] = .ok (.dict (encK css (zerosC css) [])) := by
  have hl : (css.map fun c => PyData.list (ins c)).length = css.length := List.length_map _
  obtain ⟨s', hs', e⟩ := bn_ok (.list (css.map fun c => .list (ins c))) (css.map fun c => .list (ins c)) .un rfl fun x hx => by
    obtain ⟨c, hc, rfl⟩ := List.mem_map.mp hx
    exact need_counts_eq (hg c hc)
  rw [rinit_go (by omega) (by omega), e]
  have ob : isOb 0 [.ob 0, .v (.list (css.map fun c => .list (ins c))), s'] = true := by
    show decide ((0 : Addr) = 0) = true
    exact decide_eq_true rfl
  have pl : ([.ob 0, .v (.list (css.map fun c => .list (ins c))), s'] : List Sl).all Sl.plainS = true := by
    simp only [List.all_cons, List.all_nil, hs', Bool.and_true]
    rfl
  have hL : css.length ≤ LIM := LIMn (by omega)
  have l1 : ∀ (δ : List Sl) (hδ : 2 < δ.length) (cs : List (List Int)), lcGo (lcStep (setN 2) (fC (.bool true)) (fCall gList (fACons (fVar 2) fANil)) δ) (cs.map fun c => .list (ins c)) = some (cs.map fun c => .list (ins c)) := fun δ hδ cs => by
    induction cs with
    | nil => rfl
    | cons c cs ih =>
      rw [List.map_cons, lcGo, ih]
      have st : lcStep (setN 2) (fC (.bool true)) (fCall gList (fACons (fVar 2) fANil)) δ (.list (ins c)) = some (some (.list (ins c))) := by
        have ev : ∀ x : D, fVar 2 (δ.set 2 (.v x)) = .ok x := fun x => by
          unfold fVar
          rw [List.getElem?_set_self hδ]
        simp -implicitDefEqProofs [lcStep, ev]
      rw [st]
      rfl
  have l2 : ∀ (δ : List Sl) (hδ : 2 < δ.length) (cs : List (List Int)), (∀ c ∈ cs, Good c) → lcGo (lcStep (setN 2) (fC (.bool true)) (fOp gMul (fTup (fACons (fC (.int 0)) fANil)) (fCall gLen (fACons (fVar 2) fANil))) δ) (cs.map fun c => .list (ins c)) = some ((zerosC cs).map fun c => .tuple (ins c)) := fun δ hδ cs hg => by
    induction cs with
    | nil => rfl
    | cons c cs ih =>
      have g := (hg c List.mem_cons_self).hi
      rw [List.map_cons, lcGo, ih fun x hx => hg x (List.mem_cons_of_mem _ hx)]
      have st : lcStep (setN 2) (fC (.bool true)) (fOp gMul (fTup (fACons (fC (.int 0)) fANil)) (fCall gLen (fACons (fVar 2) fANil))) δ (.list (ins c)) = some (some (.tuple (ins (List.replicate c.length 0)))) := by
        have ev : ∀ x : D, fVar 2 (δ.set 2 (.v x)) = .ok x := fun x => by
          unfold fVar
          rw [List.getElem?_set_self hδ]
        have tr := tup_rep (m := c.length) (by omega)
        simp -implicitDefEqProofs [lcStep, ev, tr, LIMn (show 1 ≤ 100000 by omega)]
      rw [st]
      rfl
  have it : fSeqI (fVar 1) [.ob 0, .v (.list (css.map fun c => .list (ins c))), s'] = .ok (css.map fun c => .list (ins c)) := rfl
  have i1 : f_k_Rinit1 [.ob 0, .v (.list (css.map fun c => .list (ins c))), s'] = .new (css.map fun c => .list (ins c)) := by
    have l := l1 (wipeD [.ob 0, .v (.list (css.map fun c => .list (ins c))), s'] [2]) (by simp [wipeD]) css
    unfold f_k_Rinit1
    rw [fLc_ap, it]
    simp only []
    rw [l]
    simp only []
    rw [hl, if_pos hL]
  have i2 : f_k_Rinit2 [.ob 0, .v (.list (css.map fun c => .list (ins c))), s'] = .new ((zerosC css).map fun c => .tuple (ins c)) := by
    have l := l2 (wipeD [.ob 0, .v (.list (css.map fun c => .list (ins c))), s'] [2]) (by simp [wipeD]) css hg
    unfold f_k_Rinit2
    rw [fLc_ap, it]
    simp only []
    rw [l]
    simp only []
    rw [hl, if_pos hL]
  simp only []
  rw [if_pos ⟨ob, pl⟩, i1, i2]
  show rkR _ _ = _
  unfold rkR
  rw [dec_ls, dec_ts]
/-! ### ways of a rack -/
abbrev BW16 : List Sl → Fl := (fIfS (fNot (fTst (fCall r_c_is_row (fACons (fVar 3) (fACons (fVar 4) fANil))))) (fun δ => .exc (Str.ofString "BadRow") δ) (.nx))
section
variable {css rss : List (List Int)} {m : D}
theorem way_head {g : D} : r_k_Rway_to3 [.dict (encK css rss []), g, m] = (F_k_Rway_to3 [.v (.dict (encK css rss [])), .v g, .v m, .un, .un, .un, .un, .un]).toR := rfl
theorem fld0 {δ : List Sl} : fFld 0 (fVar 0) (.v (.dict (encK css rss [])) :: δ) = .ok (lsD css) := rfl
theorem way_other {g : D} (h : isT "list" g = false) : r_k_Rway_to3 [.dict (encK css rss []), g, m] = .exc "BadRow" := by
  rw [way_head]
  unfold F_k_Rway_to3
  simp -implicitDefEqProofs [h]
theorem way_len {gs : List D} (h : gs.length ≠ css.length) : r_k_Rway_to3 [.dict (encK css rss []), .list gs, m] = .exc "BadRow" := by
  have h' : ¬ (gs.length : Int) = (css.length : Int) := by omega
  have e : (css.map fun c => PyData.list (c.map .int)).length = css.length := List.length_map _
  rw [way_head]
  unfold F_k_Rway_to3
  generalize hE : encK css rss [] = E
  have f0 : ∀ δ : List Sl, fFld 0 (fVar 0) (.v (.dict E) :: δ) = .ok (lsD css) := fun δ => by rw [← hE]; rfl
  unfold lsD at f0
  generalize (css.map fun c => PyData.list (c.map .int)) = L at *
  simp -implicitDefEqProofs [isT, tyN, f0, e, h, h']
theorem wayr_loop (t0 t1 t2 t5 t6 t7 : Sl) : ∀ (css : List (List Int)) (gs : List D) (s3 s4 : Sl), gs.length = css.length → (∀ i (h1 : i < css.length) (h2 : i < gs.length), r_c_is_row [.list (ins css[i]), gs[i]] = .ok (.bool true) ∨ BadR css[i] gs[i]) →
    ((∃ (i : Nat) (h1 : i < css.length) (h2 : i < gs.length), BadR css[i] gs[i]) ∧ ∃ δ, forGo (setT [3, 4]) BW16 (List.zipWith prD (css.map fun c => .list (ins c)) gs) [t0, t1, t2, s3, s4, t5, t6, t7] = .exc "BadRow" δ) ∨
    ((∀ i (h1 : i < css.length) (h2 : i < gs.length), r_c_is_row [.list (ins css[i]), gs[i]] = .ok (.bool true)) ∧ ∃ s3' s4', forGo (setT [3, 4]) BW16 (List.zipWith prD (css.map fun c => .list (ins c)) gs) [t0, t1, t2, s3, s4, t5, t6, t7] = .nx [t0, t1, t2, s3', s4', t5, t6, t7])
  | [], [], s3, s4, _, _ => .inr ⟨fun i h => by simp at h, s3, s4, rfl⟩
  | [], _ :: _, _, _, h, _ => by simp at h
  | _ :: _, [], _, _, h, _ => by simp at h
  | c :: css, g :: gs, s3, s4, hl, ha => by
    rw [List.map_cons, List.zipWith_cons_cons]
    have st : setT [3, 4] (prD (.list (ins c)) g) [t0, t1, t2, s3, s4, t5, t6, t7] = some [t0, t1, t2, .v (.list (ins c)), .v g, t5, t6, t7] := rfl
    rcases ha 0 (by simp) (by simp) with h | h
    · have h : r_c_is_row [.list (ins c), g] = .ok (.bool true) := h
      have ih := wayr_loop t0 t1 t2 t5 t6 t7 css gs (.v (.list (ins c))) (.v g) (by simpa using hl) fun i h1 h2 => by
        have := ha (i + 1) (by simp; omega) (by simp; omega)
        simpa using this
      have b : BW16 [t0, t1, t2, .v (.list (ins c)), .v g, t5, t6, t7] = .nx [t0, t1, t2, .v (.list (ins c)), .v g, t5, t6, t7] := by
        generalize ins c = C at *
        simp -implicitDefEqProofs [h]
      rw [go_nx st b]
      rcases ih with ⟨⟨i, h1, h2, hb⟩, δ, e⟩ | ⟨al, s3', s4', e⟩
      · exact .inl ⟨⟨i + 1, by simp; omega, by simp; omega, by simpa using hb⟩, δ, e⟩
      · refine .inr ⟨fun i h1 h2 => ?_, s3', s4', e⟩
        cases i with
        | zero => exact h
        | succ i => simpa using al i (by simpa using h1) (by simpa using h2)
    · have h : r_c_is_row [.list (ins c), g] = .ok (.bool false) := h
      have b : BW16 [t0, t1, t2, .v (.list (ins c)), .v g, t5, t6, t7] = .exc "BadRow" [t0, t1, t2, .v (.list (ins c)), .v g, t5, t6, t7] := by
        generalize ins c = C at *
        simp -implicitDefEqProofs [h]
      exact .inl ⟨⟨0, by simp, by simp, h⟩, _, go_exc st b⟩
theorem way_zip {gs : List D} (hl : gs.length = css.length) (hc : css.length ≤ 100) (ha : ∀ i (h1 : i < css.length) (h2 : i < gs.length), r_c_is_row [.list (ins css[i]), gs[i]] = .ok (.bool true) ∨ BadR css[i] gs[i]) :
    ((∃ (i : Nat) (h1 : i < css.length) (h2 : i < gs.length), BadR css[i] gs[i]) ∧ r_k_Rway_to3 [.dict (encK css rss []), .list gs, m] = .exc "BadRow") ∨ ((∀ i (h1 : i < css.length) (h2 : i < gs.length), r_c_is_row [.list (ins css[i]), gs[i]] = .ok (.bool true)) ∧ (r_b_need_most [m] = .exc "BadNumber" → r_k_Rway_to3 [.dict (encK css rss []), .list gs, m] = .exc "BadNumber")) := by
  have h' : (gs.length : Int) = (css.length : Int) := by omega
  have e : (css.map fun c => PyData.list (c.map .int)).length = css.length := List.length_map _
  have lp := wayr_loop (.v (.dict (encK css rss []))) (.v (.list gs)) (.v m) .un .un .un css gs .un .un hl ha
  rw [way_head]
  unfold F_k_Rway_to3
  generalize hE : encK css rss [] = E at *
  have f0 : ∀ δ : List Sl, fFld 0 (fVar 0) (.v (.dict E) :: δ) = .ok (lsD css) := fun δ => by rw [← hE]; rfl
  have s1 : ∀ {B : List Sl → Fl} {r : R}, (B [.v (.dict E), .v (.list gs), .v m, .un, .un, .un, .un, .un]).toR = r → (fSeq (fIfS (fOr (fNot (fTst (fIsi "list" (fVar 1)))) (fTst (fOp gNe (fCall gLen (fACons (fVar 1) fANil)) (fCall gLen (fACons (fFld 0 (fVar 0)) fANil))))) (fun δ => .exc (Str.ofString "BadRow") δ) (.nx)) B [.v (.dict E), .v (.list gs), .v m, .un, .un, .un, .un, .un]).toR = r := fun {B r} hB => by
    refine seq_step ?_ hB
    unfold lsD at f0
    generalize (css.map fun c => PyData.list (c.map .int)) = L at *
    simp -implicitDefEqProofs [isT, tyN, f0, e, h']
  have it : fRg zipD (fACons (fFld 0 (fVar 0)) (fACons (fVar 1) fANil)) [.v (.dict E), .v (.list gs), .v m, .un, .un, .un, .un, .un] = .ok (List.zipWith prD (css.map fun c => .list (ins c)) gs) := by
    unfold lsD at f0
    have eL : (css.map fun c => PyData.list (c.map .int)) = (css.map fun c => PyData.list (ins c)) := rfl
    rw [eL] at f0
    generalize (css.map fun c => PyData.list (ins c)) = L at *
    simp -implicitDefEqProofs [f0, zipD, sqD]
  rcases lp with ⟨hb, δ, l⟩ | ⟨al, s3, s4, l⟩
  · left
    refine ⟨hb, s1 ?_⟩
    rw [fSeq_ap, fFor_ap, it]
    simp only []
    rw [l]
    rfl
  · right
    refine ⟨al, fun hm => s1 ?_⟩
    rw [fSeq_ap, fFor_ap, it]
    simp only []
    rw [l]
    simp -implicitDefEqProofs [hm]
end
end DM
set_option Elab.async false
set_option linter.all false
set_option maxRecDepth 100000
set_option maxHeartbeats 1000000
/-! The law k16: what is spoilt, what is told. -/
namespace DM
open PySem DL
theorem mul2 {n : Nat} (h : n ≤ 1000) : gMul (.list [.int 2]) (.int n) = .new (ins (List.replicate n 2)) := by
  show (if (0 : Int) ≤ n ∧ (n : Int) ≤ 1000 ∧ [PyData.int 2].length ≤ 60 then R.new (List.replicate (Int.toNat (n : Int)) [PyData.int 2]).flatten else .bad) = _
  rw [if_pos ⟨by omega, by omega, by simp⟩, rep_flat, Int.toNat_natCast]
  unfold ins
  rw [List.map_replicate]
/-- an answer that is the thing d -/
def Is (r : R) (d : D) : Prop := r = .ok d ∨ ∃ ds, d = .list ds ∧ r = .new ds
theorem spoiltc_eq {cs : List Int} (G : Good cs) {cell : Int} (hc : 0 ≤ cell) : ∃ d, Is (r_l_spoilt_counts [.list (ins cs), .int cell]) d ∧ BadC d := by
  have lo := G.lo
  have hi := G.hi
  have p0 : 0 < (cs.length : Int) := by omega
  have p0' : 0 < cs.length := by omega
  obtain ⟨a, ha⟩ : ∃ a : Nat, cell / 14 % (cs.length : Int) = a := ⟨(cell / 14 % (cs.length : Int)).toNat, by have := Int.emod_nonneg (cell / 14) (show (cs.length : Int) ≠ 0 by omega); omega⟩
  have e0 : r_l_spoilt_counts [.list (ins cs), .int cell] = (F_l_spoilt_counts [.v (.list (ins cs)), .v (.int cell), .un, .un, .un]).toR := rfl
  have m2 := mul2 (n := 13 - cs.length) (by omega)
  rw [show ((13 - cs.length : Nat) : Int) = 13 - (cs.length : Int) by omega] at m2
  have c13 := cat_l (xs := ins cs) (ys := ins (List.replicate (13 - cs.length) 2)) (by simp; omega)
  obtain ⟨m, em, m14⟩ : ∃ m : Nat, cell % 14 = m ∧ m < 14 := ⟨(cell % 14).toNat, by omega, by omega⟩
  have ct := cutD_take (ins cs) a
  have cd := cutD_drop (ins cs) (a + 1)
  rw [show ((a + 1 : Nat) : Int) = (a : Int) + 1 by omega] at cd
  generalize hBL : ([.int 1, .int 10, .int (-1), .bool true, .str (Str.ofString "2"), .none, .list [.int 2]] : List D) = BL
  generalize hSL : ([.tuple (ins cs), .str (Str.ofString "22"), .none, .int 2, .dict [], .list [], .list (ins cs ++ ins (List.replicate (13 - cs.length) 2))] : List D) = SL
  have bl : BL.length = 7 := by rw [← hBL]; rfl
  have sl : SL.length = 7 := by rw [← hSL]; rfl
  have badB : ∀ x ∈ BL, among x 2 9 = false := by
    intro x hx
    rw [← hBL] at hx
    simp only [List.mem_cons, List.not_mem_nil, or_false] at hx
    rcases hx with rfl | rfl | rfl | rfl | rfl | rfl | rfl <;> rfl
  have badL : ∀ x ∈ SL, BadC x := by
    intro x hx
    rw [← hSL] at hx
    simp only [List.mem_cons, List.not_mem_nil, or_false] at hx
    rcases hx with rfl | rfl | rfl | rfl | rfl | rfl | rfl
    · exact badC_other rfl
    · exact badC_other rfl
    · exact badC_other rfl
    · exact badC_other rfl
    · exact badC_other rfl
    · exact badC_long (.inl rfl)
    · exact badC_long (.inr (by simp; omega))
  have st : ∀ {B : List Sl → Fl} {r : R}, (B [.v (.list (ins cs)), .v (.int cell), .v (.int a), .v (.list BL), .v (.list SL)]).toR = r → (fSeq (fSet 2 (fOp gMod (fOp gFdiv (fVar 1) (fC (.int 14))) (fCall gLen (fACons (fVar 0) fANil))))
    (fSeq (fSet 3 (fLst (fACons (fC (.int 1)) (fACons (fC (.int 10)) (fACons (fNeg (fC (.int 1))) (fACons (fC (.bool true)) (fACons (fC (.str (Str.ofString "2"))) (fACons (fC .none) (fACons (fLst (fACons (fC (.int 2)) fANil)) fANil)))))))))
    (fSeq (fSet 4 (fLst (fACons (fCall gTuple (fACons (fVar 0) fANil)) (fACons (fC (.str (Str.ofString "22"))) (fACons (fC .none) (fACons (fC (.int 2)) (fACons (fC (.dict [])) (fACons (fLst fANil) (fACons (fOp gAdd (fVar 0) (fOp gMul (fLst (fACons (fC (.int 2)) fANil)) (fOp gSub (fC (.int 13)) (fCall gLen (fACons (fVar 0) fANil))))) fANil))))))))) B)) [.v (.list (ins cs)), .v (.int cell), .un, .un, .un]).toR = r := fun {B r} h => by
    refine seq_step (δ' := [.v (.list (ins cs)), .v (.int cell), .v (.int a), .un, .un]) (by simp -implicitDefEqProofs [p0, p0', ha]) ?_
    refine seq_step (δ' := [.v (.list (ins cs)), .v (.int cell), .v (.int a), .v (.list BL), .un]) (by rw [← hBL]; simp -implicitDefEqProofs [LIMn (show 7 ≤ 100000 by omega), LIMn (show 1 ≤ 100000 by omega)]) ?_
    refine seq_step (δ' := [.v (.list (ins cs)), .v (.int cell), .v (.int a), .v (.list BL), .v (.list SL)]) (by rw [← hSL]; generalize ins (List.replicate (13 - cs.length) 2) = Z at *; simp -implicitDefEqProofs [LIMn (show 7 ≤ 100000 by omega), LIMn (show 0 ≤ 100000 by omega), m2, c13]) h
  by_cases lt : m < 7
  · have ix : gIx (.list SL) (.int m) = .ok (SL[m]'(by omega)) := by
      show (match L2.atI SL (m : Int) with | some d => R.ok d | none => .bad) = _
      rw [atI_lt (by omega)]
    refine ⟨SL[m]'(by omega), .inl ?_, badL _ (List.getElem_mem _)⟩
    rw [e0]
    unfold F_l_spoilt_counts
    refine st ?_
    have lt' : (m : Int) < 7 := by omega
    simp -implicitDefEqProofs [em, lt, lt', ix]
  · have ix : gIx (.list BL) (.int ((m : Int) - 7)) = .ok (BL[m - 7]'(by omega)) := by
      rw [show (m : Int) - 7 = ((m - 7 : Nat) : Int) by omega]
      show (match L2.atI BL ((m - 7 : Nat) : Int) with | some d => R.ok d | none => .bad) = _
      rw [atI_lt (by omega)]
    have b1 := badB _ (List.getElem_mem (show m - 7 < BL.length by omega))
    generalize BL[m - 7]'(by omega) = x at ix b1
    have t1 : ((ins cs).take a).length ≤ cs.length := by rw [List.length_take, ints_length]; omega
    have t2 : ((ins cs).drop (a + 1)).length ≤ cs.length := by rw [List.length_drop, ints_length]; omega
    have k1 := cat_l (xs := (ins cs).take a) (ys := [x]) (by simp only [List.length_cons, List.length_nil]; omega)
    have k2 := cat_l (xs := (ins cs).take a ++ [x]) (ys := (ins cs).drop (a + 1)) (by rw [List.length_append]; simp only [List.length_cons, List.length_nil]; omega)
    refine ⟨.list ((ins cs).take a ++ [x] ++ (ins cs).drop (a + 1)), .inr ⟨_, rfl, ?_⟩, badC_at (x := x) (by simp) b1⟩
    rw [e0]
    unfold F_l_spoilt_counts
    refine st ?_
    have lt' : ¬ (m : Int) < 7 := by omega
    generalize (ins cs).take a = T1 at *
    generalize (ins cs).drop (a + 1) = T2 at *
    simp -implicitDefEqProofs only [List.append_assoc] at k2 ⊢
    simp -implicitDefEqProofs [em, lt, lt', ix, ct, cd, k1, k2, LIMn (show 1 ≤ 100000 by omega)]
theorem spoiltr_eq {cs rs : List Int} (G : Good cs) (h : IsRow cs rs) {cell : Int} (hc : 0 ≤ cell) : ∃ d, Is (r_l_spoilt_row [.list (ins cs), .tuple (ins rs), .int cell]) d ∧ BadR cs d := by
  have lo := G.lo
  have hi := G.hi
  have hl := isRow_len h
  have p0 : 0 < (rs.length : Int) := by omega
  have p0' : 0 < rs.length := by omega
  obtain ⟨a, ha, a1⟩ : ∃ a : Nat, cell / 11 % (rs.length : Int) = a ∧ a < rs.length := by
    have x1 := Int.emod_nonneg (cell / 11) (show (rs.length : Int) ≠ 0 by omega)
    have x2 := Int.emod_lt_of_pos (cell / 11) p0
    exact ⟨(cell / 11 % (rs.length : Int)).toNat, by omega, by omega⟩
  have e0 : r_l_spoilt_row [.list (ins cs), .tuple (ins rs), .int cell] = (F_l_spoilt_row [.v (.list (ins cs)), .v (.tuple (ins rs)), .v (.int cell), .un, .un, .un]).toR := rfl
  have ixc : gIx (.list (ins cs)) (.int a) = .ok (.int cs[a]) := gIx_l (by omega)
  have c1 := cat_t (xs := ins rs) (ys := [.int 0]) (by simp; omega)
  have cl := cutD_last (S := rs) (by omega)
  obtain ⟨m, em, m11⟩ : ∃ m : Nat, cell % 11 = m ∧ m < 11 := ⟨(cell % 11).toNat, by omega, by omega⟩
  have ct := cutD_take (ins rs) a
  have cd := cutD_drop (ins rs) (a + 1)
  rw [show ((a + 1 : Nat) : Int) = (a : Int) + 1 by omega] at cd
  generalize hBL : ([.int cs[a], .int (-1), .bool true, .bool false, .str (Str.ofString "0"), .none] : List D) = BL
  generalize hSL : ([.list (ins rs), .tuple (ins rs ++ [.int 0]), .tuple (ins (rs.take (rs.length - 1))), .str (Str.ofString "0"), .none] : List D) = SL
  have bl : BL.length = 6 := by rw [← hBL]; rfl
  have sl : SL.length = 5 := by rw [← hSL]; rfl
  have badB : ∀ x ∈ BL, among x 0 (cs[a] - 1) = false := by
    intro x hx
    rw [← hBL] at hx
    simp only [List.mem_cons, List.not_mem_nil, or_false] at hx
    rcases hx with rfl | rfl | rfl | rfl | rfl | rfl
    · rw [among_int, decide_eq_false (by omega : ¬ cs[a] ≤ cs[a] - 1), Bool.and_false]
    · rfl
    · rfl
    · rfl
    · rfl
    · rfl
  have badL : ∀ x ∈ SL, BadR cs x := by
    intro x hx
    rw [← hSL] at hx
    simp only [List.mem_cons, List.not_mem_nil, or_false] at hx
    rcases hx with rfl | rfl | rfl | rfl | rfl
    · exact badR_other rfl
    · exact badR_len (by simp; omega)
    · exact badR_len (by rw [ints_length, List.length_take]; omega)
    · exact badR_other rfl
    · exact badR_other rfl
  have st : ∀ {B : List Sl → Fl} {r : R}, (B [.v (.list (ins cs)), .v (.tuple (ins rs)), .v (.int cell), .v (.int a), .v (.list BL), .v (.list SL)]).toR = r → (fSeq (fSet 3 (fOp gMod (fOp gFdiv (fVar 2) (fC (.int 11))) (fCall gLen (fACons (fVar 1) fANil))))
    (fSeq (fSet 4 (fLst (fACons (fOp gIx (fVar 0) (fVar 3)) (fACons (fNeg (fC (.int 1))) (fACons (fC (.bool true)) (fACons (fC (.bool false)) (fACons (fC (.str (Str.ofString "0"))) (fACons (fC .none) fANil))))))))
    (fSeq (fSet 5 (fLst (fACons (fCall gList (fACons (fVar 1) fANil)) (fACons (fOp gAdd (fVar 1) (fTup (fACons (fC (.int 0)) fANil))) (fACons (fSl (fVar 1) (fun _ => .ok none) (fPart (fNeg (fC (.int 1))))) (fACons (fC (.str (Str.ofString "0"))) (fACons (fC .none) fANil))))))) B)) [.v (.list (ins cs)), .v (.tuple (ins rs)), .v (.int cell), .un, .un, .un]).toR = r := fun {B r} h => by
    refine seq_step (δ' := [.v (.list (ins cs)), .v (.tuple (ins rs)), .v (.int cell), .v (.int a), .un, .un]) (by simp -implicitDefEqProofs [p0, p0', ha]) ?_
    refine seq_step (δ' := [.v (.list (ins cs)), .v (.tuple (ins rs)), .v (.int cell), .v (.int a), .v (.list BL), .un]) (by rw [← hBL]; simp -implicitDefEqProofs [LIMn (show 6 ≤ 100000 by omega), ixc]) ?_
    refine seq_step (δ' := [.v (.list (ins cs)), .v (.tuple (ins rs)), .v (.int cell), .v (.int a), .v (.list BL), .v (.list SL)]) (by rw [← hSL]; generalize ins (rs.take (rs.length - 1)) = Z at *; simp -implicitDefEqProofs [LIMn (show 5 ≤ 100000 by omega), LIMn (show 1 ≤ 100000 by omega), c1, cl]) h
  by_cases lt : m < 5
  · have ix : gIx (.list SL) (.int m) = .ok (SL[m]'(by omega)) := by
      show (match L2.atI SL (m : Int) with | some d => R.ok d | none => .bad) = _
      rw [atI_lt (by omega)]
    refine ⟨SL[m]'(by omega), .inl ?_, badL _ (List.getElem_mem _)⟩
    rw [e0]
    unfold F_l_spoilt_row
    refine st ?_
    have lt' : (m : Int) < 5 := by omega
    simp -implicitDefEqProofs [em, lt, lt', ix]
  · have ix : gIx (.list BL) (.int ((m : Int) - 5)) = .ok (BL[m - 5]'(by omega)) := by
      rw [show (m : Int) - 5 = ((m - 5 : Nat) : Int) by omega]
      show (match L2.atI BL ((m - 5 : Nat) : Int) with | some d => R.ok d | none => .bad) = _
      rw [atI_lt (by omega)]
    have b1 := badB _ (List.getElem_mem (show m - 5 < BL.length by omega))
    generalize BL[m - 5]'(by omega) = x at ix b1
    have t1 : ((ins rs).take a).length = a := by rw [List.length_take, ints_length]; omega
    have t2 : ((ins rs).drop (a + 1)).length = rs.length - (a + 1) := by rw [List.length_drop, ints_length]
    have k1 := cat_t (xs := (ins rs).take a) (ys := [x]) (by simp only [List.length_cons, List.length_nil]; omega)
    have k2 := cat_t (xs := (ins rs).take a ++ [x]) (ys := (ins rs).drop (a + 1)) (by rw [List.length_append]; simp only [List.length_cons, List.length_nil]; omega)
    have len : ((ins rs).take a ++ [x] ++ (ins rs).drop (a + 1)).length = cs.length := by
      rw [List.length_append, List.length_append, t1, t2]
      simp only [List.length_cons, List.length_nil]
      omega
    have at_ : ((ins rs).take a ++ [x] ++ (ins rs).drop (a + 1))[a]'(by omega) = x := by
      rw [List.getElem_append_left (by rw [List.length_append, t1]; simp), List.getElem_append_right (by omega)]
      simp [t1]
    refine ⟨.tuple ((ins rs).take a ++ [x] ++ (ins rs).drop (a + 1)), .inl ?_, badR_at len (i := a) (by omega) (by omega) (by rw [at_]; exact b1)⟩
    rw [e0]
    unfold F_l_spoilt_row
    refine st ?_
    have lt' : ¬ (m : Int) < 5 := by omega
    clear at_ len
    generalize (ins rs).take a = T1 at *
    generalize (ins rs).drop (a + 1) = T2 at *
    simp -implicitDefEqProofs only [List.append_assoc] at k2 ⊢
    simp -implicitDefEqProofs [em, lt, lt', ix, ct, cd, k1, k2, LIMn (show 1 ≤ 100000 by omega)]
end DM
set_option Elab.async false
set_option linter.all false
set_option maxRecDepth 100000
set_option maxHeartbeats 1000000
namespace DM
open PySem DL
theorem set_is {j : Nat} {f : List Sl → R} {δ : List Sl} {d : D} (h : Is (f δ) d) : fSet j f δ = .nx (δ.set j (.v d)) := by
  rw [fSet_ap]
  rcases h with h | ⟨ds, rfl, h⟩
  · rw [h]; rfl
  · rw [h]; rfl
theorem most_bad {th : D} (h : among th 0 1000 = false) : r_b_need_most [th] = .exc "BadNumber" := by
  unfold r_b_need_most F_b_need_most DL.run
  simp -implicitDefEqProofs [slots0, h]
section
variable {cs rs : List Int} (G : Good cs) (h : IsRow cs rs)
include G h
theorem num0 {th : D} (ht : among th 0 (prodC cs - 1) = false) : r_l_numbered [.list (ins cs), .tuple (ins rs), .int 0, th] = .new (word "BadNumber") := by
  have g := need_counts_eq G
  have pr := product_of_eq G.cnt
  have ra : r_c_row_at [.list (ins cs), th] = .exc "BadNumber" := by
    unfold r_c_row_at F_c_row_at DL.run
    generalize prodC cs = p at *
    simp -implicitDefEqProofs [slots0, g, pr, ht]
  have e0 : r_l_numbered [.list (ins cs), .tuple (ins rs), .int 0, th] = (F_l_numbered [.v (.list (ins cs)), .v (.tuple (ins rs)), .v (.int 0), .v th, .un]).toR := rfl
  rw [e0]
  unfold F_l_numbered
  rw [fSeq_ap, try_word6 (c := "BadNumber") (δ' := [.v (.list (ins cs)), .v (.tuple (ins rs)), .v (.int 0), .v th, .un]) (by simp -implicitDefEqProofs [ra]) (by simp) (by simp)]
  rfl
theorem num1 {th : D} (ht : among th 0 1000 = false) : r_l_numbered [.list (ins cs), .tuple (ins rs), .int 1, th] = .new (word "BadNumber") := by
  have nr := need_row_eq G h
  have nm := most_bad ht
  have wi : r_c_way_in [.list (ins cs), .tuple (ins rs), .tuple (ins rs), th] = .exc "BadNumber" := by
    unfold r_c_way_in F_c_way_in DL.run
    simp -implicitDefEqProofs [slots0, nr, nm]
  have e0 : r_l_numbered [.list (ins cs), .tuple (ins rs), .int 1, th] = (F_l_numbered [.v (.list (ins cs)), .v (.tuple (ins rs)), .v (.int 1), .v th, .un]).toR := rfl
  rw [e0]
  unfold F_l_numbered
  rw [fSeq_ap, try_word6 (c := "BadNumber") (δ' := [.v (.list (ins cs)), .v (.tuple (ins rs)), .v (.int 1), .v th, .un]) (by simp -implicitDefEqProofs [wi]) (by simp) (by simp)]
  rfl
theorem num2 {d : D} (hd : BadR cs d) : r_l_numbered [.list (ins cs), .tuple (ins rs), .int 2, d] = .new (word "BadRow") := by
  have nr := need_row_eq G h
  have nb := need_row_bad G hd
  have wi : r_c_way_in [.list (ins cs), .tuple (ins rs), d, .int (-1)] = .exc "BadRow" := by
    unfold r_c_way_in F_c_way_in DL.run
    simp -implicitDefEqProofs [slots0, nr, nb]
  have e0 : r_l_numbered [.list (ins cs), .tuple (ins rs), .int 2, d] = (F_l_numbered [.v (.list (ins cs)), .v (.tuple (ins rs)), .v (.int 2), .v d, .un]).toR := rfl
  rw [e0]
  unfold F_l_numbered
  rw [fSeq_ap, try_word6 (c := "BadRow") (δ' := [.v (.list (ins cs)), .v (.tuple (ins rs)), .v (.int 2), .v d, .un]) (by simp -implicitDefEqProofs [wi]) (by simp) (by simp)]
  rfl
theorem num3 {th : D} (ht : among th 0 1000 = false) : r_l_numbered [.list (ins cs), .tuple (ins rs), .int 3, th] = .new (word "BadNumber") := by
  have ir := is_row_eq h
  have nm := most_bad ht
  have ri := rinit_ok (css := [cs]) (by simp) (by simp) (fun c hc => by rw [List.mem_singleton.mp hc]; exact G)
  have wt : r_k_Rway_to3 [.dict (encK [cs] (zerosC [cs]) []), .list [.tuple (ins rs)], th] = .exc "BadNumber" := by
    rcases way_zip (css := [cs]) (rss := zerosC [cs]) (m := th) (gs := [.tuple (ins rs)]) rfl (by simp) (fun i h1 h2 => by
      have : i = 0 := by simpa using h1
      subst this
      exact .inl ir) with ⟨⟨i, h1, h2, hb⟩, _⟩ | ⟨_, e⟩
    · exfalso
      have : i = 0 := by simpa using h1
      subst this
      have hb : r_c_is_row [.list (ins cs), .tuple (ins rs)] = .ok (.bool false) := hb
      rw [ir] at hb
      cases hb
    · exact e nm
  have e0 : r_l_numbered [.list (ins cs), .tuple (ins rs), .int 3, th] = (F_l_numbered [.v (.list (ins cs)), .v (.tuple (ins rs)), .v (.int 3), .v th, .un]).toR := rfl
  rw [e0]
  unfold F_l_numbered
  have ri : r_k_Rinit [.list [.list (ins cs)]] = .ok (.dict (encK [cs] (zerosC [cs]) [])) := ri
  unfold encK at ri wt
  generalize lsD [cs] = A at *
  generalize tsD (zerosC [cs]) = B at *
  generalize tsD [] = Z at *
  rw [fSeq_ap, try_word6 (c := "BadNumber") (δ' := [.v (.list (ins cs)), .v (.tuple (ins rs)), .v (.int 3), .v th, .un]) (by
    generalize ins cs = C at *
    generalize ins rs = R' at *
    simp -implicitDefEqProofs [fMeth, ri, wt, LIMn (show 1 ≤ 100000 by omega)]) (by simp) (by simp)]
  rfl
end
theorem made_bad {d : D} (h : r_k_Rinit [d] = .exc "BadChest") : r_l_made2 [d] = .new (word "BadChest") := by
  have e0 : r_l_made2 [d] = (F_l_made2 [.v d, .un]).toR := rfl
  rw [e0]
  unfold F_l_made2
  rw [fSeq_ap, try_word6 (c := "BadChest") (δ' := [.v d, .un]) (by simp -implicitDefEqProofs [h]) (by simp) (by simp)]
  rfl
theorem to_bad {css rss : List (List Int)} {g : D} (h : r_k_Rway_to3 [.dict (encK css rss []), g, .int (-1)] = .exc "BadRow") : r_l_to [.dict (encK css rss []), g] = .new (word "BadRow") := by
  have e0 : r_l_to [.dict (encK css rss []), g] = (F_l_to [.v (.dict (encK css rss [])), .v g, .un]).toR := rfl
  rw [e0]
  unfold F_l_to
  unfold encK at h ⊢
  generalize lsD css = A at *
  generalize tsD rss = B at *
  generalize tsD [] = Z at *
  rw [fSeq_ap, try_word6 (c := "BadRow") (δ' := [.v (.dict [(.bool false, A), (.bool false, B), (.bool false, Z)]), .v g, .un]) (by simp -implicitDefEqProofs [fMeth, h]) (by simp) (by simp)]
  rfl
theorem word_plain (z : Str) : PyData.plain (.list [.str z]) = true := by simp [PyData.plain, PyData.plainAll]
theorem word_depth (z : Str) : PyData.depth (.list [.str z]) ≤ 1 := by simp [PyData.depth, PyData.depthAll]
theorem words_ne (z : Str) (n : Nat) : gNe (.list (List.replicate n (.list [.str z]))) (.list (List.replicate n (.list [.str z]))) = .ok (.bool false) := by
  refine gNe_self (cmpb_mk ?_ ?_)
  · induction n with
    | zero => rfl
    | succ n ih => rw [List.replicate_succ, PyData.plainAll, word_plain, ih]; rfl
  · induction n with
    | zero => simp [PyData.depthAll]
    | succ n ih =>
      have := word_depth z
      rw [List.replicate_succ, PyData.depthAll]
      omega
theorem mul_words (z : Str) {n : Nat} (h : n ≤ 1000) : gMul (.list [.list [.str z]]) (.int n) = .new (List.replicate n (.list [.str z])) := by
  show (if (0 : Int) ≤ n ∧ (n : Int) ≤ 1000 ∧ [PyData.list [.str z]].length ≤ 60 then R.new (List.replicate (Int.toNat (n : Int)) [PyData.list [.str z]]).flatten else .bad) = _
  rw [if_pos ⟨by omega, by omega, by simp⟩, rep_flat, Int.toNat_natCast]
end DM
set_option Elab.async false
set_option linter.all false
set_option maxRecDepth 100000
set_option maxHeartbeats 1000000
namespace DM
open PySem DL
abbrev LC16 (ws : List Sl → RL) : List Sl → R := fLc ws (setN 10) (fC (.bool true)) (fCall r_l_numbered (fACons (fVar 1) (fACons (fVar 2) (fACons (fVar 10) (fACons (fVar 6) fANil))))) [10]
abbrev BT16 : List Sl → Fl := (fIfS (fTst (fOp gNe (fLc (fSeqI (fTup (fACons (fC (.int 0)) (fACons (fC (.int 1)) (fACons (fC (.int 3)) fANil))))) (setN 10) (fC (.bool true)) (fCall r_l_numbered (fACons (fVar 1) (fACons (fVar 2) (fACons (fVar 10) (fACons (fVar 6) fANil))))) [10]) (fOp gMul (fLst (fACons (fLst (fACons (fC (.str (Str.ofString "number"))) fANil)) fANil)) (fC (.int 3))))) (fRet (fC (.bool false))) (.nx))
theorem lc_three {step : D → Option (Option D)} {w : D} : ∀ l : List Int, (∀ i ∈ l, step (.int i) = some (some w)) → lcGo step (l.map PyData.int) = some (List.replicate l.length w)
  | [], _ => rfl
  | i :: l, h => by
    rw [List.map_cons, lcGo, h i List.mem_cons_self, lc_three l fun x hx => h x (List.mem_cons_of_mem _ hx)]
    rfl
section
variable {cs rs : List Int} (G : Good cs) (h : IsRow cs rs)
include G h
theorem bt16 (s0 s3 s4 s5 s7 s8 s9 : Sl) {th : D} (h0 : among th 0 (prodC cs - 1) = false) (h1 : among th 0 1000 = false) :
    BT16 [s0, .v (.list (ins cs)), .v (.tuple (ins rs)), s3, s4, s5, .v th, s7, s8, s9, .un] = .nx [s0, .v (.list (ins cs)), .v (.tuple (ins rs)), s3, s4, s5, .v th, s7, s8, s9, .un] := by
  unfold BT16
  have n0 := num0 G h h0
  have n1 := num1 G h h1
  have n3 := num3 G h h1
  rw [number_word] at n0 n1 n3
  have mw := mul_words (Str.ofString "number") (n := 3) (by omega)
  have wn := words_ne (Str.ofString "number") 3
  generalize Str.ofString "number" = z at *
  generalize ins cs = C at *
  generalize ins rs = R' at *
  have lc := lc_three (step := lcStep (setN 10) (fC (.bool true)) (fCall r_l_numbered (fACons (fVar 1) (fACons (fVar 2) (fACons (fVar 10) (fACons (fVar 6) fANil))))) (wipeD (thaw [s0, .v (.list C), .v (.tuple R'), s3, s4, s5, .v th, s7, s8, s9, .un]) [10])) (w := .list [.str z]) [0, 1, 3] (fun i hi => by
    simp only [List.mem_cons, List.not_mem_nil, or_false] at hi
    rcases hi with rfl | rfl | rfl
    · simp -implicitDefEqProofs [lcStep, wipeD, n0]
    · simp -implicitDefEqProofs [lcStep, wipeD, n1]
    · simp -implicitDefEqProofs [lcStep, wipeD, n3])
  have l3 : ([0, 1, 3] : List Int).map PyData.int = [.int 0, .int 1, .int 3] := rfl
  rw [l3] at lc
  have it : fSeqI (fTup (fACons (fC (.int 0)) (fACons (fC (.int 1)) (fACons (fC (.int 3)) fANil)))) (thaw [s0, .v (.list C), .v (.tuple R'), s3, s4, s5, .v th, s7, s8, s9, .un]) = .ok [.int 0, .int 1, .int 3] := by
    simp -implicitDefEqProofs [LIMn (show 3 ≤ 100000 by omega)]
  have lcv : fLc (fSeqI (fTup (fACons (fC (.int 0)) (fACons (fC (.int 1)) (fACons (fC (.int 3)) fANil))))) (setN 10) (fC (.bool true)) (fCall r_l_numbered (fACons (fVar 1) (fACons (fVar 2) (fACons (fVar 10) (fACons (fVar 6) fANil))))) [10] (thaw [s0, .v (.list C), .v (.tuple R'), s3, s4, s5, .v th, s7, s8, s9, .un]) = .new (List.replicate 3 (.list [.str z])) := by
    rw [fLc_ap, it]
    simp only []
    rw [lc]
    exact if_pos (LIMn (show 3 ≤ 100000 by omega))
  have mw' : gMul (.list [.list [.str z]]) (.int 3) = .new (List.replicate 3 (.list [.str z])) := mw
  generalize List.replicate 3 (PyData.list [.str z]) = W3 at *
  rw [fIfS_ap, fTst_ap, fOp_ap, lcv]
  simp -implicitDefEqProofs [mw', wn, LIMn (show 1 ≤ 100000 by omega)]
theorem bt_loop (s0 s3 s4 s5 s7 s8 s9 : Sl) : ∀ (ds : List D) (s6 : Sl), (∀ th ∈ ds, among th 0 (prodC cs - 1) = false ∧ among th 0 1000 = false) →
    ∃ s6', forGo (setN 6) BT16 ds [s0, .v (.list (ins cs)), .v (.tuple (ins rs)), s3, s4, s5, s6, s7, s8, s9, .un] = .nx [s0, .v (.list (ins cs)), .v (.tuple (ins rs)), s3, s4, s5, s6', s7, s8, s9, .un]
  | [], s6, _ => ⟨s6, rfl⟩
  | th :: ds, s6, ha => by
    obtain ⟨h0, h1⟩ := ha th List.mem_cons_self
    have b := bt16 G h s0 s3 s4 s5 s7 s8 s9 h0 h1
    rw [go_nx (show setN 6 th [s0, .v (.list (ins cs)), .v (.tuple (ins rs)), s3, s4, s5, s6, s7, s8, s9, .un] = some [s0, .v (.list (ins cs)), .v (.tuple (ins rs)), s3, s4, s5, .v th, s7, s8, s9, .un] from rfl) b]
    exact bt_loop s0 s3 s4 s5 s7 s8 s9 ds (.v th) fun x hx => ha x (List.mem_cons_of_mem _ hx)
end
theorem prodC_le : ∀ {cs : List Int}, Cnt cs → prodC cs ≤ 9 ^ cs.length
  | [], _ => by decide
  | c :: cs, h => by
    have ih := prodC_le h.tail
    have c9 := h.head
    have p := prodC_pos h.tail
    show c * prodC cs ≤ 9 ^ (cs.length + 1)
    rw [Int.pow_succ]
    have a : c * prodC cs ≤ 9 * prodC cs := Int.mul_le_mul_of_nonneg_right c9.2 (by omega)
    omega
theorem good23 : Good [2, 3] := ⟨fun c hc => by simp only [List.mem_cons, List.not_mem_nil, or_false] at hc; omega, by decide, by decide⟩
theorem rows_eq {css rss dss : List (List Int)} : r_k_Rrows [.dict (encK css rss dss)] = .new (rss.map fun r => .tuple (ins r)) := rfl
theorem deeds_eq {css rss dss : List (List Int)} : r_k_Rdeeds [.dict (encK css rss dss)] = .new (dss.map fun r => .tuple (ins r)) := rfl
theorem cmpb_two (a b : List Int) : cmpb (.list [.tuple (ins a), .tuple (ins b)]) = true := by
  have p : ∀ l : List Int, PyData.plainAll (ins l) = true := fun l => by
    induction l with
    | nil => rfl
    | cons x l ih => rw [← ins_cons, PyData.plainAll, ih]; rfl
  have d : ∀ l : List Int, PyData.depthAll (ins l) ≤ 0 := fun l => by
    induction l with
    | nil => simp [ins, PyData.depthAll]
    | cons x l ih =>
      rw [← ins_cons, PyData.depthAll]
      simp [PyData.depth]
      omega
  refine cmpb_mk ?_ ?_
  · simp only [PyData.plainAll, PyData.plain, p, Bool.and_true]
  · have := d a
    have := d b
    simp only [PyData.depthAll, PyData.depth]
    omega
end DM
set_option Elab.async false
set_option linter.all false
set_option maxRecDepth 100000
set_option maxHeartbeats 1000000
namespace DM
open PySem DL
theorem law_k16 (ns : List Int) : r_law_k16 [scr ns] = .ok (.bool true) := by
  obtain ⟨cs, hc, hc1, hc2, ec⟩ := l_counts_eq ns 0 12 (by decide) (by decide)
  have G : Good cs := ⟨hc, hc1, by omega⟩
  have ec' : r_l_counts [scr ns, .int 0, .int 12] = .new (ins cs) := ec
  obtain ⟨rs, hR, er⟩ := l_row_eq ns 5 G
  have er' : r_l_row [scr ns, .int 5, .list (ins cs)] = .ok (.tuple (ins rs)) := er
  have em12 := mixed_at ns (i := 12) 12 rfl
  have em13 := mixed_at ns (i := 13) 13 rfl
  have em14 := mixed_at ns (i := 14) 14 rfl
  have m12 := mixed_nn ns 12
  have m13 := mixed_nn ns 13
  have m14 := mixed_nn ns 14
  generalize mixed ns 12 = x12 at *
  generalize mixed ns 13 = x13 at *
  generalize mixed ns 14 = cell at *
  obtain ⟨bad, eb, hb⟩ := spoiltc_eq G (cell := x12) m12.1
  obtain ⟨worse, ew, hw⟩ := spoiltr_eq G hR (cell := x13) m13.1
  have g := need_counts_eq G
  have nr := need_row_eq G hR
  have t1 := told5_exc (c := "BadChest") (by simp) (asked_c hb .none (w := cell % 12) (by omega) (by omega))
  have t2 := told5_exc (c := "BadRow") (by simp) (asked_r G hw (w := 6 + cell % 6) (by omega) (by omega))
  have n2 := num2 G hR hw
  have pr := product_eq G.cnt
  have pp := prodC_pos G.cnt
  have ple : prodC cs ≤ 9 ^ 12 := by
    have a := prodC_le G.cnt
    have b : (9 : Int) ^ cs.length ≤ 9 ^ 12 := by
      have : (9 : Nat) ^ cs.length ≤ 9 ^ 12 := Nat.pow_le_pow_right (by decide) (by omega)
      exact_mod_cast this
    omega
  have p9 : (9 : Int) ^ 12 = 282429536481 := by decide
  have n0 := num0 G hR (th := .int (prodC cs)) (by rw [among_int, decide_eq_false (by omega : ¬ prodC cs ≤ prodC cs - 1), Bool.and_false])
  have k1 := num1 G hR (th := .int 1001) rfl
  have k3 := num3 G hR (th := .int 1001) rfl
  rw [chest_word] at t1
  rw [row_word] at t2 n2
  rw [number_word] at n0 k1 k3
  have wc := word_ne (Str.ofString "chest")
  have wr := word_ne (Str.ofString "row")
  have wn := word_ne (Str.ofString "number")
  have pw : gPow (.int 10) (.int 30) = .ok (.int (10 ^ 30)) := rfl
  have q30 : (282429536481 : Int) < 10 ^ 30 := by decide
  have things : ∀ th ∈ ([.int (-1), .bool true, .str (Str.ofString "0"), .none, .tuple [.int 0], .int (10 ^ 30)] : List D), among th 0 (prodC cs - 1) = false ∧ among th 0 1000 = false := by
    intro th hth
    generalize (10 : Int) ^ 30 = q at *
    simp only [List.mem_cons, List.not_mem_nil, or_false] at hth
    rcases hth with rfl | rfl | rfl | rfl | rfl | rfl
    · exact ⟨rfl, rfl⟩
    · exact ⟨rfl, rfl⟩
    · exact ⟨rfl, rfl⟩
    · exact ⟨rfl, rfl⟩
    · exact ⟨rfl, rfl⟩
    · exact ⟨by rw [among_int, decide_eq_false (by omega : ¬ q ≤ prodC cs - 1), Bool.and_false], by rw [among_int, decide_eq_false (by omega : ¬ q ≤ 1000), Bool.and_false]⟩
  -- racks that are none
  obtain ⟨gd, hgd⟩ : ∃ gd : List D, gd = [.list (ins cs), .list (ins [2, 3])] := ⟨_, rfl⟩
  have gdl : gd.length = 2 := by rw [hgd]; rfl
  have gdok : ∀ e ∈ gd, r_c_need_counts [e] = .ok .none := by
    intro e he
    rw [hgd] at he
    simp only [List.mem_cons, List.not_mem_nil, or_false] at he
    rcases he with rfl | rfl
    · exact g
    · exact need_counts_eq good23
  have mg3 : gMul (.list gd) (.int 3) = .new (List.replicate 3 gd).flatten := by
    show (if (0 : Int) ≤ 3 ∧ (3 : Int) ≤ 1000 ∧ gd.length ≤ 60 then R.new (List.replicate (Int.toNat 3) gd).flatten else .bad) = _
    exact if_pos ⟨by omega, by omega, by omega⟩
  have l3 : (List.replicate 3 gd).flatten.length = 6 := by
    show (gd ++ (gd ++ (gd ++ []))).length = 6
    simp [gdl]
  have ca := cat_l (xs := gd) (ys := [bad]) (by simp; omega)
  have cb := cat_l (xs := [bad]) (ys := gd) (by simp; omega)
  have someC : ∀ x ∈ ([.tuple gd, .none, .list [], .list (List.replicate 3 gd).flatten, .list (gd ++ [bad]), .list ([bad] ++ gd), .list (ins cs), .str (Str.ofString "22")] : List D), r_k_Rinit [x] = .exc "BadChest" := by
    intro x hx
    simp only [List.mem_cons, List.not_mem_nil, or_false] at hx
    rcases hx with rfl | rfl | rfl | rfl | rfl | rfl | rfl | rfl
    · exact rinit_other rfl
    · exact rinit_other rfl
    · exact rinit_len (.inl rfl)
    · exact rinit_len (.inr (by omega))
    · refine rinit_bad (by simp) (by simp; omega) (fun e he => ?_) ⟨bad, by simp, hb⟩
      rcases List.mem_append.mp he with q | q
      · exact .inl (gdok e q)
      · rw [List.mem_singleton.mp q]; exact .inr hb
    · refine rinit_bad (by simp) (by simp; omega) (fun e he => ?_) ⟨bad, by simp, hb⟩
      rcases List.mem_append.mp he with q | q
      · rw [List.mem_singleton.mp q]; exact .inr hb
      · exact .inl (gdok e q)
    · by_cases q : cs.length ≤ 5
      · have bi : ∀ e ∈ ins cs, BadC e := fun e he => by
          unfold ins at he
          obtain ⟨i, _, rfl⟩ := List.mem_map.mp he
          exact badC_other rfl
        refine rinit_bad (by rw [ints_length]; omega) (by rw [ints_length]; omega) (fun e he => .inr (bi e he)) ?_
        cases cs with
        | nil => simp at hc1
        | cons c cs' => exact ⟨.int c, by simp [ins], badC_other rfl⟩
      · exact rinit_len (.inr (by rw [ints_length]; omega))
    · exact rinit_other rfl
  have ri := rinit_ok (css := [cs, [2, 3]]) (by simp) (by simp) (fun c hc => by
    simp only [List.mem_cons, List.not_mem_nil, or_false] at hc
    rcases hc with rfl | rfl
    · exact G
    · exact good23)
  have ri' : r_k_Rinit [.list gd] = .ok (.dict (encK [cs, [2, 3]] (zerosC [cs, [2, 3]]) [])) := by rw [hgd]; exact ri
  -- rows that are none
  have r23 : IsRow [2, 3] [0, 0] := ⟨by omega, by omega, by omega, by omega, trivial⟩
  have i1 := is_row_eq hR
  have i2 := is_row_eq r23
  have two : ∀ (a b : D) (h1 : r_c_is_row [.list (ins cs), a] = .ok (.bool true) ∨ BadR cs a) (h2 : r_c_is_row [.list (ins [2, 3]), b] = .ok (.bool true) ∨ BadR [2, 3] b) (hx : BadR cs a ∨ BadR [2, 3] b), r_k_Rway_to3 [.dict (encK [cs, [2, 3]] (zerosC [cs, [2, 3]]) []), .list [a, b], .int (-1)] = .exc "BadRow" := by
    intro a b h1 h2 hx
    rcases way_zip (css := [cs, [2, 3]]) (rss := zerosC [cs, [2, 3]]) (m := .int (-1)) (gs := [a, b]) rfl (by simp) (fun i q1 q2 => by
      match i, q1 with
      | 0, _ => exact h1
      | 1, _ => exact h2
      | n + 2, q1 => exact absurd q1 (by show ¬ n + 2 < 2; omega)) with ⟨_, e⟩ | ⟨al, _⟩
    · exact e
    · exfalso
      have a0 : r_c_is_row [.list (ins cs), a] = .ok (.bool true) := al 0 (by simp) (by simp)
      have a1 : r_c_is_row [.list (ins [2, 3]), b] = .ok (.bool true) := al 1 (by simp) (by simp)
      rcases hx with hx | hx
      · unfold BadR at hx; rw [a0] at hx; cases hx
      · unfold BadR at hx; rw [a1] at hx; cases hx
  have someR : ∀ x ∈ ([.list [.tuple (ins rs)], .list [.tuple (ins rs), .tuple [.int 0, .int 0], .tuple [.int 0, .int 0]], .tuple [.tuple (ins rs), .tuple [.int 0, .int 0]], .none, .list [worse, .tuple [.int 0, .int 0]], .list [.tuple (ins rs), .tuple [.int 0, .int 3]], .list [.tuple (ins rs), .list [.int 0, .int 0]]] : List D), r_k_Rway_to3 [.dict (encK [cs, [2, 3]] (zerosC [cs, [2, 3]]) []), x, .int (-1)] = .exc "BadRow" := by
    intro x hx
    simp only [List.mem_cons, List.not_mem_nil, or_false] at hx
    rcases hx with rfl | rfl | rfl | rfl | rfl | rfl | rfl
    · exact way_len (by simp)
    · exact way_len (by simp)
    · exact way_other rfl
    · exact way_other rfl
    · exact two _ _ (.inr hw) (.inl i2) (.inl hw)
    · have b3 : BadR [2, 3] (.tuple [.int 0, .int 3]) := badR_at rfl (i := 1) (by simp) (by simp) rfl
      exact two _ _ (.inl i1) (.inr b3) (.inr b3)
    · have b3 : BadR [2, 3] (.list [.int 0, .int 0]) := badR_other rfl
      exact two _ _ (.inl i1) (.inr b3) (.inr b3)
  have tr := tup_rep (m := cs.length) (by omega)
  have ge := gEq_self (cmpb_two (List.replicate cs.length 0) [0, 0])
  have g0 : gEq (.list []) (.list []) = .ok (.bool true) := gEq_self (d := .list []) (by decide)
  have rw_ : r_k_Rrows [.dict (encK [cs, [2, 3]] (zerosC [cs, [2, 3]]) [])] = .new [.tuple (ins (List.replicate cs.length 0)), .tuple (ins [0, 0])] := rfl
  have dd_ : r_k_Rdeeds [.dict (encK [cs, [2, 3]] (zerosC [cs, [2, 3]]) [])] = .new [] := rfl
  have md : ∀ x, r_k_Rinit [x] = .exc "BadChest" → r_l_made2 [x] = .new [.str (Str.ofString "chest")] := fun x hx => by rw [made_bad hx, chest_word]
  have td : ∀ x, r_k_Rway_to3 [.dict (encK [cs, [2, 3]] (zerosC [cs, [2, 3]]) []), x, .int (-1)] = .exc "BadRow" → r_l_to [.dict (encK [cs, [2, 3]] (zerosC [cs, [2, 3]]) []), x] = .new [.str (Str.ofString "row")] := fun x hx => by rw [to_bad hx, row_word]
  obtain ⟨i8, hi8, i8l⟩ : ∃ i : Nat, cell / 12 % 8 = i ∧ i < 8 := ⟨(cell / 12 % 8).toNat, by omega, by omega⟩
  obtain ⟨i7, hi7, i7l⟩ : ∃ i : Nat, cell / 96 % 7 = i ∧ i < 7 := ⟨(cell / 96 % 7).toNat, by omega, by omega⟩
  obtain ⟨s6, lp⟩ := bt_loop G hR (.v (scr ns)) (.v bad) (.v worse) (.v (.int cell)) .un .un .un [.int (-1), .bool true, .str (Str.ofString "0"), .none, .tuple [.int 0], .int (10 ^ 30)] .un things
  have e0 : r_law_k16 [scr ns] = (F_law_k16 [.v (scr ns), .un, .un, .un, .un, .un, .un, .un, .un, .un, .un]).toR := rfl
  rw [e0]
  unfold F_law_k16
  refine seq_step (δ' := [.v (scr ns), .v (.list (ins cs)), .un, .un, .un, .un, .un, .un, .un, .un, .un]) (by simp -implicitDefEqProofs [ec']) ?_
  refine seq_step (δ' := [.v (scr ns), .v (.list (ins cs)), .v (.tuple (ins rs)), .un, .un, .un, .un, .un, .un, .un, .un]) (by simp -implicitDefEqProofs [er']) ?_
  refine seq_step (δ' := [.v (scr ns), .v (.list (ins cs)), .v (.tuple (ins rs)), .v bad, .un, .un, .un, .un, .un, .un, .un]) (by refine (set_is (d := bad) ?_).trans rfl; simp -implicitDefEqProofs [em12]; exact eb) ?_
  refine seq_step (δ' := [.v (scr ns), .v (.list (ins cs)), .v (.tuple (ins rs)), .v bad, .v worse, .un, .un, .un, .un, .un, .un]) (by refine (set_is (d := worse) ?_).trans rfl; simp -implicitDefEqProofs [em13]; exact ew) ?_
  refine seq_step (δ' := [.v (scr ns), .v (.list (ins cs)), .v (.tuple (ins rs)), .v bad, .v worse, .v (.int cell), .un, .un, .un, .un, .un]) (by simp -implicitDefEqProofs [em14]) ?_
  refine seq_step (δ' := [.v (scr ns), .v (.list (ins cs)), .v (.tuple (ins rs)), .v bad, .v worse, .v (.int cell), .un, .un, .un, .un, .un]) (by simp -implicitDefEqProofs [g, nr, gIs, isNone]) ?_
  refine seq_step (δ' := [.v (scr ns), .v (.list (ins cs)), .v (.tuple (ins rs)), .v bad, .v worse, .v (.int cell), .un, .un, .un, .un, .un]) ?_ ?_
  · generalize Str.ofString "chest" = z1 at *
    generalize Str.ofString "row" = z2 at *
    simp -implicitDefEqProofs [t1, t2, wc, wr, LIMn (show 1 ≤ 100000 by omega)]
  refine seq_step (δ' := [.v (scr ns), .v (.list (ins cs)), .v (.tuple (ins rs)), .v bad, .v worse, .v (.int cell), .un, .un, .un, .un, .un]) ?_ ?_
  · generalize Str.ofString "row" = z2 at *
    simp -implicitDefEqProofs [n2, wr, LIMn (show 1 ≤ 100000 by omega)]
  refine seq_step (δ' := [.v (scr ns), .v (.list (ins cs)), .v (.tuple (ins rs)), .v bad, .v worse, .v (.int cell), s6, .un, .un, .un, .un]) ?_ ?_
  · have it : fSeqI (fLst (fACons (fNeg (fC (.int 1))) (fACons (fC (.bool true)) (fACons (fC (.str (Str.ofString "0"))) (fACons (fC .none) (fACons (fTup (fACons (fC (.int 0)) fANil)) (fACons (fOp gPow (fC (.int 10)) (fC (.int 30))) fANil))))))) [.v (scr ns), .v (.list (ins cs)), .v (.tuple (ins rs)), .v bad, .v worse, .v (.int cell), .un, .un, .un, .un, .un] = .ok [.int (-1), .bool true, .str (Str.ofString "0"), .none, .tuple [.int 0], .int (10 ^ 30)] := by
      generalize (10 : Int) ^ 30 = q at *
      generalize Str.ofString "0" = z at *
      simp -implicitDefEqProofs [LIMn (show 6 ≤ 100000 by omega), LIMn (show 1 ≤ 100000 by omega), pw]
    rw [fFor_ap, it]
    exact lp
  refine seq_step (δ' := [.v (scr ns), .v (.list (ins cs)), .v (.tuple (ins rs)), .v bad, .v worse, .v (.int cell), s6, .un, .un, .un, .un]) ?_ ?_
  · generalize Str.ofString "number" = z at *
    generalize ins cs = C at *
    simp -implicitDefEqProofs [pr, n0, wn, LIMn (show 1 ≤ 100000 by omega)]
  refine seq_step (δ' := [.v (scr ns), .v (.list (ins cs)), .v (.tuple (ins rs)), .v bad, .v worse, .v (.int cell), s6, .un, .un, .un, .un]) ?_ ?_
  · have mw := mul_words (Str.ofString "number") (n := 2) (by omega)
    have w2 := words_ne (Str.ofString "number") 2
    generalize Str.ofString "number" = z at *
    have mw' : gMul (.list [.list [.str z]]) (.int 2) = .new (List.replicate 2 (.list [.str z])) := mw
    generalize ins cs = C at *
    generalize ins rs = R' at *
    have lc := lc_three (step := lcStep (setN 10) (fC (.bool true)) (fCall r_l_numbered (fACons (fVar 1) (fACons (fVar 2) (fACons (fVar 10) (fACons (fC (.int 1001)) fANil))))) (wipeD (thaw [.v (scr ns), .v (.list C), .v (.tuple R'), .v bad, .v worse, .v (.int cell), s6, .un, .un, .un, .un]) [10])) (w := .list [.str z]) [1, 3] (fun i hi => by
      simp only [List.mem_cons, List.not_mem_nil, or_false] at hi
      rcases hi with rfl | rfl
      · simp -implicitDefEqProofs [lcStep, wipeD, k1]
      · simp -implicitDefEqProofs [lcStep, wipeD, k3])
    have l2 : ([1, 3] : List Int).map PyData.int = [.int 1, .int 3] := rfl
    rw [l2] at lc
    have lcv : fLc (fSeqI (fTup (fACons (fC (.int 1)) (fACons (fC (.int 3)) fANil)))) (setN 10) (fC (.bool true)) (fCall r_l_numbered (fACons (fVar 1) (fACons (fVar 2) (fACons (fVar 10) (fACons (fC (.int 1001)) fANil))))) [10] (thaw [.v (scr ns), .v (.list C), .v (.tuple R'), .v bad, .v worse, .v (.int cell), s6, .un, .un, .un, .un]) = .new (List.replicate 2 (.list [.str z])) := by
      have it : fSeqI (fTup (fACons (fC (.int 1)) (fACons (fC (.int 3)) fANil))) (thaw [.v (scr ns), .v (.list C), .v (.tuple R'), .v bad, .v worse, .v (.int cell), s6, .un, .un, .un, .un]) = .ok [.int 1, .int 3] := by
        simp -implicitDefEqProofs [LIMn (show 2 ≤ 100000 by omega)]
      rw [fLc_ap, it]
      simp only []
      rw [lc]
      exact if_pos (LIMn (show 2 ≤ 100000 by omega))
    generalize List.replicate 2 (PyData.list [.str z]) = W2 at *
    rw [fIfS_ap, fTst_ap, fOp_ap, lcv]
    simp -implicitDefEqProofs [mw', w2, LIMn (show 1 ≤ 100000 by omega)]
  refine seq_step (δ' := [.v (scr ns), .v (.list (ins cs)), .v (.tuple (ins rs)), .v bad, .v worse, .v (.int cell), s6, .v (.list gd), .un, .un, .un]) (by rw [hgd]; simp -implicitDefEqProofs [LIMn (show 2 ≤ 100000 by omega)]; rfl) ?_
  generalize hL8 : ([.tuple gd, .none, .list [], .list (List.replicate 3 gd).flatten, .list (gd ++ [bad]), .list ([bad] ++ gd), .list (ins cs), .str (Str.ofString "22")] : List D) = L8 at someC
  have l8 : L8.length = 8 := by rw [← hL8]; rfl
  refine seq_step (δ' := [.v (scr ns), .v (.list (ins cs)), .v (.tuple (ins rs)), .v bad, .v worse, .v (.int cell), s6, .v (.list gd), .v (.list L8), .un, .un]) ?_ ?_
  · rw [← hL8]
    generalize (List.replicate 3 gd).flatten = F3 at *
    generalize gd ++ [bad] = A1 at *
    generalize [bad] ++ gd = A2 at *
    simp -implicitDefEqProofs [LIMn (show 8 ≤ 100000 by omega), LIMn (show 0 ≤ 100000 by omega), LIMn (show 1 ≤ 100000 by omega), mg3, ca, cb]
  refine seq_step (δ' := [.v (scr ns), .v (.list (ins cs)), .v (.tuple (ins rs)), .v bad, .v worse, .v (.int cell), s6, .v (.list gd), .v (.list L8), .un, .un]) ?_ ?_
  · have ix : gIx (.list L8) (.int i8) = .ok (L8[i8]'(by omega)) := by
      show (match L2.atI L8 (i8 : Int) with | some d => R.ok d | none => .bad) = _
      rw [atI_lt (by omega)]
    have m := md _ (someC _ (List.getElem_mem (show i8 < L8.length by omega)))
    generalize L8[i8]'(by omega) = x at *
    generalize Str.ofString "chest" = z at *
    simp -implicitDefEqProofs [hi8, ix, m, wc, LIMn (show 1 ≤ 100000 by omega)]
  unfold encK at ri' someR td rw_ dd_
  generalize lsD [cs, [2, 3]] = A at *
  generalize tsD (zerosC [cs, [2, 3]]) = B at *
  generalize tsD [] = Z at *
  have ri2 : r_k_Rinit [.list [.list (ins cs), .list [.int 2, .int 3]]] = .ok (.dict [(.bool false, A), (.bool false, B), (.bool false, Z)]) := by rw [hgd] at ri'; exact ri'
  refine seq_step (δ' := [.v (scr ns), .v (.list (ins cs)), .v (.tuple (ins rs)), .v bad, .v worse, .v (.int cell), s6, .v (.list gd), .v (.list L8), .v (.dict [(.bool false, A), (.bool false, B), (.bool false, Z)]), .un]) (by simp -implicitDefEqProofs [LIMn (show 2 ≤ 100000 by omega), ri2]) ?_
  generalize hL7 : ([.list [.tuple (ins rs)], .list [.tuple (ins rs), .tuple [.int 0, .int 0], .tuple [.int 0, .int 0]], .tuple [.tuple (ins rs), .tuple [.int 0, .int 0]], .none, .list [worse, .tuple [.int 0, .int 0]], .list [.tuple (ins rs), .tuple [.int 0, .int 3]], .list [.tuple (ins rs), .list [.int 0, .int 0]]] : List D) = L7 at someR
  have l7 : L7.length = 7 := by rw [← hL7]; rfl
  refine seq_step (δ' := [.v (scr ns), .v (.list (ins cs)), .v (.tuple (ins rs)), .v bad, .v worse, .v (.int cell), s6, .v (.list gd), .v (.list L7), .v (.dict [(.bool false, A), (.bool false, B), (.bool false, Z)]), .un]) ?_ ?_
  · rw [← hL7]
    generalize ins rs = R' at *
    simp -implicitDefEqProofs [LIMn (show 7 ≤ 100000 by omega), LIMn (show 1 ≤ 100000 by omega), LIMn (show 2 ≤ 100000 by omega), LIMn (show 3 ≤ 100000 by omega)]
  refine seq_step (δ' := [.v (scr ns), .v (.list (ins cs)), .v (.tuple (ins rs)), .v bad, .v worse, .v (.int cell), s6, .v (.list gd), .v (.list L7), .v (.dict [(.bool false, A), (.bool false, B), (.bool false, Z)]), .un]) ?_ ?_
  · have ix : gIx (.list L7) (.int i7) = .ok (L7[i7]'(by omega)) := by
      show (match L2.atI L7 (i7 : Int) with | some d => R.ok d | none => .bad) = _
      rw [atI_lt (by omega)]
    have m := td _ (someR _ (List.getElem_mem (show i7 < L7.length by omega)))
    generalize L7[i7]'(by omega) = x at *
    generalize Str.ofString "row" = z at *
    simp -implicitDefEqProofs [hi7, ix, m, wr, LIMn (show 1 ≤ 100000 by omega)]
  have z2 : ins [0, 0] = [.int 0, .int 0] := rfl
  generalize ins (List.replicate cs.length 0) = Z0 at *
  rw [z2] at ge rw_
  simp -implicitDefEqProofs [fMeth, rw_, dd_, tr, ge, g0, LIMn (show 1 ≤ 100000 by omega), LIMn (show 2 ≤ 100000 by omega), LIMn (show 0 ≤ 100000 by omega)]
end DM
set_option Elab.async false
set_option linter.all false
set_option maxRecDepth 100000
set_option maxHeartbeats 4000000
namespace Wk
open PySem PySem.Spec PyProof.Rows L2 DL DM
def clsS (i j : Nat) : Stmt := match PySem.Challenge.pw_ringbar_k16_chests_refused.main.body.getD i (.Pass ⟨0, 0, 0, 0⟩) with
  | .ClassDef _ _ _ b _ _ _ _ _ _ _ => b.getD j (.Pass ⟨0, 0, 0, 0⟩)
  | _ => .Pass ⟨0, 0, 0, 0⟩
def topS (i : Nat) : Stmt := PySem.Challenge.pw_ringbar_k16_chests_refused.main.body.getD i (.Pass ⟨0, 0, 0, 0⟩)
abbrev s_is_whole : Stmt := topS 13
theorem sc_is_whole : FnScope ["thing"] ["thing"] (defScope s_is_whole) := ⟨rfl, rfl, rfl, by decide +kernel, rfl, by decide +kernel, by decide +kernel⟩
abbrev s_is_among : Stmt := topS 14
theorem sc_is_among : FnScope ["thing", "least", "most"] ["thing", "least", "most"] (defScope s_is_among) := ⟨rfl, rfl, rfl, by decide +kernel, rfl, by decide +kernel, by decide +kernel⟩
abbrev s_need_most : Stmt := topS 15
theorem sc_need_most : FnScope ["most"] ["most"] (defScope s_need_most) := ⟨rfl, rfl, rfl, by decide +kernel, rfl, by decide +kernel, by decide +kernel⟩
abbrev s_need_counts : Stmt := topS 21
theorem sc_need_counts : FnScope ["counts", "count"] ["counts"] (defScope s_need_counts) := ⟨rfl, rfl, rfl, by decide +kernel, rfl, by decide +kernel, by decide +kernel⟩
abbrev s_is_row : Stmt := topS 22
theorem sc_is_row : FnScope ["counts", "row", "position", "count"] ["counts", "row"] (defScope s_is_row) := ⟨rfl, rfl, rfl, by decide +kernel, rfl, by decide +kernel, by decide +kernel⟩
abbrev s_need_row : Stmt := topS 23
theorem sc_need_row : FnScope ["counts", "row"] ["counts", "row"] (defScope s_need_row) := ⟨rfl, rfl, rfl, by decide +kernel, rfl, by decide +kernel, by decide +kernel⟩
abbrev s_product_of : Stmt := topS 24
theorem sc_product_of : FnScope ["counts", "found", "count"] ["counts"] (defScope s_product_of) := ⟨rfl, rfl, rfl, by decide +kernel, rfl, by decide +kernel, by decide +kernel⟩
abbrev s_number_by : Stmt := topS 25
theorem sc_number_by : FnScope ["counts", "row", "number", "place", "position"] ["counts", "row"] (defScope s_number_by) := ⟨rfl, rfl, rfl, by decide +kernel, rfl, by decide +kernel, by decide +kernel⟩
abbrev s_row_by : Stmt := topS 26
theorem sc_row_by : FnScope ["counts", "number", "found", "count", "position"] ["counts", "number"] (defScope s_row_by) := ⟨rfl, rfl, rfl, by decide +kernel, rfl, by decide +kernel, by decide +kernel⟩
abbrev s_move_between : Stmt := topS 27
theorem sc_move_between : FnScope ["one", "other", "drawer"] ["one", "other"] (defScope s_move_between) := ⟨rfl, rfl, rfl, by decide +kernel, rfl, by decide +kernel, by decide +kernel⟩
abbrev s_moves_by : Stmt := topS 28
theorem sc_moves_by : FnScope ["counts", "row", "number", "found", "near"] ["counts", "row"] (defScope s_moves_by) := ⟨rfl, rfl, rfl, by decide +kernel, rfl, by decide +kernel, by decide +kernel⟩
abbrev s_moved_by : Stmt := topS 29
theorem sc_moved_by : FnScope ["row", "move"] ["row", "move"] (defScope s_moved_by) := ⟨rfl, rfl, rfl, by decide +kernel, rfl, by decide +kernel, by decide +kernel⟩
abbrev s_is_move : Stmt := topS 30
theorem sc_is_move : FnScope ["counts", "row", "move"] ["counts", "row", "move"] (defScope s_is_move) := ⟨rfl, rfl, rfl, by decide +kernel, rfl, by decide +kernel, by decide +kernel⟩
abbrev s_moves_between : Stmt := topS 31
theorem sc_moves_between : FnScope ["counts", "one", "other", "most", "number", "goal", "found", "near"] ["counts", "one", "other", "most"] (defScope s_moves_between) := ⟨rfl, rfl, rfl, by decide +kernel, rfl, by decide +kernel, by decide +kernel⟩
abbrev s_many : Stmt := topS 32
theorem sc_many : FnScope ["counts"] ["counts"] (defScope s_many) := ⟨rfl, rfl, rfl, by decide +kernel, rfl, by decide +kernel, by decide +kernel⟩
abbrev s_number_in : Stmt := topS 33
theorem sc_number_in : FnScope ["counts", "row"] ["counts", "row"] (defScope s_number_in) := ⟨rfl, rfl, rfl, by decide +kernel, rfl, by decide +kernel, by decide +kernel⟩
abbrev s_row_at : Stmt := topS 34
theorem sc_row_at : FnScope ["counts", "number"] ["counts", "number"] (defScope s_row_at) := ⟨rfl, rfl, rfl, by decide +kernel, rfl, by decide +kernel, by decide +kernel⟩
abbrev s_moves : Stmt := topS 35
theorem sc_moves : FnScope ["counts", "row"] ["counts", "row"] (defScope s_moves) := ⟨rfl, rfl, rfl, by decide +kernel, rfl, by decide +kernel, by decide +kernel⟩
abbrev s_moved : Stmt := topS 36
theorem sc_moved : FnScope ["counts", "row", "move"] ["counts", "row", "move"] (defScope s_moved) := ⟨rfl, rfl, rfl, by decide +kernel, rfl, by decide +kernel, by decide +kernel⟩
abbrev s_rows : Stmt := topS 37
theorem sc_rows : FnScope ["counts", "number"] ["counts"] (defScope s_rows) := ⟨rfl, rfl, rfl, by decide +kernel, rfl, by decide +kernel, by decide +kernel⟩
abbrev s_way_in : Stmt := topS 38
theorem sc_way_in : FnScope ["counts", "one", "other", "most"] ["counts", "one", "other", "most"] (defScope s_way_in) := ⟨rfl, rfl, rfl, by decide +kernel, rfl, by decide +kernel, by decide +kernel⟩
abbrev s_shown_row : Stmt := topS 41
theorem sc_shown_row : FnScope ["counts", "row", "position"] ["counts", "row"] (defScope s_shown_row) := ⟨rfl, rfl, rfl, by decide +kernel, rfl, by decide +kernel, by decide +kernel⟩
abbrev s_read_row : Stmt := topS 42
theorem sc_read_row : FnScope ["counts", "text", "found", "sign", "count"] ["counts", "text"] (defScope s_read_row) := ⟨rfl, rfl, rfl, by decide +kernel, rfl, by decide +kernel, by decide +kernel⟩
abbrev s_Rack_init : Stmt := clsS 46 0
theorem sc_Rack_init : FnScope ["self", "chests", "counts"] ["self", "chests"] (defScope s_Rack_init) := ⟨rfl, rfl, rfl, by decide +kernel, rfl, by decide +kernel, by decide +kernel⟩
abbrev s_Rack_rows : Stmt := clsS 46 1
theorem sc_Rack_rows : FnScope ["self"] ["self"] (defScope s_Rack_rows) := ⟨rfl, rfl, rfl, by decide +kernel, rfl, by decide +kernel, by decide +kernel⟩
abbrev s_Rack_deeds : Stmt := clsS 46 3
theorem sc_Rack_deeds : FnScope ["self"] ["self"] (defScope s_Rack_deeds) := ⟨rfl, rfl, rfl, by decide +kernel, rfl, by decide +kernel, by decide +kernel⟩
abbrev s_Rack_way_to : Stmt := clsS 46 7
theorem sc_Rack_way_to : FnScope ["self", "rows", "most", "counts", "row", "ways", "here", "there"] ["self", "rows", "most"] (defScope s_Rack_way_to) := ⟨rfl, rfl, rfl, by decide +kernel, rfl, by decide +kernel, by decide +kernel⟩
abbrev s__law_cell_at : Stmt := topS 48
theorem sc__law_cell_at : FnScope ["_law_script", "_law_k"] ["_law_script", "_law_k"] (defScope s__law_cell_at) := ⟨rfl, rfl, rfl, by decide +kernel, rfl, by decide +kernel, by decide +kernel⟩
abbrev s__law_mixed : Stmt := topS 49
theorem sc__law_mixed : FnScope ["_law_script", "_law_k"] ["_law_script", "_law_k"] (defScope s__law_mixed) := ⟨rfl, rfl, rfl, by decide +kernel, rfl, by decide +kernel, by decide +kernel⟩
abbrev s__law_counts : Stmt := topS 51
theorem sc__law_counts : FnScope ["_law_script", "_law_k", "_law_most", "_law_many_here", "_law_kind", "_law_counts_here", "_law_drawer", "_law_cell"] ["_law_script", "_law_k", "_law_most"] (defScope s__law_counts) := ⟨rfl, rfl, rfl, by decide +kernel, rfl, by decide +kernel, by decide +kernel⟩
abbrev s__law_product : Stmt := topS 52
theorem sc__law_product : FnScope ["_law_counts_here", "_law_found", "_law_count"] ["_law_counts_here"] (defScope s__law_product) := ⟨rfl, rfl, rfl, by decide +kernel, rfl, by decide +kernel, by decide +kernel⟩
abbrev s__law_row : Stmt := topS 53
theorem sc__law_row : FnScope ["_law_script", "_law_k", "_law_counts_here", "_law_row_here", "_law_drawer", "_law_count", "_law_cell"] ["_law_script", "_law_k", "_law_counts_here"] (defScope s__law_row) := ⟨rfl, rfl, rfl, by decide +kernel, rfl, by decide +kernel, by decide +kernel⟩
abbrev s__law_word : Stmt := topS 56
theorem sc__law_word : FnScope ["_law_e", "_law_kinds", "_law_names", "_law_name", "_law_fits"] ["_law_e"] (defScope s__law_word) := ⟨rfl, rfl, rfl, by decide +kernel, rfl, by decide +kernel, by decide +kernel⟩
abbrev s__law_spoilt_counts : Stmt := topS 57
theorem sc__law_spoilt_counts : FnScope ["_law_counts_here", "_law_cell", "_law_at", "_law_bad", "_law_some"] ["_law_counts_here", "_law_cell"] (defScope s__law_spoilt_counts) := ⟨rfl, rfl, rfl, by decide +kernel, rfl, by decide +kernel, by decide +kernel⟩
abbrev s__law_spoilt_row : Stmt := topS 58
theorem sc__law_spoilt_row : FnScope ["_law_counts_here", "_law_row_here", "_law_cell", "_law_at", "_law_bad", "_law_some"] ["_law_counts_here", "_law_row_here", "_law_cell"] (defScope s__law_spoilt_row) := ⟨rfl, rfl, rfl, by decide +kernel, rfl, by decide +kernel, by decide +kernel⟩
abbrev s__law_asked : Stmt := topS 59
theorem sc__law_asked : FnScope ["_law_which", "_law_counts_here", "_law_row_here"] ["_law_which", "_law_counts_here", "_law_row_here"] (defScope s__law_asked) := ⟨rfl, rfl, rfl, by decide +kernel, rfl, by decide +kernel, by decide +kernel⟩
abbrev s__law_told : Stmt := topS 60
theorem sc__law_told : FnScope ["_law_which", "_law_counts_here", "_law_row_here", "_law_e"] ["_law_which", "_law_counts_here", "_law_row_here"] (defScope s__law_told) := ⟨rfl, rfl, rfl, by decide +kernel, rfl, by decide +kernel, by decide +kernel⟩
abbrev s__law_numbered : Stmt := topS 61
theorem sc__law_numbered : FnScope ["_law_counts_here", "_law_row_here", "_law_way_of", "_law_thing", "_law_e"] ["_law_counts_here", "_law_row_here", "_law_way_of", "_law_thing"] (defScope s__law_numbered) := ⟨rfl, rfl, rfl, by decide +kernel, rfl, by decide +kernel, by decide +kernel⟩
abbrev s__law_made : Stmt := topS 62
theorem sc__law_made : FnScope ["_law_chests", "_law_e"] ["_law_chests"] (defScope s__law_made) := ⟨rfl, rfl, rfl, by decide +kernel, rfl, by decide +kernel, by decide +kernel⟩
abbrev s__law_to : Stmt := topS 63
theorem sc__law_to : FnScope ["_law_rack", "_law_goals", "_law_e"] ["_law_rack", "_law_goals"] (defScope s__law_to) := ⟨rfl, rfl, rfl, by decide +kernel, rfl, by decide +kernel, by decide +kernel⟩
abbrev s_law : Stmt := topS 64
theorem sc_law : FnScope ["_law_script", "_law_counts_here", "_law_row_here", "_law_bad", "_law_worse", "_law_cell", "_law_thing", "_law_good", "_law_some", "_law_rack", "_law_way_of"] ["_law_script"] (defScope s_law) := ⟨rfl, rfl, rfl, by decide +kernel, rfl, by decide +kernel, by decide +kernel⟩
section
variable {P : Program} {w : World} {K : PySem.W.Frag} {mg : Str → Option Value} {base : Heap} {B : Str → Addr} {R RC : Addr}
theorem ok_is_whole {f : Addr} {fd : FuncData} (F : Fun K "is_whole" "is_whole" s_is_whole f fd) (b : Binds K fd ["thing"] []) (g : mg "is_whole" = some (.ref f)) (z_bool : mg "bool" = none) (z_int : mg "int" = none) (z_isinstance : mg "isinstance" = none) :
    Cal P w K mg base 1 "is_whole" 1 r_b_is_whole :=
  fnG F sc_is_whole rfl b g F_b_is_whole (fun cdv A outer s H E X hX hr tk hp => by
    subst hX
    exact ⟨_, _, (dss_one (ds_ret (de_and (k_isi K (de_var 0) z_isinstance z_int "int") (de_one (de_not (k_isi K (de_var 0) z_isinstance z_bool "bool")))))), rfl⟩)
theorem ok_is_among {f : Addr} {fd : FuncData} (F : Fun K "is_among" "is_among" s_is_among f fd) (b : Binds K fd ["thing", "least", "most"] []) (g : mg "is_among" = some (.ref f)) (C_is_whole : Cal P w K mg base 1 "is_whole" 1 r_b_is_whole) :
    Cal P w K mg base 2 "is_among" 3 r_b_is_among :=
  fnG F sc_is_among rfl b g F_b_is_among (fun cdv A outer s H E X hX hr tk hp => by
    subst hX
    exact ⟨_, _, (dss_one (ds_ret (de_and (k_call C_is_whole hr (by decide) tk (da_cons (de_var 0) da_nil)) (de_one (de_chain o_le o_le (de_var 1) (de_var 0) (de_var 2)))))), rfl⟩)
theorem ok_need_most {f : Addr} {fd : FuncData} (F : Fun K "need_most" "need_most" s_need_most f fd) (b : Binds K fd ["most"] []) (g : mg "need_most" = some (.ref f)) (C_is_among : Cal P w K mg base 2 "is_among" 3 r_b_is_among) {t_MOST_TOLD : Tok} (g_MOST_TOLD : mg "MOST_TOLD" = some (.int 1000 t_MOST_TOLD)) (e_BadNumber : Ecls K mg "BadNumber") :
    Cal P w K mg base 3 "need_most" 1 r_b_need_most :=
  fnG F sc_need_most rfl b g F_b_need_most (fun cdv A outer s H E X hX hr tk hp => by
    subst hX
    exact ⟨_, _, (dss_one (ds_if (dt_not (dt_val (k_call C_is_among hr (by decide) tk (da_cons (de_var 0) (da_cons de_int (da_cons (de_glob (v := .int 1000) (d := .int 1000) g_MOST_TOLD ⟨_, rfl⟩ (fun _ => rfl)) da_nil)))))) (dss_one (ds_rz e_BadNumber tk rfl)) dss_nil)), rfl⟩)
theorem ok_need_counts {f : Addr} {fd : FuncData} (F : Fun K "need_counts" "need_counts" s_need_counts f fd) (b : Binds K fd ["counts"] []) (g : mg "need_counts" = some (.ref f)) (C_is_among : Cal P w K mg base 2 "is_among" 3 r_b_is_among) (z_isinstance : mg "isinstance" = none) (z_len : mg "len" = none) (z_list : mg "list" = none) {t_LEAST_COUNT : Tok} (g_LEAST_COUNT : mg "LEAST_COUNT" = some (.int 2 t_LEAST_COUNT)) {t_MOST_COUNT : Tok} (g_MOST_COUNT : mg "MOST_COUNT" = some (.int 9 t_MOST_COUNT)) {t_MOST_DRAWERS : Tok} (g_MOST_DRAWERS : mg "MOST_DRAWERS" = some (.int 12 t_MOST_DRAWERS)) (e_BadChest : Ecls K mg "BadChest") :
    Cal P w K mg base 3 "need_counts" 1 r_c_need_counts :=
  fnG F sc_need_counts rfl b g F_c_need_counts (fun cdv A outer s H E X hX hr tk hp => by
    subst hX
    exact ⟨_, _, (dss_cons (ds_if (dt_w (dw_or (dt_not (dt_val (k_isi K (de_var 0) z_isinstance z_list "list"))) (dw_or1 (dt_not (dt_chain o_le o_le de_int (de_callB (k_len K) z_len (da_cons (de_var 0) da_nil)) (de_glob (v := .int 12) (d := .int 12) g_MOST_DRAWERS ⟨_, rfl⟩ (fun _ => rfl))))))) (dss_one (ds_rz e_BadChest tk rfl)) dss_nil)
    (dss_one (ds_for hp rfl (k_seq K (de_var 0)) (dg_name 1 sc_need_counts.nd) (dss_one (ds_if (dt_not (dt_val (k_call C_is_among hr (by decide) tk (da_cons (de_var 1) (da_cons (de_glob (v := .int 2) (d := .int 2) g_LEAST_COUNT ⟨_, rfl⟩ (fun _ => rfl)) (da_cons (de_glob (v := .int 9) (d := .int 9) g_MOST_COUNT ⟨_, rfl⟩ (fun _ => rfl)) da_nil)))))) (dss_one (ds_rz e_BadChest tk rfl)) dss_nil))))), rfl⟩)
theorem ok_is_row {f : Addr} {fd : FuncData} (F : Fun K "is_row" "is_row" s_is_row f fd) (b : Binds K fd ["counts", "row"] []) (g : mg "is_row" = some (.ref f)) (C_is_among : Cal P w K mg base 2 "is_among" 3 r_b_is_among) (z_isinstance : mg "isinstance" = none) (z_len : mg "len" = none) (z_tuple : mg "tuple" = none) (z_zip : mg "zip" = none) :
    Cal P w K mg base 3 "is_row" 2 r_c_is_row :=
  fnG F sc_is_row rfl b g F_c_is_row (fun cdv A outer s H E X hX hr tk hp => by
    subst hX
    exact ⟨_, _, (dss_cons (ds_if (dt_w (dw_or (dt_not (dt_val (k_isi K (de_var 1) z_isinstance z_tuple "tuple"))) (dw_or1 (dt_cmp (k_ne K hr.units) (de_callB (k_len K) z_len (da_cons (de_var 1) da_nil)) (de_callB (k_len K) z_len (da_cons (de_var 0) da_nil)))))) (dss_one (ds_ret de_bl)) dss_nil)
    (dss_cons (ds_for hp rfl (di_zip K z_zip (da_cons (de_var 1) (da_cons (de_var 0) da_nil))) (kg_tup K rfl (dgs_cons 2 sc_is_row.nd (dgs_cons 3 sc_is_row.nd dgs_nil))) (dss_one (ds_if (dt_not (dt_val (k_call C_is_among hr (by decide) tk (da_cons (de_var 2) (da_cons de_int (da_cons (de_op o_sub (de_var 3) de_int) da_nil)))))) (dss_one (ds_ret de_bl)) dss_nil)))
    (dss_one (ds_ret de_bl)))), rfl⟩)
theorem ok_need_row {f : Addr} {fd : FuncData} (F : Fun K "need_row" "need_row" s_need_row f fd) (b : Binds K fd ["counts", "row"] []) (g : mg "need_row" = some (.ref f)) (C_is_row : Cal P w K mg base 3 "is_row" 2 r_c_is_row) (C_need_counts : Cal P w K mg base 3 "need_counts" 1 r_c_need_counts) (e_BadRow : Ecls K mg "BadRow") :
    Cal P w K mg base 4 "need_row" 2 r_c_need_row :=
  fnG F sc_need_row rfl b g F_c_need_row (fun cdv A outer s H E X hX hr tk hp => by
    subst hX
    exact ⟨_, _, (dss_cons (ds_expr (k_call C_need_counts hr (by decide) tk (da_cons (de_var 0) da_nil)))
    (dss_one (ds_if (dt_not (dt_val (k_call C_is_row hr (by decide) tk (da_cons (de_var 0) (da_cons (de_var 1) da_nil))))) (dss_one (ds_rz e_BadRow tk rfl)) dss_nil))), rfl⟩)
theorem ok_product_of {f : Addr} {fd : FuncData} (F : Fun K "product_of" "product_of" s_product_of f fd) (b : Binds K fd ["counts"] []) (g : mg "product_of" = some (.ref f))  :
    Cal P w K mg base 1 "product_of" 1 r_c_product_of :=
  fnG F sc_product_of rfl b g F_c_product_of (fun cdv A outer s H E X hX hr tk hp => by
    subst hX
    exact ⟨_, _, (dss_cons (ds_set 1 sc_product_of.nd de_int)
    (dss_cons (ds_for hp rfl (k_seq K (de_var 0)) (dg_name 2 sc_product_of.nd) (dss_one (ds_set 1 sc_product_of.nd (de_op (k_mul K) (de_var 1) (de_var 2)))))
    (dss_one (ds_retV 1)))), rfl⟩)
theorem ok_number_by {f : Addr} {fd : FuncData} (F : Fun K "number_by" "number_by" s_number_by f fd) (b : Binds K fd ["counts", "row"] []) (g : mg "number_by" = some (.ref f)) (z_len : mg "len" = none) (z_range : mg "range" = none) :
    Cal P w K mg base 1 "number_by" 2 r_c_number_by :=
  fnG F sc_number_by rfl b g F_c_number_by (fun cdv A outer s H E X hX hr tk hp => by
    subst hX
    exact ⟨_, _, (dss_cons (ds_set 2 sc_number_by.nd de_int)
    (dss_cons (ds_for hp rfl (di_range3 z_range (da_cons (de_op o_sub (de_callB (k_len K) z_len (da_cons (de_var 0) da_nil)) de_int) (da_cons (de_neg de_int) (da_cons (de_neg de_int) da_nil)))) (dg_name 3 sc_number_by.nd) (dss_cons (ds_set 4 sc_number_by.nd (de_ix (k_ix K) (de_var 1) (de_var 3)))
      (dss_cons (ds_if (dt_cmp (k_eq K hr.units) (de_op o_mod (de_var 2) de_int) de_int) (dss_one (ds_set 4 sc_number_by.nd (de_op o_sub (de_op o_sub (de_ix (k_ix K) (de_var 0) (de_var 3)) de_int) (de_var 4)))) dss_nil)
      (dss_one (ds_set 2 sc_number_by.nd (de_op (k_add K) (de_op (k_mul K) (de_var 2) (de_ix (k_ix K) (de_var 0) (de_var 3))) (de_var 4)))))))
    (dss_one (ds_retV 2)))), rfl⟩)
theorem ok_row_by {f : Addr} {fd : FuncData} (F : Fun K "row_by" "row_by" s_row_by f fd) (b : Binds K fd ["counts", "number"] []) (g : mg "row_by" = some (.ref f)) (z_tuple : mg "tuple" = none) :
    Cal P w K mg base 1 "row_by" 2 r_c_row_by :=
  fnG F sc_row_by rfl b g F_c_row_by (fun cdv A outer s H E X hX hr tk hp => by
    subst hX
    exact ⟨_, _, (dss_cons (ds_setO 2 sc_row_by.nd (de_lst da_nil))
    (dss_cons (ds_for hp rfl (k_seq K (de_var 0)) (dg_name 3 sc_row_by.nd) (dss_cons (ds_set 4 sc_row_by.nd (de_op o_mod (de_var 1) (de_var 3)))
      (dss_cons (ds_set 1 sc_row_by.nd (de_op o_fdiv (de_var 1) (de_var 3)))
      (dss_cons (ds_if (dt_cmp (k_eq K hr.units) (de_op o_mod (de_var 1) de_int) de_int) (dss_one (ds_set 4 sc_row_by.nd (de_op o_sub (de_op o_sub (de_var 3) de_int) (de_var 4)))) dss_nil)
      (dss_one (ds_app 2 (de_var 4)))))))
    (dss_one (ds_retB (de_callTy (k_tuple K) z_tuple (da_cons (de_var 2) da_nil)))))), rfl⟩)
theorem ok_move_between {f : Addr} {fd : FuncData} (F : Fun K "move_between" "move_between" s_move_between f fd) (b : Binds K fd ["one", "other"] []) (g : mg "move_between" = some (.ref f)) (z_len : mg "len" = none) (z_range : mg "range" = none) :
    Cal P w K mg base 1 "move_between" 2 r_c_move_between :=
  fnG F sc_move_between rfl b g F_c_move_between (fun cdv A outer s H E X hX hr tk hp => by
    subst hX
    exact ⟨_, _, (dss_cons (ds_for hp rfl (di_range1 z_range (da_cons (de_callB (k_len K) z_len (da_cons (de_var 0) da_nil)) da_nil)) (dg_name 2 sc_move_between.nd) (dss_one (ds_if (dt_cmp (k_ne K hr.units) (de_ix (k_ix K) (de_var 0) (de_var 2)) (de_ix (k_ix K) (de_var 1) (de_var 2))) (dss_one (ds_ret (de_tup (da_cons (de_var 2) (da_cons (de_op o_sub (de_ix (k_ix K) (de_var 1) (de_var 2)) (de_ix (k_ix K) (de_var 0) (de_var 2))) da_nil))))) dss_nil)))
    (dss_one (ds_ret (de_tup (da_cons de_int (da_cons de_int da_nil)))))), rfl⟩)
theorem ok_moves_by {f : Addr} {fd : FuncData} (F : Fun K "moves_by" "moves_by" s_moves_by f fd) (b : Binds K fd ["counts", "row"] []) (g : mg "moves_by" = some (.ref f)) (C_product_of : Cal P w K mg base 1 "product_of" 1 r_c_product_of) (C_move_between : Cal P w K mg base 1 "move_between" 2 r_c_move_between) (C_row_by : Cal P w K mg base 1 "row_by" 2 r_c_row_by) (C_number_by : Cal P w K mg base 1 "number_by" 2 r_c_number_by) (z_sorted : mg "sorted" = none) :
    Cal P w K mg base 2 "moves_by" 2 r_c_moves_by2 :=
  fnG F sc_moves_by rfl b g F_c_moves_by2 (fun cdv A outer s H E X hX hr tk hp => by
    subst hX
    exact ⟨_, _, (dss_cons (ds_set 2 sc_moves_by.nd (k_call C_number_by hr (by decide) tk (da_cons (de_var 0) (da_cons (de_var 1) da_nil))))
    (dss_cons (ds_setO 3 sc_moves_by.nd (de_lst da_nil))
    (dss_cons (ds_for hp rfl (k_seq K (de_tup (da_cons (de_op o_sub (de_var 2) de_int) (da_cons (de_op (k_add K) (de_var 2) de_int) da_nil)))) (dg_name 4 sc_moves_by.nd) (dss_one (ds_if (dt_chain o_le o_lt de_int (de_var 4) (k_call C_product_of hr (by decide) tk (da_cons (de_var 0) da_nil))) (dss_one (ds_app 3 (k_call C_move_between hr (by decide) tk (da_cons (de_var 1) (da_cons (k_call C_row_by hr (by decide) tk (da_cons (de_var 0) (da_cons (de_var 4) da_nil))) da_nil))))) dss_nil)))
    (dss_one (ds_retB (de_callB (k_sortedP K) z_sorted (da_cons (de_var 3) da_nil))))))), rfl⟩)
theorem ok_moved_by {f : Addr} {fd : FuncData} (F : Fun K "moved_by" "moved_by" s_moved_by f fd) (b : Binds K fd ["row", "move"] []) (g : mg "moved_by" = some (.ref f))  :
    Cal P w K mg base 1 "moved_by" 2 r_c_moved_by :=
  fnG F sc_moved_by rfl b g F_c_moved_by (fun cdv A outer s H E X hX hr tk hp => by
    subst hX
    exact ⟨_, _, (dss_one (ds_ret (de_op (k_add K) (de_op (k_add K) (k_slice K (de_var 0) do_none (do_some (de_ix (k_ix K) (de_var 1) de_int))) (de_tup (da_cons (de_op (k_add K) (de_ix (k_ix K) (de_var 0) (de_ix (k_ix K) (de_var 1) de_int)) (de_ix (k_ix K) (de_var 1) de_int)) da_nil))) (k_slice K (de_var 0) (do_some (de_op (k_add K) (de_ix (k_ix K) (de_var 1) de_int) de_int)) do_none)))), rfl⟩)
theorem ok_is_move {f : Addr} {fd : FuncData} (F : Fun K "is_move" "is_move" s_is_move f fd) (b : Binds K fd ["counts", "row", "move"] []) (g : mg "is_move" = some (.ref f)) (C_moves_by : Cal P w K mg base 2 "moves_by" 2 r_c_moves_by2) (C_is_whole : Cal P w K mg base 1 "is_whole" 1 r_b_is_whole) (z_isinstance : mg "isinstance" = none) (z_len : mg "len" = none) (z_tuple : mg "tuple" = none) :
    Cal P w K mg base 3 "is_move" 3 r_c_is_move2 :=
  fnG F sc_is_move rfl b g F_c_is_move2 (fun cdv A outer s H E X hX hr tk hp => by
    subst hX
    exact ⟨_, _, (dss_cons (ds_if (dt_w (dw_or (dt_not (dt_val (k_isi K (de_var 2) z_isinstance z_tuple "tuple"))) (dw_or (dt_cmp (k_ne K hr.units) (de_callB (k_len K) z_len (da_cons (de_var 2) da_nil)) de_int) (dw_or (dt_not (dt_val (k_call C_is_whole hr (by decide) tk (da_cons (de_ix (k_ix K) (de_var 2) de_int) da_nil)))) (dw_or1 (dt_not (dt_val (k_call C_is_whole hr (by decide) tk (da_cons (de_ix (k_ix K) (de_var 2) de_int) da_nil))))))))) (dss_one (ds_ret de_bl)) dss_nil)
    (dss_one (ds_ret (de_cmp (k_in K hr.units) (de_var 2) (k_call C_moves_by hr (by decide) tk (da_cons (de_var 0) (da_cons (de_var 1) da_nil))))))), rfl⟩)
theorem ok_moves_between {f : Addr} {fd : FuncData} (F : Fun K "moves_between" "moves_between" s_moves_between f fd) (b : Binds K fd ["counts", "one", "other", "most"] []) (g : mg "moves_between" = some (.ref f)) (C_move_between : Cal P w K mg base 1 "move_between" 2 r_c_move_between) (C_row_by : Cal P w K mg base 1 "row_by" 2 r_c_row_by) (C_number_by : Cal P w K mg base 1 "number_by" 2 r_c_number_by) (z_len : mg "len" = none) :
    Cal P w K mg base 2 "moves_between" 4 r_c_moves_between :=
  fnG F sc_moves_between rfl b g F_c_moves_between (fun cdv A outer s H E X hX hr tk hp => by
    subst hX
    exact ⟨_, _, (dss_cons (ds_set 4 sc_moves_between.nd (k_call C_number_by hr (by decide) tk (da_cons (de_var 0) (da_cons (de_var 1) da_nil))))
    (dss_cons (ds_set 5 sc_moves_between.nd (k_call C_number_by hr (by decide) tk (da_cons (de_var 0) (da_cons (de_var 2) da_nil))))
    (dss_cons (ds_setO 6 sc_moves_between.nd (de_lst da_nil))
    (dss_cons (ds_while hp (dt_w (dw_and (dt_cmp (k_ne K hr.units) (de_var 4) (de_var 5)) (dw_and1 (dt_cmp o_lt (de_callB (k_len K) z_len (da_cons (de_var 6) da_nil)) (de_var 3))))) (dss_cons (ds_set 4 sc_moves_between.nd (de_op (k_add K) (de_var 4) (de_ifExp (dt_cmp o_lt (de_var 4) (de_var 5)) de_int (de_neg de_int))))
      (dss_cons (ds_set 7 sc_moves_between.nd (k_call C_row_by hr (by decide) tk (da_cons (de_var 0) (da_cons (de_var 4) da_nil))))
      (dss_cons (ds_app 6 (k_call C_move_between hr (by decide) tk (da_cons (de_var 1) (da_cons (de_var 7) da_nil))))
      (dss_one (ds_set 1 sc_moves_between.nd (de_var 7)))))))
    (dss_one (ds_retV 6)))))), rfl⟩)
theorem ok_many {f : Addr} {fd : FuncData} (F : Fun K "many" "many" s_many f fd) (b : Binds K fd ["counts"] []) (g : mg "many" = some (.ref f)) (C_product_of : Cal P w K mg base 1 "product_of" 1 r_c_product_of) (C_need_counts : Cal P w K mg base 3 "need_counts" 1 r_c_need_counts) :
    Cal P w K mg base 4 "many" 1 r_c_many :=
  fnG F sc_many rfl b g F_c_many (fun cdv A outer s H E X hX hr tk hp => by
    subst hX
    exact ⟨_, _, (dss_cons (ds_expr (k_call C_need_counts hr (by decide) tk (da_cons (de_var 0) da_nil)))
    (dss_one (ds_ret (k_call C_product_of hr (by decide) tk (da_cons (de_var 0) da_nil))))), rfl⟩)
theorem ok_number_in {f : Addr} {fd : FuncData} (F : Fun K "number_in" "number_in" s_number_in f fd) (b : Binds K fd ["counts", "row"] []) (g : mg "number_in" = some (.ref f)) (C_number_by : Cal P w K mg base 1 "number_by" 2 r_c_number_by) (C_need_row : Cal P w K mg base 4 "need_row" 2 r_c_need_row) :
    Cal P w K mg base 5 "number_in" 2 r_c_number_in :=
  fnG F sc_number_in rfl b g F_c_number_in (fun cdv A outer s H E X hX hr tk hp => by
    subst hX
    exact ⟨_, _, (dss_cons (ds_expr (k_call C_need_row hr (by decide) tk (da_cons (de_var 0) (da_cons (de_var 1) da_nil))))
    (dss_one (ds_ret (k_call C_number_by hr (by decide) tk (da_cons (de_var 0) (da_cons (de_var 1) da_nil)))))), rfl⟩)
theorem ok_row_at {f : Addr} {fd : FuncData} (F : Fun K "row_at" "row_at" s_row_at f fd) (b : Binds K fd ["counts", "number"] []) (g : mg "row_at" = some (.ref f)) (C_row_by : Cal P w K mg base 1 "row_by" 2 r_c_row_by) (C_is_among : Cal P w K mg base 2 "is_among" 3 r_b_is_among) (C_product_of : Cal P w K mg base 1 "product_of" 1 r_c_product_of) (C_need_counts : Cal P w K mg base 3 "need_counts" 1 r_c_need_counts) (e_BadNumber : Ecls K mg "BadNumber") :
    Cal P w K mg base 4 "row_at" 2 r_c_row_at :=
  fnG F sc_row_at rfl b g F_c_row_at (fun cdv A outer s H E X hX hr tk hp => by
    subst hX
    exact ⟨_, _, (dss_cons (ds_expr (k_call C_need_counts hr (by decide) tk (da_cons (de_var 0) da_nil)))
    (dss_cons (ds_if (dt_not (dt_val (k_call C_is_among hr (by decide) tk (da_cons (de_var 1) (da_cons de_int (da_cons (de_op o_sub (k_call C_product_of hr (by decide) tk (da_cons (de_var 0) da_nil)) de_int) da_nil)))))) (dss_one (ds_rz e_BadNumber tk rfl)) dss_nil)
    (dss_one (ds_ret (k_call C_row_by hr (by decide) tk (da_cons (de_var 0) (da_cons (de_var 1) da_nil))))))), rfl⟩)
theorem ok_moves {f : Addr} {fd : FuncData} (F : Fun K "moves" "moves" s_moves f fd) (b : Binds K fd ["counts", "row"] []) (g : mg "moves" = some (.ref f)) (C_moves_by : Cal P w K mg base 2 "moves_by" 2 r_c_moves_by2) (C_need_row : Cal P w K mg base 4 "need_row" 2 r_c_need_row) :
    Cal P w K mg base 5 "moves" 2 r_c_moves2 :=
  fnG F sc_moves rfl b g F_c_moves2 (fun cdv A outer s H E X hX hr tk hp => by
    subst hX
    exact ⟨_, _, (dss_cons (ds_expr (k_call C_need_row hr (by decide) tk (da_cons (de_var 0) (da_cons (de_var 1) da_nil))))
    (dss_one (ds_ret (k_call C_moves_by hr (by decide) tk (da_cons (de_var 0) (da_cons (de_var 1) da_nil)))))), rfl⟩)
theorem ok_moved {f : Addr} {fd : FuncData} (F : Fun K "moved" "moved" s_moved f fd) (b : Binds K fd ["counts", "row", "move"] []) (g : mg "moved" = some (.ref f)) (C_moved_by : Cal P w K mg base 1 "moved_by" 2 r_c_moved_by) (C_is_move : Cal P w K mg base 3 "is_move" 3 r_c_is_move2) (C_need_row : Cal P w K mg base 4 "need_row" 2 r_c_need_row) (e_NoMove : Ecls K mg "NoMove") :
    Cal P w K mg base 5 "moved" 3 r_c_moved2 :=
  fnG F sc_moved rfl b g F_c_moved2 (fun cdv A outer s H E X hX hr tk hp => by
    subst hX
    exact ⟨_, _, (dss_cons (ds_expr (k_call C_need_row hr (by decide) tk (da_cons (de_var 0) (da_cons (de_var 1) da_nil))))
    (dss_cons (ds_if (dt_not (dt_val (k_call C_is_move hr (by decide) tk (da_cons (de_var 0) (da_cons (de_var 1) (da_cons (de_var 2) da_nil)))))) (dss_one (ds_rz e_NoMove tk rfl)) dss_nil)
    (dss_one (ds_ret (k_call C_moved_by hr (by decide) tk (da_cons (de_var 1) (da_cons (de_var 2) da_nil))))))), rfl⟩)
theorem ok_rows {f : Addr} {fd : FuncData} (F : Fun K "rows" "rows" s_rows f fd) (b : Binds K fd ["counts"] []) (g : mg "rows" = some (.ref f)) (C_product_of : Cal P w K mg base 1 "product_of" 1 r_c_product_of) (C_row_by : Cal P w K mg base 1 "row_by" 2 r_c_row_by) (C_need_counts : Cal P w K mg base 3 "need_counts" 1 r_c_need_counts) (z_range : mg "range" = none) {t_MOST_ROWS : Tok} (g_MOST_ROWS : mg "MOST_ROWS" = some (.int 500 t_MOST_ROWS)) (e_TooMany : Ecls K mg "TooMany") :
    Cal P w K mg base 4 "rows" 1 r_c_rows :=
  fnG F sc_rows rfl b g F_c_rows (fun cdv A outer s H E X hX hr tk hp => by
    subst hX
    exact ⟨_, _, (dss_cons (ds_expr (k_call C_need_counts hr (by decide) tk (da_cons (de_var 0) da_nil)))
    (dss_cons (ds_if (dt_cmp o_gt (k_call C_product_of hr (by decide) tk (da_cons (de_var 0) da_nil)) (de_glob (v := .int 500) (d := .int 500) g_MOST_ROWS ⟨_, rfl⟩ (fun _ => rfl))) (dss_one (ds_rz e_TooMany tk rfl)) dss_nil)
    (dss_one (ds_ret (de_lc (own := [("number", 1)]) rfl sc_rows.nd (di_range1 z_range (da_cons (k_call C_product_of hr (by decide) tk (da_cons (de_var 0) da_nil)) da_nil)) (blkOk_by (own := [("number", 1)]) (N := ["counts", "number"]) (sc := defScope s_rows) (by decide +kernel)) (fun _ _ _ _ _ => dgw_name 1 sc_rows.nd) (fun _ _ _ _ _ => dts_nil) (fun _ _ _ _ _ => (k_call C_row_by hr (by decide) takesN (da_cons (de_var 0) (da_cons (de_var 1) da_nil))))))))), rfl⟩)
theorem ok_way_in {f : Addr} {fd : FuncData} (F : Fun K "way_in" "way_in" s_way_in f fd) (b : Binds K fd ["counts", "one", "other", "most"] []) (g : mg "way_in" = some (.ref f)) (C_moves_between : Cal P w K mg base 2 "moves_between" 4 r_c_moves_between) (C_need_most : Cal P w K mg base 3 "need_most" 1 r_b_need_most) (C_need_row : Cal P w K mg base 4 "need_row" 2 r_c_need_row) :
    Cal P w K mg base 5 "way_in" 4 r_c_way_in :=
  fnG F sc_way_in rfl b g F_c_way_in (fun cdv A outer s H E X hX hr tk hp => by
    subst hX
    exact ⟨_, _, (dss_cons (ds_expr (k_call C_need_row hr (by decide) tk (da_cons (de_var 0) (da_cons (de_var 1) da_nil))))
    (dss_cons (ds_expr (k_call C_need_row hr (by decide) tk (da_cons (de_var 0) (da_cons (de_var 2) da_nil))))
    (dss_cons (ds_expr (k_call C_need_most hr (by decide) tk (da_cons (de_var 3) da_nil)))
    (dss_one (ds_ret (k_call C_moves_between hr (by decide) tk (da_cons (de_var 0) (da_cons (de_var 1) (da_cons (de_var 2) (da_cons (de_var 3) da_nil)))))))))), rfl⟩)
theorem ok_shown_row {f : Addr} {fd : FuncData} (F : Fun K "shown_row" "shown_row" s_shown_row f fd) (b : Binds K fd ["counts", "row"] []) (g : mg "shown_row" = some (.ref f)) (C_need_row : Cal P w K mg base 4 "need_row" 2 r_c_need_row) (z_str : mg "str" = none) :
    Cal P w K mg base 5 "shown_row" 2 r_n_shown_row2 :=
  fnG F sc_shown_row rfl b g F_n_shown_row2 (fun cdv A outer s H E X hX hr tk hp => by
    subst hX
    exact ⟨_, _, (dss_cons (ds_expr (k_call C_need_row hr (by decide) tk (da_cons (de_var 0) (da_cons (de_var 1) da_nil))))
    (dss_one (ds_ret (de_join de_str (de_lc (own := [("position", 2)]) rfl sc_shown_row.nd (k_seq K (de_var 1)) (blkOk_by (own := [("position", 2)]) (N := ["counts", "row", "position"]) (sc := defScope s_shown_row) (by decide +kernel)) (fun _ _ _ _ _ => dgw_name 2 sc_shown_row.nd) (fun _ _ _ _ _ => dts_nil) (fun _ _ _ _ _ => (de_callTy c_str z_str (da_cons (de_var 2) da_nil)))))))), rfl⟩)
theorem ok_read_row {f : Addr} {fd : FuncData} (F : Fun K "read_row" "read_row" s_read_row f fd) (b : Binds K fd ["counts", "text"] []) (g : mg "read_row" = some (.ref f)) (C_need_counts : Cal P w K mg base 3 "need_counts" 1 r_c_need_counts) (z_int : mg "int" = none) (z_isinstance : mg "isinstance" = none) (z_len : mg "len" = none) (z_str : mg "str" = none) (z_tuple : mg "tuple" = none) (z_zip : mg "zip" = none) {t_FIGURES : Tok} (g_FIGURES : mg "FIGURES" = some (.str (Str.ofString "012345678") t_FIGURES)) (e_NoNote : Ecls K mg "NoNote") :
    Cal P w K mg base 4 "read_row" 2 r_n_read_row2 :=
  fnG F sc_read_row rfl b g F_n_read_row2 (fun cdv A outer s H E X hX hr tk hp => by
    subst hX
    exact ⟨_, _, (dss_cons (ds_expr (k_call C_need_counts hr (by decide) tk (da_cons (de_var 0) da_nil)))
    (dss_cons (ds_if (dt_w (dw_or (dt_not (dt_val (k_isi K (de_var 1) z_isinstance z_str "str"))) (dw_or1 (dt_cmp (k_ne K hr.units) (de_callB (k_len K) z_len (da_cons (de_var 1) da_nil)) (de_callB (k_len K) z_len (da_cons (de_var 0) da_nil)))))) (dss_one (ds_rz e_NoNote tk rfl)) dss_nil)
    (dss_cons (ds_setO 2 sc_read_row.nd (de_lst da_nil))
    (dss_cons (ds_for hp rfl (di_zipS K z_zip (da_cons (de_var 1) (da_cons (de_var 0) da_nil))) (kg_tup K rfl (dgs_cons 3 sc_read_row.nd (dgs_cons 4 sc_read_row.nd dgs_nil))) (dss_cons (ds_if (dt_cmp (k_ni K hr.units) (de_var 3) (k_slice K (de_glob (v := .str (Str.ofString "012345678")) (d := .str (Str.ofString "012345678")) g_FIGURES ⟨_, rfl⟩ (fun _ => rfl)) do_none (do_some (de_var 4)))) (dss_one (ds_rz e_NoNote tk rfl)) dss_nil)
      (dss_one (ds_app 2 (de_callTy c_int z_int (da_cons (de_var 3) da_nil))))))
    (dss_one (ds_retB (de_callTy (k_tuple K) z_tuple (da_cons (de_var 2) da_nil)))))))), rfl⟩)
theorem ok_Rack_init {f : Addr} {fd : FuncData} (F : Fun K "__init__" "Rack.__init__" s_Rack_init f fd) (b : Binds K fd ["self", "chests"] []) (rc : RkC K RC) (mk : Mk K RC f) (g : mg "Rack" = some (.ref RC)) (C_need_counts : Cal P w K mg base 3 "need_counts" 1 r_c_need_counts) (z_isinstance : mg "isinstance" = none) (z_len : mg "len" = none) (z_list : mg "list" = none) {t_MOST_CHESTS : Tok} (g_MOST_CHESTS : mg "MOST_CHESTS" = some (.int 5 t_MOST_CHESTS)) (e_BadChest : Ecls K mg "BadChest") :
    CalI P w K mg base 4 RC r_k_Rinit :=
  ⟨g, ⟨f, fd, _, mk, fnI F sc_Rack_init rfl (by decide) rc F_k_Rinit1 F_k_Rinit2 f_k_Rinit1 f_k_Rinit2 r_k_Rinit init_ind (fun cdv A outer s H E X hX hr tk hp => by
    subst hX
    exact ⟨_, _, _, _, _, (dinit (ds_if (dt_w (dw_or (dt_not (dt_val (k_isi K (de_var 1) z_isinstance z_list "list"))) (dw_or1 (dt_not (dt_chain o_le o_le de_int (de_callB (k_len K) z_len (da_cons (de_var 1) da_nil)) (de_glob (v := .int 5) (d := .int 5) g_MOST_CHESTS ⟨_, rfl⟩ (fun _ => rfl))))))) (dss_one (ds_rz e_BadChest tk rfl)) dss_nil)
    (ds_for hp rfl (k_seq K (de_var 1)) (dg_name 2 sc_Rack_init.nd) (dss_one (ds_expr (k_call C_need_counts hr (by decide) tk (da_cons (de_var 2) da_nil)))))
    (de_lc (own := [("counts", 2)]) rfl sc_Rack_init.nd (k_seq K (de_var 1)) (blkOk_by (own := [("counts", 2)]) (N := ["self", "chests", "counts"]) (sc := defScope s_Rack_init) (by decide +kernel)) (fun _ _ _ _ _ => dgw_name 2 sc_Rack_init.nd) (fun _ _ _ _ _ => dts_nil) (fun _ _ _ _ _ => (de_callTy (k_list K) z_list (da_cons (de_var 2) da_nil))))
    (de_lc (own := [("counts", 2)]) rfl sc_Rack_init.nd (k_seq K (de_var 1)) (blkOk_by (own := [("counts", 2)]) (N := ["self", "chests", "counts"]) (sc := defScope s_Rack_init) (by decide +kernel)) (fun _ _ _ _ _ => dgw_name 2 sc_Rack_init.nd) (fun _ _ _ _ _ => dts_nil) (fun _ _ _ _ _ => (de_op (k_mul K) (de_tup (da_cons de_int da_nil)) (de_callB (k_len K) z_len (da_cons (de_var 2) da_nil))))) (de_lst da_nil))⟩), b⟩, init_len⟩
theorem ok_Rack_rows {f : Addr} {fd : FuncData} (F : Fun K "rows" "Rack.rows" s_Rack_rows f fd) (b : Binds K fd ["self"] []) (hm : Meth K RC "rows" f) (nm : PySem.W.nsIn K mainGlobals "Rack" = some (some (.ref RC))) (cl : Cls K RC) (z_list : mg "list" = none) :
    CalM P w K mg base 1 RC "rows" 1 r_k_Rrows :=
  fnM F sc_Rack_rows rfl F_k_Rrows (fun cdv A outer s H E X hX hr tk hp => by
    subst hX
    exact ⟨_, _, (dss_one (ds_ret (de_callTy (k_list K) z_list (da_cons (de_fld 1 (de_var 0)) da_nil)))), rfl⟩) b hm nm cl
theorem ok_Rack_deeds {f : Addr} {fd : FuncData} (F : Fun K "deeds" "Rack.deeds" s_Rack_deeds f fd) (b : Binds K fd ["self"] []) (hm : Meth K RC "deeds" f) (nm : PySem.W.nsIn K mainGlobals "Rack" = some (some (.ref RC))) (cl : Cls K RC) (z_list : mg "list" = none) :
    CalM P w K mg base 1 RC "deeds" 1 r_k_Rdeeds :=
  fnM F sc_Rack_deeds rfl F_k_Rdeeds (fun cdv A outer s H E X hX hr tk hp => by
    subst hX
    exact ⟨_, _, (dss_one (ds_ret (de_callTy (k_list K) z_list (da_cons (de_fld 2 (de_var 0)) da_nil)))), rfl⟩) b hm nm cl
theorem ok_Rack_way_to {f : Addr} {fd : FuncData} (F : Fun K "way_to" "Rack.way_to" s_Rack_way_to f fd) (b : Binds K fd ["self", "rows", "most"] []) (hm : Meth K RC "way_to" f) (nm : PySem.W.nsIn K mainGlobals "Rack" = some (some (.ref RC))) (cl : Cls K RC) (C_is_row : Cal P w K mg base 3 "is_row" 2 r_c_is_row) (C_need_most : Cal P w K mg base 3 "need_most" 1 r_b_need_most) (z_isinstance : mg "isinstance" = none) (z_len : mg "len" = none) (z_list : mg "list" = none) (z_zip : mg "zip" = none) (e_BadRow : Ecls K mg "BadRow") :
    CalM P w K mg base 4 RC "way_to" 3 r_k_Rway_to3 :=
  fnM F sc_Rack_way_to rfl F_k_Rway_to3 (fun cdv A outer s H E X hX hr tk hp => by
    subst hX
    exact ⟨_, _, (dss_cons (ds_if (dt_w (dw_or (dt_not (dt_val (k_isi K (de_var 1) z_isinstance z_list "list"))) (dw_or1 (dt_cmp (k_ne K hr.units) (de_callB (k_len K) z_len (da_cons (de_var 1) da_nil)) (de_callB (k_len K) z_len (da_cons (de_fld 0 (de_var 0)) da_nil)))))) (dss_one (ds_rz e_BadRow tk rfl)) dss_nil)
    (dss_cons (ds_for hp rfl (di_zip K z_zip (da_cons (de_fld 0 (de_var 0)) (da_cons (de_var 1) da_nil))) (kg_tup K rfl (dgs_cons 3 sc_Rack_way_to.nd (dgs_cons 4 sc_Rack_way_to.nd dgs_nil))) (dss_one (ds_if (dt_not (dt_val (k_call C_is_row hr (by decide) tk (da_cons (de_var 3) (da_cons (de_var 4) da_nil))))) (dss_one (ds_rz e_BadRow tk rfl)) dss_nil)))
    (dss_cons (ds_expr (k_call C_need_most hr (by decide) tk (da_cons (de_var 2) da_nil)))
    dss_never))), rfl⟩) b hm nm cl
theorem ok__law_cell_at {f : Addr} {fd : FuncData} (F : Fun K "_law_cell_at" "_law_cell_at" s__law_cell_at f fd) (b : Binds K fd ["_law_script", "_law_k"] []) (g : mg "_law_cell_at" = some (.ref f)) (z_len : mg "len" = none) :
    Cal P w K mg base 1 "_law_cell_at" 2 r_l_cell_at :=
  fnG F sc__law_cell_at rfl b g F_l_cell_at (fun cdv A outer s H E X hX hr tk hp => by
    subst hX
    exact ⟨_, _, (dss_cons (ds_if (dt_cmp o_lt (de_var 1) (de_callB (k_len K) z_len (da_cons (de_var 0) da_nil))) (dss_one (ds_ret (de_ix (k_ix K) (de_var 0) (de_var 1)))) dss_nil)
    (dss_one (ds_ret de_int))), rfl⟩)
theorem ok__law_mixed {f : Addr} {fd : FuncData} (F : Fun K "_law_mixed" "_law_mixed" s__law_mixed f fd) (b : Binds K fd ["_law_script", "_law_k"] []) (g : mg "_law_mixed" = some (.ref f)) (C__law_cell_at : Cal P w K mg base 1 "_law_cell_at" 2 r_l_cell_at) :
    Cal P w K mg base 2 "_law_mixed" 2 r_l_mixed :=
  fnG F sc__law_mixed rfl b g F_l_mixed (fun cdv A outer s H E X hX hr tk hp => by
    subst hX
    exact ⟨_, _, (dss_one (ds_ret (de_op o_mod (de_op (k_mul K) (de_op (k_add K) (de_op (k_add K) (k_call C__law_cell_at hr (by decide) tk (da_cons (de_var 0) (da_cons (de_var 1) da_nil))) (de_op (k_mul K) de_int (de_var 1))) de_int) de_int) de_int))), rfl⟩)
theorem ok__law_counts {f : Addr} {fd : FuncData} (F : Fun K "_law_counts" "_law_counts" s__law_counts f fd) (b : Binds K fd ["_law_script", "_law_k", "_law_most"] []) (g : mg "_law_counts" = some (.ref f)) (C__law_mixed : Cal P w K mg base 2 "_law_mixed" 2 r_l_mixed) (z_range : mg "range" = none) :
    Cal P w K mg base 3 "_law_counts" 3 r_l_counts :=
  fnG F sc__law_counts rfl b g F_l_counts (fun cdv A outer s H E X hX hr tk hp => by
    subst hX
    exact ⟨_, _, (dss_cons (ds_set 3 sc__law_counts.nd (de_op (k_add K) de_int (de_op o_mod (k_call C__law_mixed hr (by decide) tk (da_cons (de_var 0) (da_cons (de_var 1) da_nil))) (de_var 2))))
    (dss_cons (ds_set 4 sc__law_counts.nd (de_op o_mod (de_op o_fdiv (k_call C__law_mixed hr (by decide) tk (da_cons (de_var 0) (da_cons (de_var 1) da_nil))) (de_var 2)) de_int))
    (dss_cons (ds_setO 5 sc__law_counts.nd (de_lst da_nil))
    (dss_cons (ds_for hp rfl (di_range1 z_range (da_cons (de_var 3) da_nil)) (dg_name 6 sc__law_counts.nd) (dss_cons (ds_set 7 sc__law_counts.nd (de_op o_fdiv (k_call C__law_mixed hr (by decide) tk (da_cons (de_var 0) (da_cons (de_op (k_add K) (de_op (k_add K) (de_var 1) de_int) (de_op o_mod (de_var 6) de_int)) da_nil))) (de_op (k_add K) de_int (de_op (k_mul K) de_int (de_var 6)))))
      (dss_one (ds_app 5 (de_ix (k_ix K) (de_lst (da_cons (de_op (k_add K) de_int (de_op o_mod (de_var 7) de_int)) (da_cons (de_op (k_add K) de_int (de_op o_mod (de_var 7) de_int)) (da_cons (de_op (k_add K) de_int (de_op o_mod (de_op o_fdiv (de_var 7) de_int) de_int)) da_nil)))) (de_var 4))))))
    (dss_one (ds_retV 5)))))), rfl⟩)
theorem ok__law_product {f : Addr} {fd : FuncData} (F : Fun K "_law_product" "_law_product" s__law_product f fd) (b : Binds K fd ["_law_counts_here"] []) (g : mg "_law_product" = some (.ref f))  :
    Cal P w K mg base 1 "_law_product" 1 r_l_product :=
  fnG F sc__law_product rfl b g F_l_product (fun cdv A outer s H E X hX hr tk hp => by
    subst hX
    exact ⟨_, _, (dss_cons (ds_set 1 sc__law_product.nd de_int)
    (dss_cons (ds_for hp rfl (k_seq K (de_var 0)) (dg_name 2 sc__law_product.nd) (dss_one (ds_set 1 sc__law_product.nd (de_op (k_mul K) (de_var 1) (de_var 2)))))
    (dss_one (ds_retV 1)))), rfl⟩)
theorem ok__law_row {f : Addr} {fd : FuncData} (F : Fun K "_law_row" "_law_row" s__law_row f fd) (b : Binds K fd ["_law_script", "_law_k", "_law_counts_here"] []) (g : mg "_law_row" = some (.ref f)) (C__law_mixed : Cal P w K mg base 2 "_law_mixed" 2 r_l_mixed) (z_enumerate : mg "enumerate" = none) (z_len : mg "len" = none) (z_range : mg "range" = none) (z_tuple : mg "tuple" = none) :
    Cal P w K mg base 3 "_law_row" 3 r_l_row :=
  fnG F sc__law_row rfl b g F_l_row (fun cdv A outer s H E X hX hr tk hp => by
    subst hX
    exact ⟨_, _, (dss_cons (ds_setO 3 sc__law_row.nd (de_lst da_nil))
    (dss_cons (ds_for hp rfl (di_enum K z_enumerate (da_cons (de_var 2) da_nil)) (kg_tup K rfl (dgs_cons 4 sc__law_row.nd (dgs_cons 5 sc__law_row.nd dgs_nil))) (dss_cons (ds_set 6 sc__law_row.nd (de_op o_fdiv (k_call C__law_mixed hr (by decide) tk (da_cons (de_var 0) (da_cons (de_op (k_add K) (de_var 1) (de_op o_mod (de_var 4) de_int)) da_nil))) (de_op (k_add K) de_int (de_op (k_mul K) de_int (de_var 4)))))
      (dss_one (ds_app 3 (de_op o_mod (de_var 6) (de_var 5))))))
    (dss_cons (ds_if (dt_cmp (k_eq K hr.units) (de_op o_mod (k_call C__law_mixed hr (by decide) tk (da_cons (de_var 0) (da_cons (de_op (k_add K) (de_var 1) de_int) da_nil))) de_int) de_int) (dss_one (ds_for hp rfl (di_range1 z_range (da_cons (de_op o_mod (de_op o_fdiv (k_call C__law_mixed hr (by decide) tk (da_cons (de_var 0) (da_cons (de_op (k_add K) (de_var 1) de_int) da_nil))) de_int) (de_callB (k_len K) z_len (da_cons (de_var 2) da_nil))) da_nil)) (dg_name 4 sc__law_row.nd) (dss_one (ds_put 3 (de_op (k_mul K) (de_op o_sub (de_ix (k_ix K) (de_var 2) (de_var 4)) de_int) (de_op o_mod (de_op o_fdiv (k_call C__law_mixed hr (by decide) tk (da_cons (de_var 0) (da_cons (de_op (k_add K) (de_var 1) de_int) da_nil))) (de_op (k_add K) de_int (de_var 4))) de_int)) (de_var 4))))) dss_nil)
    (dss_one (ds_retB (de_callTy (k_tuple K) z_tuple (da_cons (de_var 3) da_nil))))))), rfl⟩)
theorem ok__law_word {f : Addr} {fd : FuncData} (F : Fun K "_law_word" "_law_word" s__law_word f fd) (b : Binds K fd ["_law_e"] []) (g : mg "_law_word" = some (.ref f)) (z_ValueError : mg "ValueError" = none) (z_int : mg "int" = none) (z_isinstance : mg "isinstance" = none) (z_zip : mg "zip" = none) (hc : ∀ c ∈ (["BadChest", "BadRow", "BadNumber"] : List Str), Wcls K mg B c) :
    CalW P w K mg base 1 "_law_word" B ["BadChest", "BadRow", "BadNumber"] word :=
  calW_mk F sc__law_word b g hc F_l_word (fun a c hL => word_at a c (hc c hL).mem) (fun c cdv A up s H E p X hX hr pin => by
    subst hX
    exact ⟨_, _, (dss_cons (ds_set 1 sc__law_word.nd (de_lst (da_cons (de_isX 0 pin z_isinstance (by decide +kernel)) (da_cons (de_isX 0 pin z_isinstance (by decide +kernel)) (da_cons (de_isX 0 pin z_isinstance (by decide +kernel)) (da_cons (de_isX 0 pin z_isinstance (by decide +kernel)) da_nil))))))
    (dss_cons (ds_set 1 sc__law_word.nd (de_op (k_add K) (de_var 1) (de_lst (da_cons (de_isX 0 pin z_isinstance (by decide +kernel)) (da_cons (de_isX 0 pin z_isinstance (by decide +kernel)) (da_cons (de_isX 0 pin z_isinstance (by decide +kernel)) (da_cons (de_isX 0 pin z_isinstance (by decide +kernel)) da_nil)))))))
    (dss_cons (ds_set 2 sc__law_word.nd (de_lst (da_cons de_str (da_cons de_str (da_cons de_str (da_cons de_str (da_cons de_str (da_cons de_str (da_cons de_str (da_cons de_str da_nil))))))))))
    (dss_one (ds_ret (de_op (k_add K) (de_op (k_mul K) (de_lst (da_cons de_str da_nil)) (de_callTy c_int z_int (da_cons (de_not (de_isV 0 pin z_isinstance z_ValueError)) da_nil))) (de_lcT (own := [("_law_name", 3), ("_law_fits", 4)]) pin.hotp sc__law_word.nd (dix_zip z_zip (da_cons (de_var 2) (da_cons (de_var 1) da_nil))) (blkOk_by (own := [("_law_name", 3), ("_law_fits", 4)]) (N := ["_law_e", "_law_kinds", "_law_names", "_law_name", "_law_fits"]) (sc := defScope s__law_word) (by decide +kernel)) (fun _ _ _ _ _ => (dgs_cons 3 sc__law_word.nd (dgs_cons 4 sc__law_word.nd dgs_nil))) (fun _ _ _ _ _ => dts_one (dt_val (de_var 4))) (fun _ _ _ _ _ => (de_var 3))))))))), rfl⟩)
theorem ok__law_spoilt_counts {f : Addr} {fd : FuncData} (F : Fun K "_law_spoilt_counts" "_law_spoilt_counts" s__law_spoilt_counts f fd) (b : Binds K fd ["_law_counts_here", "_law_cell"] []) (g : mg "_law_spoilt_counts" = some (.ref f)) (z_len : mg "len" = none) (z_tuple : mg "tuple" = none) :
    Cal P w K mg base 1 "_law_spoilt_counts" 2 r_l_spoilt_counts :=
  fnG F sc__law_spoilt_counts rfl b g F_l_spoilt_counts (fun cdv A outer s H E X hX hr tk hp => by
    subst hX
    exact ⟨_, _, (dss_cons (ds_set 2 sc__law_spoilt_counts.nd (de_op o_mod (de_op o_fdiv (de_var 1) de_int) (de_callB (k_len K) z_len (da_cons (de_var 0) da_nil))))
    (dss_cons (ds_set 3 sc__law_spoilt_counts.nd (de_lst (da_cons de_int (da_cons de_int (da_cons (de_neg de_int) (da_cons de_bl (da_cons de_str (da_cons de_non (da_cons (de_lst (da_cons de_int da_nil)) da_nil)))))))))
    (dss_cons (ds_set 4 sc__law_spoilt_counts.nd (de_lst (da_cons (de_callTy (k_tuple K) z_tuple (da_cons (de_var 0) da_nil)) (da_cons de_str (da_cons de_non (da_cons de_int (da_cons de_dct0 (da_cons (de_lst da_nil) (da_cons (de_op (k_add K) (de_var 0) (de_op (k_mul K) (de_lst (da_cons de_int da_nil)) (de_op o_sub de_int (de_callB (k_len K) z_len (da_cons (de_var 0) da_nil))))) da_nil)))))))))
    (dss_cons (ds_if (dt_cmp o_lt (de_op o_mod (de_var 1) de_int) de_int) (dss_one (ds_ret (de_ix (k_ix K) (de_var 4) (de_op o_mod (de_var 1) de_int)))) dss_nil)
    (dss_one (ds_ret (de_op (k_add K) (de_op (k_add K) (k_slice K (de_var 0) do_none (do_some (de_var 2))) (de_lst (da_cons (de_ix (k_ix K) (de_var 3) (de_op o_sub (de_op o_mod (de_var 1) de_int) de_int)) da_nil))) (k_slice K (de_var 0) (do_some (de_op (k_add K) (de_var 2) de_int)) do_none)))))))), rfl⟩)
theorem ok__law_spoilt_row {f : Addr} {fd : FuncData} (F : Fun K "_law_spoilt_row" "_law_spoilt_row" s__law_spoilt_row f fd) (b : Binds K fd ["_law_counts_here", "_law_row_here", "_law_cell"] []) (g : mg "_law_spoilt_row" = some (.ref f)) (z_len : mg "len" = none) (z_list : mg "list" = none) :
    Cal P w K mg base 1 "_law_spoilt_row" 3 r_l_spoilt_row :=
  fnG F sc__law_spoilt_row rfl b g F_l_spoilt_row (fun cdv A outer s H E X hX hr tk hp => by
    subst hX
    exact ⟨_, _, (dss_cons (ds_set 3 sc__law_spoilt_row.nd (de_op o_mod (de_op o_fdiv (de_var 2) de_int) (de_callB (k_len K) z_len (da_cons (de_var 1) da_nil))))
    (dss_cons (ds_set 4 sc__law_spoilt_row.nd (de_lst (da_cons (de_ix (k_ix K) (de_var 0) (de_var 3)) (da_cons (de_neg de_int) (da_cons de_bl (da_cons de_bl (da_cons de_str (da_cons de_non da_nil))))))))
    (dss_cons (ds_set 5 sc__law_spoilt_row.nd (de_lst (da_cons (de_callTy (k_list K) z_list (da_cons (de_var 1) da_nil)) (da_cons (de_op (k_add K) (de_var 1) (de_tup (da_cons de_int da_nil))) (da_cons (k_slice K (de_var 1) do_none (do_some (de_neg de_int))) (da_cons de_str (da_cons de_non da_nil)))))))
    (dss_cons (ds_if (dt_cmp o_lt (de_op o_mod (de_var 2) de_int) de_int) (dss_one (ds_ret (de_ix (k_ix K) (de_var 5) (de_op o_mod (de_var 2) de_int)))) dss_nil)
    (dss_one (ds_ret (de_op (k_add K) (de_op (k_add K) (k_slice K (de_var 1) do_none (do_some (de_var 3))) (de_tup (da_cons (de_ix (k_ix K) (de_var 4) (de_op o_sub (de_op o_mod (de_var 2) de_int) de_int)) da_nil))) (k_slice K (de_var 1) (do_some (de_op (k_add K) (de_var 3) de_int)) do_none)))))))), rfl⟩)
theorem ok__law_asked {f : Addr} {fd : FuncData} (F : Fun K "_law_asked" "_law_asked" s__law_asked f fd) (b : Binds K fd ["_law_which", "_law_counts_here", "_law_row_here"] []) (g : mg "_law_asked" = some (.ref f)) (C_way_in : Cal P w K mg base 5 "way_in" 4 r_c_way_in) (C_shown_row : Cal P w K mg base 5 "shown_row" 2 r_n_shown_row2) (C_moved : Cal P w K mg base 5 "moved" 3 r_c_moved2) (C_moves : Cal P w K mg base 5 "moves" 2 r_c_moves2) (C_number_in : Cal P w K mg base 5 "number_in" 2 r_c_number_in) (C_need_row : Cal P w K mg base 4 "need_row" 2 r_c_need_row) (C_read_row : Cal P w K mg base 4 "read_row" 2 r_n_read_row2) (C_row_at : Cal P w K mg base 4 "row_at" 2 r_c_row_at) (C_need_counts : Cal P w K mg base 3 "need_counts" 1 r_c_need_counts) (C_many : Cal P w K mg base 4 "many" 1 r_c_many) (C_rows : Cal P w K mg base 4 "rows" 1 r_c_rows) :
    Cal P w K mg base 6 "_law_asked" 3 r_l_asked6 :=
  fnG F sc__law_asked rfl b g F_l_asked6 (fun cdv A outer s H E X hX hr tk hp => by
    subst hX
    exact ⟨_, _, (dss_cons (ds_if (dt_cmp o_lt (de_var 0) de_int) (dss_one (ds_ret (k_call3 C_need_counts C_many C_rows hr (by decide) (by decide) (by decide) tk (de_op o_mod (de_var 0) de_int) (da_cons (de_var 1) da_nil)))) dss_nil)
    (dss_cons (ds_if (dt_cmp (k_eq K hr.units) (de_var 0) de_int) (dss_one (ds_ret (k_call C_row_at hr (by decide) tk (da_cons (de_var 1) (da_cons (de_neg de_int) da_nil))))) dss_nil)
    (dss_cons (ds_if (dt_cmp (k_eq K hr.units) (de_var 0) de_int) (dss_one (ds_ret (k_call C_read_row hr (by decide) tk (da_cons (de_var 1) (da_cons de_int da_nil))))) dss_nil)
    (dss_cons (ds_if (dt_cmp (k_eq K hr.units) (de_var 0) de_int) (dss_one (ds_ret (k_call C_need_row hr (by decide) tk (da_cons (de_var 1) (da_cons (de_var 2) da_nil))))) dss_nil)
    (dss_cons (ds_if (dt_cmp (k_eq K hr.units) (de_var 0) de_int) (dss_one (ds_ret (k_call C_number_in hr (by decide) tk (da_cons (de_var 1) (da_cons (de_var 2) da_nil))))) dss_nil)
    (dss_cons (ds_if (dt_cmp (k_eq K hr.units) (de_var 0) de_int) (dss_one (ds_ret (k_call C_moves hr (by decide) tk (da_cons (de_var 1) (da_cons (de_var 2) da_nil))))) dss_nil)
    (dss_cons (ds_if (dt_cmp (k_eq K hr.units) (de_var 0) de_int) (dss_one (ds_ret (k_call C_moved hr (by decide) tk (da_cons (de_var 1) (da_cons (de_var 2) (da_cons de_non da_nil)))))) dss_nil)
    (dss_cons (ds_if (dt_cmp (k_eq K hr.units) (de_var 0) de_int) (dss_one (ds_ret (k_call C_shown_row hr (by decide) tk (da_cons (de_var 1) (da_cons (de_var 2) da_nil))))) dss_nil)
    (dss_one (ds_ret (k_call C_way_in hr (by decide) tk (da_cons (de_var 1) (da_cons (de_var 2) (da_cons de_non (da_cons (de_neg de_int) da_nil))))))))))))))), rfl⟩)
theorem ok__law_told {f : Addr} {fd : FuncData} (F : Fun K "_law_told" "_law_told" s__law_told f fd) (b : Binds K fd ["_law_which", "_law_counts_here", "_law_row_here"] []) (g : mg "_law_told" = some (.ref f)) (C__law_asked : Cal P w K mg base 6 "_law_asked" 3 r_l_asked6) (C__law_word : CalW P w K mg base 1 "_law_word" B ["BadChest", "BadRow", "BadNumber"] word) (gR : mg "RingError" = some (.ref R)) :
    Cal P w K mg base 7 "_law_told" 3 r_l_told5 :=
  fnG F sc__law_told rfl b g F_l_told5 (fun cdv A outer s H E X hX hr tk hp => by
    subst hX
    exact ⟨_, _, (dss_cons (ds_tryW 3 C__law_word hr (by decide) tk gR (fun W' pn xe tk hp => ⟨_, _, (dss_one (ds_expr (k_call C__law_asked hr (by decide) tk (da_cons (de_var 0) (da_cons (de_var 1) (da_cons (de_var 2) da_nil)))))), rfl⟩) sc__law_told.nd)
    (dss_one (ds_ret (de_lst da_nil)))), rfl⟩)
theorem ok__law_numbered {f : Addr} {fd : FuncData} (F : Fun K "_law_numbered" "_law_numbered" s__law_numbered f fd) (b : Binds K fd ["_law_counts_here", "_law_row_here", "_law_way_of", "_law_thing"] []) (g : mg "_law_numbered" = some (.ref f)) (C_row_at : Cal P w K mg base 4 "row_at" 2 r_c_row_at) (C_way_in : Cal P w K mg base 5 "way_in" 4 r_c_way_in) (C_Rack_way_to : CalM P w K mg base 4 RC "way_to" 3 r_k_Rway_to3) (C_Rack_init : CalI P w K mg base 4 RC r_k_Rinit) (C__law_word : CalW P w K mg base 1 "_law_word" B ["BadChest", "BadRow", "BadNumber"] word) (z_list : mg "list" = none) (gR : mg "RingError" = some (.ref R)) :
    Cal P w K mg base 6 "_law_numbered" 4 r_l_numbered :=
  fnG F sc__law_numbered rfl b g F_l_numbered (fun cdv A outer s H E X hX hr tk hp => by
    subst hX
    exact ⟨_, _, (dss_cons (ds_tryW 4 C__law_word hr (by decide) tk gR (fun W' pn xe tk hp => ⟨_, _, (dss_one (ds_if (dt_cmp (k_eq K hr.units) (de_var 2) de_int) (dss_one (ds_expr (k_call C_row_at hr (by decide) tk (da_cons (de_var 0) (da_cons (de_var 3) da_nil))))) (dss_one (ds_if (dt_cmp (k_eq K hr.units) (de_var 2) de_int) (dss_one (ds_expr (k_call C_way_in hr (by decide) tk (da_cons (de_var 0) (da_cons (de_var 1) (da_cons (de_var 1) (da_cons (de_var 3) da_nil))))))) (dss_one (ds_if (dt_cmp (k_eq K hr.units) (de_var 2) de_int) (dss_one (ds_expr (k_call C_way_in hr (by decide) tk (da_cons (de_var 0) (da_cons (de_var 1) (da_cons (de_var 3) (da_cons (de_neg de_int) da_nil))))))) (dss_one (ds_expr (k_meth C_Rack_way_to hr (by decide) tk (k_make C_Rack_init hr (by decide) tk (da_cons (de_lst (da_cons (de_callTy (k_list K) z_list (da_cons (de_var 0) da_nil)) da_nil)) da_nil)) (da_cons (de_lst (da_cons (de_var 1) da_nil)) (da_cons (de_var 3) da_nil))))))))))), rfl⟩) sc__law_numbered.nd)
    (dss_one (ds_ret (de_lst da_nil)))), rfl⟩)
theorem ok__law_made {f : Addr} {fd : FuncData} (F : Fun K "_law_made" "_law_made" s__law_made f fd) (b : Binds K fd ["_law_chests"] []) (g : mg "_law_made" = some (.ref f)) (C_Rack_init : CalI P w K mg base 4 RC r_k_Rinit) (C__law_word : CalW P w K mg base 1 "_law_word" B ["BadChest", "BadRow", "BadNumber"] word) (gR : mg "RingError" = some (.ref R)) :
    Cal P w K mg base 6 "_law_made" 1 r_l_made2 :=
  fnG F sc__law_made rfl b g F_l_made2 (fun cdv A outer s H E X hX hr tk hp => by
    subst hX
    exact ⟨_, _, (dss_cons (ds_tryW 1 C__law_word hr (by decide) tk gR (fun W' pn xe tk hp => ⟨_, _, (dss_one (ds_expr (k_make C_Rack_init hr (by decide) tk (da_cons (de_var 0) da_nil)))), rfl⟩) sc__law_made.nd)
    (dss_one (ds_ret (de_lst da_nil)))), rfl⟩)
theorem ok__law_to {f : Addr} {fd : FuncData} (F : Fun K "_law_to" "_law_to" s__law_to f fd) (b : Binds K fd ["_law_rack", "_law_goals"] []) (g : mg "_law_to" = some (.ref f)) (C_Rack_way_to : CalM P w K mg base 4 RC "way_to" 3 r_k_Rway_to3) (C__law_word : CalW P w K mg base 1 "_law_word" B ["BadChest", "BadRow", "BadNumber"] word) (gR : mg "RingError" = some (.ref R)) :
    Cal P w K mg base 5 "_law_to" 2 r_l_to :=
  fnG F sc__law_to rfl b g F_l_to (fun cdv A outer s H E X hX hr tk hp => by
    subst hX
    exact ⟨_, _, (dss_cons (ds_tryW 2 C__law_word hr (by decide) tk gR (fun W' pn xe tk hp => ⟨_, _, (dss_one (ds_expr (k_meth C_Rack_way_to hr (by decide) tk (de_var 0) (da_cons (de_var 1) (da_cons (de_neg de_int) da_nil))))), rfl⟩) sc__law_to.nd)
    (dss_one (ds_ret (de_lst da_nil)))), rfl⟩)
theorem ok_law {f : Addr} {fd : FuncData} (F : Fun K "law" "law" s_law f fd) (hl : ∀ ns : List Int, ns.length ≤ 63 → r_law_k16 [scr ns] = .ok (.bool true)) (C_Rack_rows : CalM P w K mg base 1 RC "rows" 1 r_k_Rrows) (C_Rack_deeds : CalM P w K mg base 1 RC "deeds" 1 r_k_Rdeeds) (C__law_to : Cal P w K mg base 5 "_law_to" 2 r_l_to) (C_Rack_init : CalI P w K mg base 4 RC r_k_Rinit) (C__law_made : Cal P w K mg base 6 "_law_made" 1 r_l_made2) (C__law_numbered : Cal P w K mg base 6 "_law_numbered" 4 r_l_numbered) (C__law_product : Cal P w K mg base 1 "_law_product" 1 r_l_product) (C__law_told : Cal P w K mg base 7 "_law_told" 3 r_l_told5) (C_need_counts : Cal P w K mg base 3 "need_counts" 1 r_c_need_counts) (C_need_row : Cal P w K mg base 4 "need_row" 2 r_c_need_row) (C__law_mixed : Cal P w K mg base 2 "_law_mixed" 2 r_l_mixed) (C__law_spoilt_row : Cal P w K mg base 1 "_law_spoilt_row" 3 r_l_spoilt_row) (C__law_spoilt_counts : Cal P w K mg base 1 "_law_spoilt_counts" 2 r_l_spoilt_counts) (C__law_row : Cal P w K mg base 3 "_law_row" 3 r_l_row) (C__law_counts : Cal P w K mg base 3 "_law_counts" 3 r_l_counts) (z_len : mg "len" = none) (z_list : mg "list" = none) (z_tuple : mg "tuple" = none) :
    FnOk P w K mg base (L2N.CX P w) 8 f fd ["_law_script"] (spL K) :=
  fnL F sc_law rfl F_law_k16 hl (fun cdv A outer s H E X hX hr tk hp => by
    subst hX
    exact ⟨_, _, (dss_cons (ds_set 1 sc_law.nd (k_call C__law_counts hr (by decide) tk (da_cons (de_var 0) (da_cons de_int (da_cons de_int da_nil)))))
    (dss_cons (ds_set 2 sc_law.nd (k_call C__law_row hr (by decide) tk (da_cons (de_var 0) (da_cons de_int (da_cons (de_var 1) da_nil)))))
    (dss_cons (ds_set 3 sc_law.nd (k_call C__law_spoilt_counts hr (by decide) tk (da_cons (de_var 1) (da_cons (k_call C__law_mixed hr (by decide) tk (da_cons (de_var 0) (da_cons de_int da_nil))) da_nil))))
    (dss_cons (ds_set 4 sc_law.nd (k_call C__law_spoilt_row hr (by decide) tk (da_cons (de_var 1) (da_cons (de_var 2) (da_cons (k_call C__law_mixed hr (by decide) tk (da_cons (de_var 0) (da_cons de_int da_nil))) da_nil)))))
    (dss_cons (ds_set 5 sc_law.nd (k_call C__law_mixed hr (by decide) tk (da_cons (de_var 0) (da_cons de_int da_nil))))
    (dss_cons (ds_if (dt_w (dw_or (dt_cmp o_isnot (k_call C_need_counts hr (by decide) tk (da_cons (de_var 1) da_nil)) de_non) (dw_or1 (dt_cmp o_isnot (k_call C_need_row hr (by decide) tk (da_cons (de_var 1) (da_cons (de_var 2) da_nil))) de_non)))) (dss_one (ds_ret de_bl)) dss_nil)
    (dss_cons (ds_if (dt_w (dw_or (dt_cmp (k_ne K hr.units) (k_call C__law_told hr (by decide) tk (da_cons (de_op o_mod (de_var 5) de_int) (da_cons (de_var 3) (da_cons de_non da_nil)))) (de_lst (da_cons de_str da_nil))) (dw_or1 (dt_cmp (k_ne K hr.units) (k_call C__law_told hr (by decide) tk (da_cons (de_op (k_add K) de_int (de_op o_mod (de_var 5) de_int)) (da_cons (de_var 1) (da_cons (de_var 4) da_nil)))) (de_lst (da_cons de_str da_nil)))))) (dss_one (ds_ret de_bl)) dss_nil)
    (dss_cons (ds_if (dt_cmp (k_ne K hr.units) (k_call C__law_numbered hr (by decide) tk (da_cons (de_var 1) (da_cons (de_var 2) (da_cons de_int (da_cons (de_var 4) da_nil))))) (de_lst (da_cons de_str da_nil))) (dss_one (ds_ret de_bl)) dss_nil)
    (dss_cons (ds_for hp rfl (k_seq K (de_lst (da_cons (de_neg de_int) (da_cons de_bl (da_cons de_str (da_cons de_non (da_cons (de_tup (da_cons de_int da_nil)) (da_cons (de_op o_pow de_int de_int) da_nil)))))))) (dg_name 6 sc_law.nd) (dss_one (ds_if (dt_cmp (k_ne K hr.units) (de_lc (own := [("_law_way_of", 10)]) rfl sc_law.nd (k_seq K (de_tup (da_cons de_int (da_cons de_int (da_cons de_int da_nil))))) (blkOk_by (own := [("_law_way_of", 10)]) (N := ["_law_script", "_law_counts_here", "_law_row_here", "_law_bad", "_law_worse", "_law_cell", "_law_thing", "_law_good", "_law_some", "_law_rack", "_law_way_of"]) (sc := defScope s_law) (by decide +kernel)) (fun _ _ _ _ _ => dgw_name 10 sc_law.nd) (fun _ _ _ _ _ => dts_nil) (fun _ _ _ _ _ => (k_call C__law_numbered hr (by decide) takesN (da_cons (de_var 1) (da_cons (de_var 2) (da_cons (de_var 10) (da_cons (de_var 6) da_nil))))))) (de_op (k_mul K) (de_lst (da_cons (de_lst (da_cons de_str da_nil)) da_nil)) de_int)) (dss_one (ds_ret de_bl)) dss_nil)))
    (dss_cons (ds_if (dt_cmp (k_ne K hr.units) (k_call C__law_numbered hr (by decide) tk (da_cons (de_var 1) (da_cons (de_var 2) (da_cons de_int (da_cons (k_call C__law_product hr (by decide) tk (da_cons (de_var 1) da_nil)) da_nil))))) (de_lst (da_cons de_str da_nil))) (dss_one (ds_ret de_bl)) dss_nil)
    (dss_cons (ds_if (dt_cmp (k_ne K hr.units) (de_lc (own := [("_law_way_of", 10)]) rfl sc_law.nd (k_seq K (de_tup (da_cons de_int (da_cons de_int da_nil)))) (blkOk_by (own := [("_law_way_of", 10)]) (N := ["_law_script", "_law_counts_here", "_law_row_here", "_law_bad", "_law_worse", "_law_cell", "_law_thing", "_law_good", "_law_some", "_law_rack", "_law_way_of"]) (sc := defScope s_law) (by decide +kernel)) (fun _ _ _ _ _ => dgw_name 10 sc_law.nd) (fun _ _ _ _ _ => dts_nil) (fun _ _ _ _ _ => (k_call C__law_numbered hr (by decide) takesN (da_cons (de_var 1) (da_cons (de_var 2) (da_cons (de_var 10) (da_cons de_int da_nil))))))) (de_op (k_mul K) (de_lst (da_cons (de_lst (da_cons de_str da_nil)) da_nil)) de_int)) (dss_one (ds_ret de_bl)) dss_nil)
    (dss_cons (ds_set 7 sc_law.nd (de_lst (da_cons (de_callTy (k_list K) z_list (da_cons (de_var 1) da_nil)) (da_cons (de_lst (da_cons de_int (da_cons de_int da_nil))) da_nil))))
    (dss_cons (ds_set 8 sc_law.nd (de_lst (da_cons (de_callTy (k_tuple K) z_tuple (da_cons (de_var 7) da_nil)) (da_cons de_non (da_cons (de_lst da_nil) (da_cons (de_op (k_mul K) (de_var 7) de_int) (da_cons (de_op (k_add K) (de_var 7) (de_lst (da_cons (de_var 3) da_nil))) (da_cons (de_op (k_add K) (de_lst (da_cons (de_var 3) da_nil)) (de_var 7)) (da_cons (de_var 1) (da_cons de_str da_nil))))))))))
    (dss_cons (ds_if (dt_cmp (k_ne K hr.units) (k_call C__law_made hr (by decide) tk (da_cons (de_ix (k_ix K) (de_var 8) (de_op o_mod (de_op o_fdiv (de_var 5) de_int) de_int)) da_nil)) (de_lst (da_cons de_str da_nil))) (dss_one (ds_ret de_bl)) dss_nil)
    (dss_cons (ds_set 9 sc_law.nd (k_make C_Rack_init hr (by decide) tk (da_cons (de_lst (da_cons (de_callTy (k_list K) z_list (da_cons (de_var 1) da_nil)) (da_cons (de_lst (da_cons de_int (da_cons de_int da_nil))) da_nil))) da_nil)))
    (dss_cons (ds_set 8 sc_law.nd (de_lst (da_cons (de_lst (da_cons (de_var 2) da_nil)) (da_cons (de_lst (da_cons (de_var 2) (da_cons (de_tup (da_cons de_int (da_cons de_int da_nil))) (da_cons (de_tup (da_cons de_int (da_cons de_int da_nil))) da_nil)))) (da_cons (de_tup (da_cons (de_var 2) (da_cons (de_tup (da_cons de_int (da_cons de_int da_nil))) da_nil))) (da_cons de_non (da_cons (de_lst (da_cons (de_var 4) (da_cons (de_tup (da_cons de_int (da_cons de_int da_nil))) da_nil))) (da_cons (de_lst (da_cons (de_var 2) (da_cons (de_tup (da_cons de_int (da_cons de_int da_nil))) da_nil))) (da_cons (de_lst (da_cons (de_var 2) (da_cons (de_lst (da_cons de_int (da_cons de_int da_nil))) da_nil))) da_nil)))))))))
    (dss_cons (ds_if (dt_cmp (k_ne K hr.units) (k_call C__law_to hr (by decide) tk (da_cons (de_var 9) (da_cons (de_ix (k_ix K) (de_var 8) (de_op o_mod (de_op o_fdiv (de_var 5) de_int) de_int)) da_nil))) (de_lst (da_cons de_str da_nil))) (dss_one (ds_ret de_bl)) dss_nil)
    (dss_one (ds_ret (de_and (de_cmp (k_eq K hr.units) (k_meth0 C_Rack_rows hr (by decide) tk (de_var 9)) (de_lst (da_cons (de_op (k_mul K) (de_tup (da_cons de_int da_nil)) (de_callB (k_len K) z_len (da_cons (de_var 1) da_nil))) (da_cons (de_tup (da_cons de_int (da_cons de_int da_nil))) da_nil)))) (de_one (de_cmp (k_eq K hr.units) (k_meth0 C_Rack_deeds hr (by decide) tk (de_var 9)) (de_lst da_nil))))))))))))))))))))))), rfl⟩)
end
end Wk
set_option Elab.async false
set_option linter.all false
set_option maxRecDepth 100000
set_option maxHeartbeats 4000000
namespace Wk
open PySem PySem.Spec PyProof.Rows L2 DL DM
theorem law_plain : ∀ ns : List Int, ns.length ≤ 63 → r_law_k16 [scr ns] = .ok (.bool true) := (fun ns _ => DM.law_k16 ns)
theorem all_mk {l : PySem.W.OpenLaw} {w : World} {K : PySem.W.Frag} {h : Heap} {mg : Str → Option Value} {fa : Addr} (X : K.In h) (G : h.Ns mainGlobals mg) (hfa : mg "law" = some (.ref fa))
    {RC : Addr} (r_nm : PySem.W.nsIn K mainGlobals "Rack" = some (some (.ref RC))) (r_pg : PySem.W.plainGet K RC Str.empty = true) (r_hd : PySem.W.hasDictIn K RC = true) (r_po : PySem.W.plainOver K RC = true) (r_sa : PySem.W.findIn K (.ref RC) "__setattr__" = some (some (.builtin "object.__setattr__"))) (r_mk : PySem.W.makesIn K RC = true) (r_kc : PySem.W.keepIn K (.ref RC) = true)
    (r_ha : PySem.W.findIn K (.ref RC) "__class__" = some (some (.builtin "object.__class__"))) (r_hn : PySem.W.specialIn K (.builtin "object.__class__") "__get__" = some (some (.builtin "getset_descriptor.__get__"))) (r_ht : PySem.W.takesIn K (.builtin "object.__class__") = some true) (r_hm : PySem.W.mroIn K RC (.type "object") = some true)
    (r_s0 : PySem.W.subIn K (.ref RC) (.type "int") = some false) (r_s1 : PySem.W.subIn K (.ref RC) (.type "bool") = some false) (r_s2 : PySem.W.subIn K (.ref RC) (.type "str") = some false) (r_s3 : PySem.W.subIn K (.ref RC) (.type "tuple") = some false) (r_s4 : PySem.W.subIn K (.ref RC) (.type "list") = some false) (r_f0 : PySem.W.findIn K (.ref RC) "chests" = some none) (r_f1 : PySem.W.findIn K (.ref RC) "stands" = some none) (r_f2 : PySem.W.findIn K (.ref RC) "done_so_far" = some none)
    {f0 : Addr} {od0 an0 : Option Addr} {sl0 : Array (Option Value)} {oc0 kV0 dc0 pm0 cd0 ct0 : Value}
    (a0 : PySem.W.nsIn K mainGlobals "is_whole" = some (some (.ref f0))) (l0 : K.lookup f0 = some ⟨oc0, od0, .func (PySem.W.fnOf "is_whole" "is_whole" (defArgs s_is_whole) (defBody s_is_whole) (defScope s_is_whole) .none kV0 dc0 pm0 an0 cd0 ct0), sl0⟩) (c0 : PySem.W.codeIn K cd0 "is_whole" = true) (k0 : PySem.W.keepIn K (.ref f0) = true)
    {f1 : Addr} {od1 an1 : Option Addr} {sl1 : Array (Option Value)} {oc1 kV1 dc1 pm1 cd1 ct1 : Value}
    (a1 : PySem.W.nsIn K mainGlobals "is_among" = some (some (.ref f1))) (l1 : K.lookup f1 = some ⟨oc1, od1, .func (PySem.W.fnOf "is_among" "is_among" (defArgs s_is_among) (defBody s_is_among) (defScope s_is_among) .none kV1 dc1 pm1 an1 cd1 ct1), sl1⟩) (c1 : PySem.W.codeIn K cd1 "is_among" = true) (k1 : PySem.W.keepIn K (.ref f1) = true)
    {f2 : Addr} {od2 an2 : Option Addr} {sl2 : Array (Option Value)} {oc2 kV2 dc2 pm2 cd2 ct2 : Value}
    (a2 : PySem.W.nsIn K mainGlobals "need_most" = some (some (.ref f2))) (l2 : K.lookup f2 = some ⟨oc2, od2, .func (PySem.W.fnOf "need_most" "need_most" (defArgs s_need_most) (defBody s_need_most) (defScope s_need_most) .none kV2 dc2 pm2 an2 cd2 ct2), sl2⟩) (c2 : PySem.W.codeIn K cd2 "need_most" = true) (k2 : PySem.W.keepIn K (.ref f2) = true)
    {f3 : Addr} {od3 an3 : Option Addr} {sl3 : Array (Option Value)} {oc3 kV3 dc3 pm3 cd3 ct3 : Value}
    (a3 : PySem.W.nsIn K mainGlobals "need_counts" = some (some (.ref f3))) (l3 : K.lookup f3 = some ⟨oc3, od3, .func (PySem.W.fnOf "need_counts" "need_counts" (defArgs s_need_counts) (defBody s_need_counts) (defScope s_need_counts) .none kV3 dc3 pm3 an3 cd3 ct3), sl3⟩) (c3 : PySem.W.codeIn K cd3 "need_counts" = true) (k3 : PySem.W.keepIn K (.ref f3) = true)
    {f4 : Addr} {od4 an4 : Option Addr} {sl4 : Array (Option Value)} {oc4 kV4 dc4 pm4 cd4 ct4 : Value}
    (a4 : PySem.W.nsIn K mainGlobals "is_row" = some (some (.ref f4))) (l4 : K.lookup f4 = some ⟨oc4, od4, .func (PySem.W.fnOf "is_row" "is_row" (defArgs s_is_row) (defBody s_is_row) (defScope s_is_row) .none kV4 dc4 pm4 an4 cd4 ct4), sl4⟩) (c4 : PySem.W.codeIn K cd4 "is_row" = true) (k4 : PySem.W.keepIn K (.ref f4) = true)
    {f5 : Addr} {od5 an5 : Option Addr} {sl5 : Array (Option Value)} {oc5 kV5 dc5 pm5 cd5 ct5 : Value}
    (a5 : PySem.W.nsIn K mainGlobals "need_row" = some (some (.ref f5))) (l5 : K.lookup f5 = some ⟨oc5, od5, .func (PySem.W.fnOf "need_row" "need_row" (defArgs s_need_row) (defBody s_need_row) (defScope s_need_row) .none kV5 dc5 pm5 an5 cd5 ct5), sl5⟩) (c5 : PySem.W.codeIn K cd5 "need_row" = true) (k5 : PySem.W.keepIn K (.ref f5) = true)
    {f6 : Addr} {od6 an6 : Option Addr} {sl6 : Array (Option Value)} {oc6 kV6 dc6 pm6 cd6 ct6 : Value}
    (a6 : PySem.W.nsIn K mainGlobals "product_of" = some (some (.ref f6))) (l6 : K.lookup f6 = some ⟨oc6, od6, .func (PySem.W.fnOf "product_of" "product_of" (defArgs s_product_of) (defBody s_product_of) (defScope s_product_of) .none kV6 dc6 pm6 an6 cd6 ct6), sl6⟩) (c6 : PySem.W.codeIn K cd6 "product_of" = true) (k6 : PySem.W.keepIn K (.ref f6) = true)
    {f7 : Addr} {od7 an7 : Option Addr} {sl7 : Array (Option Value)} {oc7 kV7 dc7 pm7 cd7 ct7 : Value}
    (a7 : PySem.W.nsIn K mainGlobals "number_by" = some (some (.ref f7))) (l7 : K.lookup f7 = some ⟨oc7, od7, .func (PySem.W.fnOf "number_by" "number_by" (defArgs s_number_by) (defBody s_number_by) (defScope s_number_by) .none kV7 dc7 pm7 an7 cd7 ct7), sl7⟩) (c7 : PySem.W.codeIn K cd7 "number_by" = true) (k7 : PySem.W.keepIn K (.ref f7) = true)
    {f8 : Addr} {od8 an8 : Option Addr} {sl8 : Array (Option Value)} {oc8 kV8 dc8 pm8 cd8 ct8 : Value}
    (a8 : PySem.W.nsIn K mainGlobals "row_by" = some (some (.ref f8))) (l8 : K.lookup f8 = some ⟨oc8, od8, .func (PySem.W.fnOf "row_by" "row_by" (defArgs s_row_by) (defBody s_row_by) (defScope s_row_by) .none kV8 dc8 pm8 an8 cd8 ct8), sl8⟩) (c8 : PySem.W.codeIn K cd8 "row_by" = true) (k8 : PySem.W.keepIn K (.ref f8) = true)
    {f9 : Addr} {od9 an9 : Option Addr} {sl9 : Array (Option Value)} {oc9 kV9 dc9 pm9 cd9 ct9 : Value}
    (a9 : PySem.W.nsIn K mainGlobals "move_between" = some (some (.ref f9))) (l9 : K.lookup f9 = some ⟨oc9, od9, .func (PySem.W.fnOf "move_between" "move_between" (defArgs s_move_between) (defBody s_move_between) (defScope s_move_between) .none kV9 dc9 pm9 an9 cd9 ct9), sl9⟩) (c9 : PySem.W.codeIn K cd9 "move_between" = true) (k9 : PySem.W.keepIn K (.ref f9) = true)
    {f10 : Addr} {od10 an10 : Option Addr} {sl10 : Array (Option Value)} {oc10 kV10 dc10 pm10 cd10 ct10 : Value}
    (a10 : PySem.W.nsIn K mainGlobals "moves_by" = some (some (.ref f10))) (l10 : K.lookup f10 = some ⟨oc10, od10, .func (PySem.W.fnOf "moves_by" "moves_by" (defArgs s_moves_by) (defBody s_moves_by) (defScope s_moves_by) .none kV10 dc10 pm10 an10 cd10 ct10), sl10⟩) (c10 : PySem.W.codeIn K cd10 "moves_by" = true) (k10 : PySem.W.keepIn K (.ref f10) = true)
    {f11 : Addr} {od11 an11 : Option Addr} {sl11 : Array (Option Value)} {oc11 kV11 dc11 pm11 cd11 ct11 : Value}
    (a11 : PySem.W.nsIn K mainGlobals "moved_by" = some (some (.ref f11))) (l11 : K.lookup f11 = some ⟨oc11, od11, .func (PySem.W.fnOf "moved_by" "moved_by" (defArgs s_moved_by) (defBody s_moved_by) (defScope s_moved_by) .none kV11 dc11 pm11 an11 cd11 ct11), sl11⟩) (c11 : PySem.W.codeIn K cd11 "moved_by" = true) (k11 : PySem.W.keepIn K (.ref f11) = true)
    {f12 : Addr} {od12 an12 : Option Addr} {sl12 : Array (Option Value)} {oc12 kV12 dc12 pm12 cd12 ct12 : Value}
    (a12 : PySem.W.nsIn K mainGlobals "is_move" = some (some (.ref f12))) (l12 : K.lookup f12 = some ⟨oc12, od12, .func (PySem.W.fnOf "is_move" "is_move" (defArgs s_is_move) (defBody s_is_move) (defScope s_is_move) .none kV12 dc12 pm12 an12 cd12 ct12), sl12⟩) (c12 : PySem.W.codeIn K cd12 "is_move" = true) (k12 : PySem.W.keepIn K (.ref f12) = true)
    {f13 : Addr} {od13 an13 : Option Addr} {sl13 : Array (Option Value)} {oc13 kV13 dc13 pm13 cd13 ct13 : Value}
    (a13 : PySem.W.nsIn K mainGlobals "moves_between" = some (some (.ref f13))) (l13 : K.lookup f13 = some ⟨oc13, od13, .func (PySem.W.fnOf "moves_between" "moves_between" (defArgs s_moves_between) (defBody s_moves_between) (defScope s_moves_between) .none kV13 dc13 pm13 an13 cd13 ct13), sl13⟩) (c13 : PySem.W.codeIn K cd13 "moves_between" = true) (k13 : PySem.W.keepIn K (.ref f13) = true)
    {f14 : Addr} {od14 an14 : Option Addr} {sl14 : Array (Option Value)} {oc14 kV14 dc14 pm14 cd14 ct14 : Value}
    (a14 : PySem.W.nsIn K mainGlobals "many" = some (some (.ref f14))) (l14 : K.lookup f14 = some ⟨oc14, od14, .func (PySem.W.fnOf "many" "many" (defArgs s_many) (defBody s_many) (defScope s_many) .none kV14 dc14 pm14 an14 cd14 ct14), sl14⟩) (c14 : PySem.W.codeIn K cd14 "many" = true) (k14 : PySem.W.keepIn K (.ref f14) = true)
    {f15 : Addr} {od15 an15 : Option Addr} {sl15 : Array (Option Value)} {oc15 kV15 dc15 pm15 cd15 ct15 : Value}
    (a15 : PySem.W.nsIn K mainGlobals "number_in" = some (some (.ref f15))) (l15 : K.lookup f15 = some ⟨oc15, od15, .func (PySem.W.fnOf "number_in" "number_in" (defArgs s_number_in) (defBody s_number_in) (defScope s_number_in) .none kV15 dc15 pm15 an15 cd15 ct15), sl15⟩) (c15 : PySem.W.codeIn K cd15 "number_in" = true) (k15 : PySem.W.keepIn K (.ref f15) = true)
    {f16 : Addr} {od16 an16 : Option Addr} {sl16 : Array (Option Value)} {oc16 kV16 dc16 pm16 cd16 ct16 : Value}
    (a16 : PySem.W.nsIn K mainGlobals "row_at" = some (some (.ref f16))) (l16 : K.lookup f16 = some ⟨oc16, od16, .func (PySem.W.fnOf "row_at" "row_at" (defArgs s_row_at) (defBody s_row_at) (defScope s_row_at) .none kV16 dc16 pm16 an16 cd16 ct16), sl16⟩) (c16 : PySem.W.codeIn K cd16 "row_at" = true) (k16 : PySem.W.keepIn K (.ref f16) = true)
    {f17 : Addr} {od17 an17 : Option Addr} {sl17 : Array (Option Value)} {oc17 kV17 dc17 pm17 cd17 ct17 : Value}
    (a17 : PySem.W.nsIn K mainGlobals "moves" = some (some (.ref f17))) (l17 : K.lookup f17 = some ⟨oc17, od17, .func (PySem.W.fnOf "moves" "moves" (defArgs s_moves) (defBody s_moves) (defScope s_moves) .none kV17 dc17 pm17 an17 cd17 ct17), sl17⟩) (c17 : PySem.W.codeIn K cd17 "moves" = true) (k17 : PySem.W.keepIn K (.ref f17) = true)
    {f18 : Addr} {od18 an18 : Option Addr} {sl18 : Array (Option Value)} {oc18 kV18 dc18 pm18 cd18 ct18 : Value}
    (a18 : PySem.W.nsIn K mainGlobals "moved" = some (some (.ref f18))) (l18 : K.lookup f18 = some ⟨oc18, od18, .func (PySem.W.fnOf "moved" "moved" (defArgs s_moved) (defBody s_moved) (defScope s_moved) .none kV18 dc18 pm18 an18 cd18 ct18), sl18⟩) (c18 : PySem.W.codeIn K cd18 "moved" = true) (k18 : PySem.W.keepIn K (.ref f18) = true)
    {f19 : Addr} {od19 an19 : Option Addr} {sl19 : Array (Option Value)} {oc19 kV19 dc19 pm19 cd19 ct19 : Value}
    (a19 : PySem.W.nsIn K mainGlobals "rows" = some (some (.ref f19))) (l19 : K.lookup f19 = some ⟨oc19, od19, .func (PySem.W.fnOf "rows" "rows" (defArgs s_rows) (defBody s_rows) (defScope s_rows) .none kV19 dc19 pm19 an19 cd19 ct19), sl19⟩) (c19 : PySem.W.codeIn K cd19 "rows" = true) (k19 : PySem.W.keepIn K (.ref f19) = true)
    {f20 : Addr} {od20 an20 : Option Addr} {sl20 : Array (Option Value)} {oc20 kV20 dc20 pm20 cd20 ct20 : Value}
    (a20 : PySem.W.nsIn K mainGlobals "way_in" = some (some (.ref f20))) (l20 : K.lookup f20 = some ⟨oc20, od20, .func (PySem.W.fnOf "way_in" "way_in" (defArgs s_way_in) (defBody s_way_in) (defScope s_way_in) .none kV20 dc20 pm20 an20 cd20 ct20), sl20⟩) (c20 : PySem.W.codeIn K cd20 "way_in" = true) (k20 : PySem.W.keepIn K (.ref f20) = true)
    {f21 : Addr} {od21 an21 : Option Addr} {sl21 : Array (Option Value)} {oc21 kV21 dc21 pm21 cd21 ct21 : Value}
    (a21 : PySem.W.nsIn K mainGlobals "shown_row" = some (some (.ref f21))) (l21 : K.lookup f21 = some ⟨oc21, od21, .func (PySem.W.fnOf "shown_row" "shown_row" (defArgs s_shown_row) (defBody s_shown_row) (defScope s_shown_row) .none kV21 dc21 pm21 an21 cd21 ct21), sl21⟩) (c21 : PySem.W.codeIn K cd21 "shown_row" = true) (k21 : PySem.W.keepIn K (.ref f21) = true)
    {f22 : Addr} {od22 an22 : Option Addr} {sl22 : Array (Option Value)} {oc22 kV22 dc22 pm22 cd22 ct22 : Value}
    (a22 : PySem.W.nsIn K mainGlobals "read_row" = some (some (.ref f22))) (l22 : K.lookup f22 = some ⟨oc22, od22, .func (PySem.W.fnOf "read_row" "read_row" (defArgs s_read_row) (defBody s_read_row) (defScope s_read_row) .none kV22 dc22 pm22 an22 cd22 ct22), sl22⟩) (c22 : PySem.W.codeIn K cd22 "read_row" = true) (k22 : PySem.W.keepIn K (.ref f22) = true)
    {f23 : Addr} {od23 an23 : Option Addr} {sl23 : Array (Option Value)} {oc23 kV23 dc23 pm23 cd23 ct23 : Value}
    (a23 : PySem.W.findIn K (.ref RC) "__init__" = some (some (.ref f23))) (i23 : PySem.W.isFn K (.ref f23) = true) (l23 : K.lookup f23 = some ⟨oc23, od23, .func (PySem.W.fnOf "__init__" "Rack.__init__" (defArgs s_Rack_init) (defBody s_Rack_init) (defScope s_Rack_init) .none kV23 dc23 pm23 an23 cd23 ct23), sl23⟩) (c23 : PySem.W.codeIn K cd23 "Rack.__init__" = true) (k23 : PySem.W.keepIn K (.ref f23) = true)
    {f24 : Addr} {od24 an24 : Option Addr} {sl24 : Array (Option Value)} {oc24 kV24 dc24 pm24 cd24 ct24 : Value}
    (a24 : PySem.W.findIn K (.ref RC) "rows" = some (some (.ref f24))) (i24 : PySem.W.isFn K (.ref f24) = true) (l24 : K.lookup f24 = some ⟨oc24, od24, .func (PySem.W.fnOf "rows" "Rack.rows" (defArgs s_Rack_rows) (defBody s_Rack_rows) (defScope s_Rack_rows) .none kV24 dc24 pm24 an24 cd24 ct24), sl24⟩) (c24 : PySem.W.codeIn K cd24 "Rack.rows" = true) (k24 : PySem.W.keepIn K (.ref f24) = true)
    {f25 : Addr} {od25 an25 : Option Addr} {sl25 : Array (Option Value)} {oc25 kV25 dc25 pm25 cd25 ct25 : Value}
    (a25 : PySem.W.findIn K (.ref RC) "deeds" = some (some (.ref f25))) (i25 : PySem.W.isFn K (.ref f25) = true) (l25 : K.lookup f25 = some ⟨oc25, od25, .func (PySem.W.fnOf "deeds" "Rack.deeds" (defArgs s_Rack_deeds) (defBody s_Rack_deeds) (defScope s_Rack_deeds) .none kV25 dc25 pm25 an25 cd25 ct25), sl25⟩) (c25 : PySem.W.codeIn K cd25 "Rack.deeds" = true) (k25 : PySem.W.keepIn K (.ref f25) = true)
    {f26 : Addr} {od26 an26 : Option Addr} {sl26 : Array (Option Value)} {oc26 kV26 dc26 pm26 cd26 ct26 : Value}
    (a26 : PySem.W.findIn K (.ref RC) "way_to" = some (some (.ref f26))) (i26 : PySem.W.isFn K (.ref f26) = true) (l26 : K.lookup f26 = some ⟨oc26, od26, .func (PySem.W.fnOf "way_to" "Rack.way_to" (defArgs s_Rack_way_to) (defBody s_Rack_way_to) (defScope s_Rack_way_to) .none kV26 dc26 pm26 an26 cd26 ct26), sl26⟩) (c26 : PySem.W.codeIn K cd26 "Rack.way_to" = true) (k26 : PySem.W.keepIn K (.ref f26) = true)
    {f27 : Addr} {od27 an27 : Option Addr} {sl27 : Array (Option Value)} {oc27 kV27 dc27 pm27 cd27 ct27 : Value}
    (a27 : PySem.W.nsIn K mainGlobals "_law_cell_at" = some (some (.ref f27))) (l27 : K.lookup f27 = some ⟨oc27, od27, .func (PySem.W.fnOf "_law_cell_at" "_law_cell_at" (defArgs s__law_cell_at) (defBody s__law_cell_at) (defScope s__law_cell_at) .none kV27 dc27 pm27 an27 cd27 ct27), sl27⟩) (c27 : PySem.W.codeIn K cd27 "_law_cell_at" = true) (k27 : PySem.W.keepIn K (.ref f27) = true)
    {f28 : Addr} {od28 an28 : Option Addr} {sl28 : Array (Option Value)} {oc28 kV28 dc28 pm28 cd28 ct28 : Value}
    (a28 : PySem.W.nsIn K mainGlobals "_law_mixed" = some (some (.ref f28))) (l28 : K.lookup f28 = some ⟨oc28, od28, .func (PySem.W.fnOf "_law_mixed" "_law_mixed" (defArgs s__law_mixed) (defBody s__law_mixed) (defScope s__law_mixed) .none kV28 dc28 pm28 an28 cd28 ct28), sl28⟩) (c28 : PySem.W.codeIn K cd28 "_law_mixed" = true) (k28 : PySem.W.keepIn K (.ref f28) = true)
    {f29 : Addr} {od29 an29 : Option Addr} {sl29 : Array (Option Value)} {oc29 kV29 dc29 pm29 cd29 ct29 : Value}
    (a29 : PySem.W.nsIn K mainGlobals "_law_counts" = some (some (.ref f29))) (l29 : K.lookup f29 = some ⟨oc29, od29, .func (PySem.W.fnOf "_law_counts" "_law_counts" (defArgs s__law_counts) (defBody s__law_counts) (defScope s__law_counts) .none kV29 dc29 pm29 an29 cd29 ct29), sl29⟩) (c29 : PySem.W.codeIn K cd29 "_law_counts" = true) (k29 : PySem.W.keepIn K (.ref f29) = true)
    {f30 : Addr} {od30 an30 : Option Addr} {sl30 : Array (Option Value)} {oc30 kV30 dc30 pm30 cd30 ct30 : Value}
    (a30 : PySem.W.nsIn K mainGlobals "_law_product" = some (some (.ref f30))) (l30 : K.lookup f30 = some ⟨oc30, od30, .func (PySem.W.fnOf "_law_product" "_law_product" (defArgs s__law_product) (defBody s__law_product) (defScope s__law_product) .none kV30 dc30 pm30 an30 cd30 ct30), sl30⟩) (c30 : PySem.W.codeIn K cd30 "_law_product" = true) (k30 : PySem.W.keepIn K (.ref f30) = true)
    {f31 : Addr} {od31 an31 : Option Addr} {sl31 : Array (Option Value)} {oc31 kV31 dc31 pm31 cd31 ct31 : Value}
    (a31 : PySem.W.nsIn K mainGlobals "_law_row" = some (some (.ref f31))) (l31 : K.lookup f31 = some ⟨oc31, od31, .func (PySem.W.fnOf "_law_row" "_law_row" (defArgs s__law_row) (defBody s__law_row) (defScope s__law_row) .none kV31 dc31 pm31 an31 cd31 ct31), sl31⟩) (c31 : PySem.W.codeIn K cd31 "_law_row" = true) (k31 : PySem.W.keepIn K (.ref f31) = true)
    {f32 : Addr} {od32 an32 : Option Addr} {sl32 : Array (Option Value)} {oc32 kV32 dc32 pm32 cd32 ct32 : Value}
    (a32 : PySem.W.nsIn K mainGlobals "_law_word" = some (some (.ref f32))) (l32 : K.lookup f32 = some ⟨oc32, od32, .func (PySem.W.fnOf "_law_word" "_law_word" (defArgs s__law_word) (defBody s__law_word) (defScope s__law_word) .none kV32 dc32 pm32 an32 cd32 ct32), sl32⟩) (c32 : PySem.W.codeIn K cd32 "_law_word" = true) (k32 : PySem.W.keepIn K (.ref f32) = true)
    {f33 : Addr} {od33 an33 : Option Addr} {sl33 : Array (Option Value)} {oc33 kV33 dc33 pm33 cd33 ct33 : Value}
    (a33 : PySem.W.nsIn K mainGlobals "_law_spoilt_counts" = some (some (.ref f33))) (l33 : K.lookup f33 = some ⟨oc33, od33, .func (PySem.W.fnOf "_law_spoilt_counts" "_law_spoilt_counts" (defArgs s__law_spoilt_counts) (defBody s__law_spoilt_counts) (defScope s__law_spoilt_counts) .none kV33 dc33 pm33 an33 cd33 ct33), sl33⟩) (c33 : PySem.W.codeIn K cd33 "_law_spoilt_counts" = true) (k33 : PySem.W.keepIn K (.ref f33) = true)
    {f34 : Addr} {od34 an34 : Option Addr} {sl34 : Array (Option Value)} {oc34 kV34 dc34 pm34 cd34 ct34 : Value}
    (a34 : PySem.W.nsIn K mainGlobals "_law_spoilt_row" = some (some (.ref f34))) (l34 : K.lookup f34 = some ⟨oc34, od34, .func (PySem.W.fnOf "_law_spoilt_row" "_law_spoilt_row" (defArgs s__law_spoilt_row) (defBody s__law_spoilt_row) (defScope s__law_spoilt_row) .none kV34 dc34 pm34 an34 cd34 ct34), sl34⟩) (c34 : PySem.W.codeIn K cd34 "_law_spoilt_row" = true) (k34 : PySem.W.keepIn K (.ref f34) = true)
    {f35 : Addr} {od35 an35 : Option Addr} {sl35 : Array (Option Value)} {oc35 kV35 dc35 pm35 cd35 ct35 : Value}
    (a35 : PySem.W.nsIn K mainGlobals "_law_asked" = some (some (.ref f35))) (l35 : K.lookup f35 = some ⟨oc35, od35, .func (PySem.W.fnOf "_law_asked" "_law_asked" (defArgs s__law_asked) (defBody s__law_asked) (defScope s__law_asked) .none kV35 dc35 pm35 an35 cd35 ct35), sl35⟩) (c35 : PySem.W.codeIn K cd35 "_law_asked" = true) (k35 : PySem.W.keepIn K (.ref f35) = true)
    {f36 : Addr} {od36 an36 : Option Addr} {sl36 : Array (Option Value)} {oc36 kV36 dc36 pm36 cd36 ct36 : Value}
    (a36 : PySem.W.nsIn K mainGlobals "_law_told" = some (some (.ref f36))) (l36 : K.lookup f36 = some ⟨oc36, od36, .func (PySem.W.fnOf "_law_told" "_law_told" (defArgs s__law_told) (defBody s__law_told) (defScope s__law_told) .none kV36 dc36 pm36 an36 cd36 ct36), sl36⟩) (c36 : PySem.W.codeIn K cd36 "_law_told" = true) (k36 : PySem.W.keepIn K (.ref f36) = true)
    {f37 : Addr} {od37 an37 : Option Addr} {sl37 : Array (Option Value)} {oc37 kV37 dc37 pm37 cd37 ct37 : Value}
    (a37 : PySem.W.nsIn K mainGlobals "_law_numbered" = some (some (.ref f37))) (l37 : K.lookup f37 = some ⟨oc37, od37, .func (PySem.W.fnOf "_law_numbered" "_law_numbered" (defArgs s__law_numbered) (defBody s__law_numbered) (defScope s__law_numbered) .none kV37 dc37 pm37 an37 cd37 ct37), sl37⟩) (c37 : PySem.W.codeIn K cd37 "_law_numbered" = true) (k37 : PySem.W.keepIn K (.ref f37) = true)
    {f38 : Addr} {od38 an38 : Option Addr} {sl38 : Array (Option Value)} {oc38 kV38 dc38 pm38 cd38 ct38 : Value}
    (a38 : PySem.W.nsIn K mainGlobals "_law_made" = some (some (.ref f38))) (l38 : K.lookup f38 = some ⟨oc38, od38, .func (PySem.W.fnOf "_law_made" "_law_made" (defArgs s__law_made) (defBody s__law_made) (defScope s__law_made) .none kV38 dc38 pm38 an38 cd38 ct38), sl38⟩) (c38 : PySem.W.codeIn K cd38 "_law_made" = true) (k38 : PySem.W.keepIn K (.ref f38) = true)
    {f39 : Addr} {od39 an39 : Option Addr} {sl39 : Array (Option Value)} {oc39 kV39 dc39 pm39 cd39 ct39 : Value}
    (a39 : PySem.W.nsIn K mainGlobals "_law_to" = some (some (.ref f39))) (l39 : K.lookup f39 = some ⟨oc39, od39, .func (PySem.W.fnOf "_law_to" "_law_to" (defArgs s__law_to) (defBody s__law_to) (defScope s__law_to) .none kV39 dc39 pm39 an39 cd39 ct39), sl39⟩) (c39 : PySem.W.codeIn K cd39 "_law_to" = true) (k39 : PySem.W.keepIn K (.ref f39) = true)
    {f40 : Addr} {od40 an40 : Option Addr} {sl40 : Array (Option Value)} {oc40 kV40 dc40 pm40 cd40 ct40 : Value}
    (a40 : PySem.W.nsIn K mainGlobals "law" = some (some (.ref f40))) (l40 : K.lookup f40 = some ⟨oc40, od40, .func (PySem.W.fnOf "law" "law" (defArgs s_law) (defBody s_law) (defScope s_law) .none kV40 dc40 pm40 an40 cd40 ct40), sl40⟩) (c40 : PySem.W.codeIn K cd40 "law" = true) (k40 : PySem.W.keepIn K (.ref f40) = true)
    {C_BadChest : Addr} (x1_BadChest : PySem.W.nsIn K mainGlobals "BadChest" = some (some (.ref C_BadChest))) (x2_BadChest : PySem.W.excIn K C_BadChest [.type "ValueError", .type "Exception", .type "BaseException", .type "object"] "ValueError.__new__" = true) (x3_BadChest : PySem.W.keepIn K (.ref C_BadChest) = true) (x4_BadChest : PySem.W.subIn K (.ref C_BadChest) (.type "BaseException") = some true) (x5_BadChest : PySem.W.typeIn K (.ref C_BadChest) = some (.type "type"))
    {C_BadNumber : Addr} (x1_BadNumber : PySem.W.nsIn K mainGlobals "BadNumber" = some (some (.ref C_BadNumber))) (x2_BadNumber : PySem.W.excIn K C_BadNumber [.type "ValueError", .type "Exception", .type "BaseException", .type "object"] "ValueError.__new__" = true) (x3_BadNumber : PySem.W.keepIn K (.ref C_BadNumber) = true) (x4_BadNumber : PySem.W.subIn K (.ref C_BadNumber) (.type "BaseException") = some true) (x5_BadNumber : PySem.W.typeIn K (.ref C_BadNumber) = some (.type "type"))
    {C_BadRow : Addr} (x1_BadRow : PySem.W.nsIn K mainGlobals "BadRow" = some (some (.ref C_BadRow))) (x2_BadRow : PySem.W.excIn K C_BadRow [.type "ValueError", .type "Exception", .type "BaseException", .type "object"] "ValueError.__new__" = true) (x3_BadRow : PySem.W.keepIn K (.ref C_BadRow) = true) (x4_BadRow : PySem.W.subIn K (.ref C_BadRow) (.type "BaseException") = some true) (x5_BadRow : PySem.W.typeIn K (.ref C_BadRow) = some (.type "type"))
    {C_NoMove : Addr} (x1_NoMove : PySem.W.nsIn K mainGlobals "NoMove" = some (some (.ref C_NoMove))) (x2_NoMove : PySem.W.excIn K C_NoMove [.type "ValueError", .type "Exception", .type "BaseException", .type "object"] "ValueError.__new__" = true) (x3_NoMove : PySem.W.keepIn K (.ref C_NoMove) = true) (x4_NoMove : PySem.W.subIn K (.ref C_NoMove) (.type "BaseException") = some true) (x5_NoMove : PySem.W.typeIn K (.ref C_NoMove) = some (.type "type"))
    {C_NoNote : Addr} (x1_NoNote : PySem.W.nsIn K mainGlobals "NoNote" = some (some (.ref C_NoNote))) (x2_NoNote : PySem.W.excIn K C_NoNote [.type "ValueError", .type "Exception", .type "BaseException", .type "object"] "ValueError.__new__" = true) (x3_NoNote : PySem.W.keepIn K (.ref C_NoNote) = true) (x4_NoNote : PySem.W.subIn K (.ref C_NoNote) (.type "BaseException") = some true) (x5_NoNote : PySem.W.typeIn K (.ref C_NoNote) = some (.type "type"))
    {C_TooMany : Addr} (x1_TooMany : PySem.W.nsIn K mainGlobals "TooMany" = some (some (.ref C_TooMany))) (x2_TooMany : PySem.W.excIn K C_TooMany [.type "ValueError", .type "Exception", .type "BaseException", .type "object"] "ValueError.__new__" = true) (x3_TooMany : PySem.W.keepIn K (.ref C_TooMany) = true) (x4_TooMany : PySem.W.subIn K (.ref C_TooMany) (.type "BaseException") = some true) (x5_TooMany : PySem.W.typeIn K (.ref C_TooMany) = some (.type "type"))
    {C_BadBar : Addr} (x1_BadBar : PySem.W.nsIn K mainGlobals "BadBar" = some (some (.ref C_BadBar))) (x5_BadBar : PySem.W.typeIn K (.ref C_BadBar) = some (.type "type"))
    (s4_BadBar : PySem.W.hasDictIn K C_BadBar = true)
    {C_BadSetting : Addr} (x1_BadSetting : PySem.W.nsIn K mainGlobals "BadSetting" = some (some (.ref C_BadSetting))) (x5_BadSetting : PySem.W.typeIn K (.ref C_BadSetting) = some (.type "type"))
    (s4_BadSetting : PySem.W.hasDictIn K C_BadSetting = true)
    (s4_BadChest : PySem.W.hasDictIn K C_BadChest = true)
    (s4_BadRow : PySem.W.hasDictIn K C_BadRow = true)
    (s4_BadNumber : PySem.W.hasDictIn K C_BadNumber = true)
    (s4_NoMove : PySem.W.hasDictIn K C_NoMove = true)
    (s4_TooMany : PySem.W.hasDictIn K C_TooMany = true)
    (s4_NoNote : PySem.W.hasDictIn K C_NoNote = true)
    {R : Addr} (x1_R : PySem.W.nsIn K mainGlobals "RingError" = some (some (.ref R))) (s3_R : PySem.W.subIn K (.ref R) (.type "BaseException") = some true) (s4_R : PySem.W.hasDictIn K R = true) (x5_R : PySem.W.typeIn K (.ref R) = some (.type "type")) (s_n : PySem.W.specialIn K (.builtin "object.__class__") "__get__" = some (some (.builtin "getset_descriptor.__get__"))) (s_t : PySem.W.takesIn K (.builtin "object.__class__") = some true)
    (s1_BadChest : PySem.W.findIn K (.ref C_BadChest) "__getattribute__" = some (some (.builtin "BaseException.__getattribute__"))) (s2_BadChest : PySem.W.findIn K (.ref C_BadChest) "__getattr__" = some none) (s3_BadChest : PySem.W.subIn K (.ref C_BadChest) (.type "BaseException") = some true) (s5_BadChest : PySem.W.findIn K (.ref C_BadChest) "__class__" = some (some (.builtin "object.__class__"))) (s6_BadChest : PySem.W.mroIn K C_BadChest (.type "object") = some true) (s7_BadChest : PySem.W.subIn K (.ref C_BadChest) (.type "ValueError") = some true) (s8_BadChest : PySem.W.subIn K (.ref C_BadChest) (.ref R) = some true)
    (i_BadChest_BadBar : PySem.W.subIn K (.ref C_BadChest) (.ref C_BadBar) = some false)
    (i_BadChest_BadSetting : PySem.W.subIn K (.ref C_BadChest) (.ref C_BadSetting) = some false)
    (i_BadChest_BadChest : PySem.W.subIn K (.ref C_BadChest) (.ref C_BadChest) = some true)
    (i_BadChest_BadRow : PySem.W.subIn K (.ref C_BadChest) (.ref C_BadRow) = some false)
    (i_BadChest_BadNumber : PySem.W.subIn K (.ref C_BadChest) (.ref C_BadNumber) = some false)
    (i_BadChest_NoMove : PySem.W.subIn K (.ref C_BadChest) (.ref C_NoMove) = some false)
    (i_BadChest_TooMany : PySem.W.subIn K (.ref C_BadChest) (.ref C_TooMany) = some false)
    (i_BadChest_NoNote : PySem.W.subIn K (.ref C_BadChest) (.ref C_NoNote) = some false)
    (s1_BadRow : PySem.W.findIn K (.ref C_BadRow) "__getattribute__" = some (some (.builtin "BaseException.__getattribute__"))) (s2_BadRow : PySem.W.findIn K (.ref C_BadRow) "__getattr__" = some none) (s3_BadRow : PySem.W.subIn K (.ref C_BadRow) (.type "BaseException") = some true) (s5_BadRow : PySem.W.findIn K (.ref C_BadRow) "__class__" = some (some (.builtin "object.__class__"))) (s6_BadRow : PySem.W.mroIn K C_BadRow (.type "object") = some true) (s7_BadRow : PySem.W.subIn K (.ref C_BadRow) (.type "ValueError") = some true) (s8_BadRow : PySem.W.subIn K (.ref C_BadRow) (.ref R) = some true)
    (i_BadRow_BadBar : PySem.W.subIn K (.ref C_BadRow) (.ref C_BadBar) = some false)
    (i_BadRow_BadSetting : PySem.W.subIn K (.ref C_BadRow) (.ref C_BadSetting) = some false)
    (i_BadRow_BadChest : PySem.W.subIn K (.ref C_BadRow) (.ref C_BadChest) = some false)
    (i_BadRow_BadRow : PySem.W.subIn K (.ref C_BadRow) (.ref C_BadRow) = some true)
    (i_BadRow_BadNumber : PySem.W.subIn K (.ref C_BadRow) (.ref C_BadNumber) = some false)
    (i_BadRow_NoMove : PySem.W.subIn K (.ref C_BadRow) (.ref C_NoMove) = some false)
    (i_BadRow_TooMany : PySem.W.subIn K (.ref C_BadRow) (.ref C_TooMany) = some false)
    (i_BadRow_NoNote : PySem.W.subIn K (.ref C_BadRow) (.ref C_NoNote) = some false)
    (s1_BadNumber : PySem.W.findIn K (.ref C_BadNumber) "__getattribute__" = some (some (.builtin "BaseException.__getattribute__"))) (s2_BadNumber : PySem.W.findIn K (.ref C_BadNumber) "__getattr__" = some none) (s3_BadNumber : PySem.W.subIn K (.ref C_BadNumber) (.type "BaseException") = some true) (s5_BadNumber : PySem.W.findIn K (.ref C_BadNumber) "__class__" = some (some (.builtin "object.__class__"))) (s6_BadNumber : PySem.W.mroIn K C_BadNumber (.type "object") = some true) (s7_BadNumber : PySem.W.subIn K (.ref C_BadNumber) (.type "ValueError") = some true) (s8_BadNumber : PySem.W.subIn K (.ref C_BadNumber) (.ref R) = some true)
    (i_BadNumber_BadBar : PySem.W.subIn K (.ref C_BadNumber) (.ref C_BadBar) = some false)
    (i_BadNumber_BadSetting : PySem.W.subIn K (.ref C_BadNumber) (.ref C_BadSetting) = some false)
    (i_BadNumber_BadChest : PySem.W.subIn K (.ref C_BadNumber) (.ref C_BadChest) = some false)
    (i_BadNumber_BadRow : PySem.W.subIn K (.ref C_BadNumber) (.ref C_BadRow) = some false)
    (i_BadNumber_BadNumber : PySem.W.subIn K (.ref C_BadNumber) (.ref C_BadNumber) = some true)
    (i_BadNumber_NoMove : PySem.W.subIn K (.ref C_BadNumber) (.ref C_NoMove) = some false)
    (i_BadNumber_TooMany : PySem.W.subIn K (.ref C_BadNumber) (.ref C_TooMany) = some false)
    (i_BadNumber_NoNote : PySem.W.subIn K (.ref C_BadNumber) (.ref C_NoNote) = some false)
    (z_ValueError : PySem.W.nsIn K mainGlobals "ValueError" = some none)
    (z_bool : PySem.W.nsIn K mainGlobals "bool" = some none)
    (z_enumerate : PySem.W.nsIn K mainGlobals "enumerate" = some none)
    (z_int : PySem.W.nsIn K mainGlobals "int" = some none)
    (z_isinstance : PySem.W.nsIn K mainGlobals "isinstance" = some none)
    (z_len : PySem.W.nsIn K mainGlobals "len" = some none)
    (z_list : PySem.W.nsIn K mainGlobals "list" = some none)
    (z_range : PySem.W.nsIn K mainGlobals "range" = some none)
    (z_sorted : PySem.W.nsIn K mainGlobals "sorted" = some none)
    (z_str : PySem.W.nsIn K mainGlobals "str" = some none)
    (z_tuple : PySem.W.nsIn K mainGlobals "tuple" = some none)
    (z_zip : PySem.W.nsIn K mainGlobals "zip" = some none)
    {t_MOST_TOLD : Tok} (q_MOST_TOLD : PySem.W.nsIn K mainGlobals "MOST_TOLD" = some (some (.int 1000 t_MOST_TOLD)))
    {t_LEAST_COUNT : Tok} (q_LEAST_COUNT : PySem.W.nsIn K mainGlobals "LEAST_COUNT" = some (some (.int 2 t_LEAST_COUNT)))
    {t_MOST_COUNT : Tok} (q_MOST_COUNT : PySem.W.nsIn K mainGlobals "MOST_COUNT" = some (some (.int 9 t_MOST_COUNT)))
    {t_MOST_DRAWERS : Tok} (q_MOST_DRAWERS : PySem.W.nsIn K mainGlobals "MOST_DRAWERS" = some (some (.int 12 t_MOST_DRAWERS)))
    {t_MOST_ROWS : Tok} (q_MOST_ROWS : PySem.W.nsIn K mainGlobals "MOST_ROWS" = some (some (.int 500 t_MOST_ROWS)))
    {t_FIGURES : Tok} (q_FIGURES : PySem.W.nsIn K mainGlobals "FIGURES" = some (some (.str (Str.ofString "012345678") t_FIGURES)))
    {t_MOST_CHESTS : Tok} (q_MOST_CHESTS : PySem.W.nsIn K mainGlobals "MOST_CHESTS" = some (some (.int 5 t_MOST_CHESTS)))
    : ∃ fd : FuncData, (∀ (s : Shared) (v : Value), BindsTo s fd ⟨[v], []⟩ [("_law_script", v)]) ∧ ∀ base : Heap, K.In base → base.Ns mainGlobals mg → FnOk l.prog w K mg base (L2N.CX l.prog w) 8 fa fd ["_law_script"] (DL.spL K) := by
  have e := hfa.symm.trans (PySem.W.mg_of X G a40)
  cases e
  obtain ⟨B, e_B0, e_B1, e_B2, e_B3, e_B4, e_B5, e_B6, e_B7⟩ := exB C_BadBar C_BadSetting C_BadChest C_BadRow C_BadNumber C_NoMove C_TooMany C_NoNote
  subst e_B0
  subst e_B1
  subst e_B2
  subst e_B3
  subst e_B4
  subst e_B5
  subst e_B6
  subst e_B7
  have gR := PySem.W.mg_of X G x1_R
  have hB : ∀ y ∈ eight, mg y = some (.ref (B y)) := all8 (PySem.W.mg_of X G x1_BadBar) (PySem.W.mg_of X G x1_BadSetting) (PySem.W.mg_of X G x1_BadChest) (PySem.W.mg_of X G x1_BadRow) (PySem.W.mg_of X G x1_BadNumber) (PySem.W.mg_of X G x1_NoMove) (PySem.W.mg_of X G x1_TooMany) (PySem.W.mg_of X G x1_NoNote)
  have w_BadChest : Wcls K mg B "BadChest" := ⟨by decide +kernel, hB, ⟨s1_BadChest, s2_BadChest, s3_BadChest, s4_BadChest, s5_BadChest, s_n, s_t, s6_BadChest⟩, kit_val s7_BadChest, all8 ((kit_no s4_BadBar x5_BadBar i_BadChest_BadChest i_BadChest_BadBar).trans (congrArg some (by decide +kernel))) ((kit_no s4_BadSetting x5_BadSetting i_BadChest_BadChest i_BadChest_BadSetting).trans (congrArg some (by decide +kernel))) ((kit_self).trans (congrArg some (by decide +kernel))) ((kit_no s4_BadRow x5_BadRow i_BadChest_BadChest i_BadChest_BadRow).trans (congrArg some (by decide +kernel))) ((kit_no s4_BadNumber x5_BadNumber i_BadChest_BadChest i_BadChest_BadNumber).trans (congrArg some (by decide +kernel))) ((kit_no s4_NoMove x5_NoMove i_BadChest_BadChest i_BadChest_NoMove).trans (congrArg some (by decide +kernel))) ((kit_no s4_TooMany x5_TooMany i_BadChest_BadChest i_BadChest_TooMany).trans (congrArg some (by decide +kernel))) ((kit_no s4_NoNote x5_NoNote i_BadChest_BadChest i_BadChest_NoNote).trans (congrArg some (by decide +kernel))), fun R' hR => by cases (hR.symm.trans gR); exact PySem.W.exm_ref s3_R s4_R x5_R s8_BadChest⟩
  have w_BadRow : Wcls K mg B "BadRow" := ⟨by decide +kernel, hB, ⟨s1_BadRow, s2_BadRow, s3_BadRow, s4_BadRow, s5_BadRow, s_n, s_t, s6_BadRow⟩, kit_val s7_BadRow, all8 ((kit_no s4_BadBar x5_BadBar i_BadRow_BadRow i_BadRow_BadBar).trans (congrArg some (by decide +kernel))) ((kit_no s4_BadSetting x5_BadSetting i_BadRow_BadRow i_BadRow_BadSetting).trans (congrArg some (by decide +kernel))) ((kit_no s4_BadChest x5_BadChest i_BadRow_BadRow i_BadRow_BadChest).trans (congrArg some (by decide +kernel))) ((kit_self).trans (congrArg some (by decide +kernel))) ((kit_no s4_BadNumber x5_BadNumber i_BadRow_BadRow i_BadRow_BadNumber).trans (congrArg some (by decide +kernel))) ((kit_no s4_NoMove x5_NoMove i_BadRow_BadRow i_BadRow_NoMove).trans (congrArg some (by decide +kernel))) ((kit_no s4_TooMany x5_TooMany i_BadRow_BadRow i_BadRow_TooMany).trans (congrArg some (by decide +kernel))) ((kit_no s4_NoNote x5_NoNote i_BadRow_BadRow i_BadRow_NoNote).trans (congrArg some (by decide +kernel))), fun R' hR => by cases (hR.symm.trans gR); exact PySem.W.exm_ref s3_R s4_R x5_R s8_BadRow⟩
  have w_BadNumber : Wcls K mg B "BadNumber" := ⟨by decide +kernel, hB, ⟨s1_BadNumber, s2_BadNumber, s3_BadNumber, s4_BadNumber, s5_BadNumber, s_n, s_t, s6_BadNumber⟩, kit_val s7_BadNumber, all8 ((kit_no s4_BadBar x5_BadBar i_BadNumber_BadNumber i_BadNumber_BadBar).trans (congrArg some (by decide +kernel))) ((kit_no s4_BadSetting x5_BadSetting i_BadNumber_BadNumber i_BadNumber_BadSetting).trans (congrArg some (by decide +kernel))) ((kit_no s4_BadChest x5_BadChest i_BadNumber_BadNumber i_BadNumber_BadChest).trans (congrArg some (by decide +kernel))) ((kit_no s4_BadRow x5_BadRow i_BadNumber_BadNumber i_BadNumber_BadRow).trans (congrArg some (by decide +kernel))) ((kit_self).trans (congrArg some (by decide +kernel))) ((kit_no s4_NoMove x5_NoMove i_BadNumber_BadNumber i_BadNumber_NoMove).trans (congrArg some (by decide +kernel))) ((kit_no s4_TooMany x5_TooMany i_BadNumber_BadNumber i_BadNumber_TooMany).trans (congrArg some (by decide +kernel))) ((kit_no s4_NoNote x5_NoNote i_BadNumber_BadNumber i_BadNumber_NoNote).trans (congrArg some (by decide +kernel))), fun R' hR => by cases (hR.symm.trans gR); exact PySem.W.exm_ref s3_R s4_R x5_R s8_BadNumber⟩
  have hW : ∀ c ∈ (["BadChest", "BadRow", "BadNumber"] : List Str), Wcls K mg B c := by
    intro c hc
    simp only [List.mem_cons, List.not_mem_nil, or_false] at hc
    rcases hc with rfl | rfl | rfl
    · exact w_BadChest
    · exact w_BadRow
    · exact w_BadNumber
  have r_g := PySem.W.mg_of X G r_nm
  have r_cl : Cls K RC := ⟨r_pg, r_hd, r_po, r_sa⟩
  have rc : RkC K RC := ⟨r_nm, r_cl, r_ha, r_hn, r_ht, r_hm, fun T hT => by rcases hT with rfl | rfl | rfl | rfl | rfl <;> assumption, r_f0, r_f1, r_f2⟩
  have y_ValueError := PySem.W.mg_none_of X G z_ValueError
  have y_bool := PySem.W.mg_none_of X G z_bool
  have y_enumerate := PySem.W.mg_none_of X G z_enumerate
  have y_int := PySem.W.mg_none_of X G z_int
  have y_isinstance := PySem.W.mg_none_of X G z_isinstance
  have y_len := PySem.W.mg_none_of X G z_len
  have y_list := PySem.W.mg_none_of X G z_list
  have y_range := PySem.W.mg_none_of X G z_range
  have y_sorted := PySem.W.mg_none_of X G z_sorted
  have y_str := PySem.W.mg_none_of X G z_str
  have y_tuple := PySem.W.mg_none_of X G z_tuple
  have y_zip := PySem.W.mg_none_of X G z_zip
  have g_MOST_TOLD := PySem.W.mg_of X G q_MOST_TOLD
  have g_LEAST_COUNT := PySem.W.mg_of X G q_LEAST_COUNT
  have g_MOST_COUNT := PySem.W.mg_of X G q_MOST_COUNT
  have g_MOST_DRAWERS := PySem.W.mg_of X G q_MOST_DRAWERS
  have g_MOST_ROWS := PySem.W.mg_of X G q_MOST_ROWS
  have g_FIGURES := PySem.W.mg_of X G q_FIGURES
  have g_MOST_CHESTS := PySem.W.mg_of X G q_MOST_CHESTS
  have e_BadChest : Ecls K mg "BadChest" := ⟨⟨_, PySem.W.mg_of X G x1_BadChest, x2_BadChest, x3_BadChest, x4_BadChest, x5_BadChest⟩⟩
  have e_BadNumber : Ecls K mg "BadNumber" := ⟨⟨_, PySem.W.mg_of X G x1_BadNumber, x2_BadNumber, x3_BadNumber, x4_BadNumber, x5_BadNumber⟩⟩
  have e_BadRow : Ecls K mg "BadRow" := ⟨⟨_, PySem.W.mg_of X G x1_BadRow, x2_BadRow, x3_BadRow, x4_BadRow, x5_BadRow⟩⟩
  have e_NoMove : Ecls K mg "NoMove" := ⟨⟨_, PySem.W.mg_of X G x1_NoMove, x2_NoMove, x3_NoMove, x4_NoMove, x5_NoMove⟩⟩
  have e_NoNote : Ecls K mg "NoNote" := ⟨⟨_, PySem.W.mg_of X G x1_NoNote, x2_NoNote, x3_NoNote, x4_NoNote, x5_NoNote⟩⟩
  have e_TooMany : Ecls K mg "TooMany" := ⟨⟨_, PySem.W.mg_of X G x1_TooMany, x2_TooMany, x3_TooMany, x4_TooMany, x5_TooMany⟩⟩
  have F0 := fun_mk (st := s_is_whole) l0 c0 k0
  have b0 := F0.binds (ps := ["thing"]) fun _ _ _ _ _ _ us hl => match us, hl with | [_], _ => rfl
  have F1 := fun_mk (st := s_is_among) l1 c1 k1
  have b1 := F1.binds (ps := ["thing", "least", "most"]) fun _ _ _ _ _ _ us hl => match us, hl with | [_, _, _], _ => rfl
  have F2 := fun_mk (st := s_need_most) l2 c2 k2
  have b2 := F2.binds (ps := ["most"]) fun _ _ _ _ _ _ us hl => match us, hl with | [_], _ => rfl
  have F3 := fun_mk (st := s_need_counts) l3 c3 k3
  have b3 := F3.binds (ps := ["counts"]) fun _ _ _ _ _ _ us hl => match us, hl with | [_], _ => rfl
  have F4 := fun_mk (st := s_is_row) l4 c4 k4
  have b4 := F4.binds (ps := ["counts", "row"]) fun _ _ _ _ _ _ us hl => match us, hl with | [_, _], _ => rfl
  have F5 := fun_mk (st := s_need_row) l5 c5 k5
  have b5 := F5.binds (ps := ["counts", "row"]) fun _ _ _ _ _ _ us hl => match us, hl with | [_, _], _ => rfl
  have F6 := fun_mk (st := s_product_of) l6 c6 k6
  have b6 := F6.binds (ps := ["counts"]) fun _ _ _ _ _ _ us hl => match us, hl with | [_], _ => rfl
  have F7 := fun_mk (st := s_number_by) l7 c7 k7
  have b7 := F7.binds (ps := ["counts", "row"]) fun _ _ _ _ _ _ us hl => match us, hl with | [_, _], _ => rfl
  have F8 := fun_mk (st := s_row_by) l8 c8 k8
  have b8 := F8.binds (ps := ["counts", "number"]) fun _ _ _ _ _ _ us hl => match us, hl with | [_, _], _ => rfl
  have F9 := fun_mk (st := s_move_between) l9 c9 k9
  have b9 := F9.binds (ps := ["one", "other"]) fun _ _ _ _ _ _ us hl => match us, hl with | [_, _], _ => rfl
  have F10 := fun_mk (st := s_moves_by) l10 c10 k10
  have b10 := F10.binds (ps := ["counts", "row"]) fun _ _ _ _ _ _ us hl => match us, hl with | [_, _], _ => rfl
  have F11 := fun_mk (st := s_moved_by) l11 c11 k11
  have b11 := F11.binds (ps := ["row", "move"]) fun _ _ _ _ _ _ us hl => match us, hl with | [_, _], _ => rfl
  have F12 := fun_mk (st := s_is_move) l12 c12 k12
  have b12 := F12.binds (ps := ["counts", "row", "move"]) fun _ _ _ _ _ _ us hl => match us, hl with | [_, _, _], _ => rfl
  have F13 := fun_mk (st := s_moves_between) l13 c13 k13
  have b13 := F13.binds (ps := ["counts", "one", "other", "most"]) fun _ _ _ _ _ _ us hl => match us, hl with | [_, _, _, _], _ => rfl
  have F14 := fun_mk (st := s_many) l14 c14 k14
  have b14 := F14.binds (ps := ["counts"]) fun _ _ _ _ _ _ us hl => match us, hl with | [_], _ => rfl
  have F15 := fun_mk (st := s_number_in) l15 c15 k15
  have b15 := F15.binds (ps := ["counts", "row"]) fun _ _ _ _ _ _ us hl => match us, hl with | [_, _], _ => rfl
  have F16 := fun_mk (st := s_row_at) l16 c16 k16
  have b16 := F16.binds (ps := ["counts", "number"]) fun _ _ _ _ _ _ us hl => match us, hl with | [_, _], _ => rfl
  have F17 := fun_mk (st := s_moves) l17 c17 k17
  have b17 := F17.binds (ps := ["counts", "row"]) fun _ _ _ _ _ _ us hl => match us, hl with | [_, _], _ => rfl
  have F18 := fun_mk (st := s_moved) l18 c18 k18
  have b18 := F18.binds (ps := ["counts", "row", "move"]) fun _ _ _ _ _ _ us hl => match us, hl with | [_, _, _], _ => rfl
  have F19 := fun_mk (st := s_rows) l19 c19 k19
  have b19 := F19.binds (ps := ["counts"]) fun _ _ _ _ _ _ us hl => match us, hl with | [_], _ => rfl
  have F20 := fun_mk (st := s_way_in) l20 c20 k20
  have b20 := F20.binds (ps := ["counts", "one", "other", "most"]) fun _ _ _ _ _ _ us hl => match us, hl with | [_, _, _, _], _ => rfl
  have F21 := fun_mk (st := s_shown_row) l21 c21 k21
  have b21 := F21.binds (ps := ["counts", "row"]) fun _ _ _ _ _ _ us hl => match us, hl with | [_, _], _ => rfl
  have F22 := fun_mk (st := s_read_row) l22 c22 k22
  have b22 := F22.binds (ps := ["counts", "text"]) fun _ _ _ _ _ _ us hl => match us, hl with | [_, _], _ => rfl
  have F23 := fun_mk (st := s_Rack_init) l23 c23 k23
  have b23 := F23.binds (ps := ["self", "chests"]) fun _ _ _ _ _ _ us hl => match us, hl with | [_, _], _ => rfl
  have F24 := fun_mk (st := s_Rack_rows) l24 c24 k24
  have b24 := F24.binds (ps := ["self"]) fun _ _ _ _ _ _ us hl => match us, hl with | [_], _ => rfl
  have F25 := fun_mk (st := s_Rack_deeds) l25 c25 k25
  have b25 := F25.binds (ps := ["self"]) fun _ _ _ _ _ _ us hl => match us, hl with | [_], _ => rfl
  have F26 := fun_mk (st := s_Rack_way_to) l26 c26 k26
  have b26 := F26.binds (ps := ["self", "rows", "most"]) fun _ _ _ _ _ _ us hl => match us, hl with | [_, _, _], _ => rfl
  have F27 := fun_mk (st := s__law_cell_at) l27 c27 k27
  have b27 := F27.binds (ps := ["_law_script", "_law_k"]) fun _ _ _ _ _ _ us hl => match us, hl with | [_, _], _ => rfl
  have F28 := fun_mk (st := s__law_mixed) l28 c28 k28
  have b28 := F28.binds (ps := ["_law_script", "_law_k"]) fun _ _ _ _ _ _ us hl => match us, hl with | [_, _], _ => rfl
  have F29 := fun_mk (st := s__law_counts) l29 c29 k29
  have b29 := F29.binds (ps := ["_law_script", "_law_k", "_law_most"]) fun _ _ _ _ _ _ us hl => match us, hl with | [_, _, _], _ => rfl
  have F30 := fun_mk (st := s__law_product) l30 c30 k30
  have b30 := F30.binds (ps := ["_law_counts_here"]) fun _ _ _ _ _ _ us hl => match us, hl with | [_], _ => rfl
  have F31 := fun_mk (st := s__law_row) l31 c31 k31
  have b31 := F31.binds (ps := ["_law_script", "_law_k", "_law_counts_here"]) fun _ _ _ _ _ _ us hl => match us, hl with | [_, _, _], _ => rfl
  have F32 := fun_mk (st := s__law_word) l32 c32 k32
  have b32 := F32.binds (ps := ["_law_e"]) fun _ _ _ _ _ _ us hl => match us, hl with | [_], _ => rfl
  have F33 := fun_mk (st := s__law_spoilt_counts) l33 c33 k33
  have b33 := F33.binds (ps := ["_law_counts_here", "_law_cell"]) fun _ _ _ _ _ _ us hl => match us, hl with | [_, _], _ => rfl
  have F34 := fun_mk (st := s__law_spoilt_row) l34 c34 k34
  have b34 := F34.binds (ps := ["_law_counts_here", "_law_row_here", "_law_cell"]) fun _ _ _ _ _ _ us hl => match us, hl with | [_, _, _], _ => rfl
  have F35 := fun_mk (st := s__law_asked) l35 c35 k35
  have b35 := F35.binds (ps := ["_law_which", "_law_counts_here", "_law_row_here"]) fun _ _ _ _ _ _ us hl => match us, hl with | [_, _, _], _ => rfl
  have F36 := fun_mk (st := s__law_told) l36 c36 k36
  have b36 := F36.binds (ps := ["_law_which", "_law_counts_here", "_law_row_here"]) fun _ _ _ _ _ _ us hl => match us, hl with | [_, _, _], _ => rfl
  have F37 := fun_mk (st := s__law_numbered) l37 c37 k37
  have b37 := F37.binds (ps := ["_law_counts_here", "_law_row_here", "_law_way_of", "_law_thing"]) fun _ _ _ _ _ _ us hl => match us, hl with | [_, _, _, _], _ => rfl
  have F38 := fun_mk (st := s__law_made) l38 c38 k38
  have b38 := F38.binds (ps := ["_law_chests"]) fun _ _ _ _ _ _ us hl => match us, hl with | [_], _ => rfl
  have F39 := fun_mk (st := s__law_to) l39 c39 k39
  have b39 := F39.binds (ps := ["_law_rack", "_law_goals"]) fun _ _ _ _ _ _ us hl => match us, hl with | [_, _], _ => rfl
  have F40 := fun_mk (st := s_law) l40 c40 k40
  refine ⟨PySem.W.fnOf "law" "law" (defArgs s_law) (defBody s_law) (defScope s_law) .none kV40 dc40 pm40 an40 cd40 ct40, fun s v => .of_eq rfl, fun base _ _ => ?_⟩
  have C_is_whole := ok_is_whole (P := l.prog) (w := w) (base := base) F0 b0 (PySem.W.mg_of X G a0) y_bool y_int y_isinstance
  have C_is_among := ok_is_among (P := l.prog) (w := w) (base := base) F1 b1 (PySem.W.mg_of X G a1) C_is_whole
  have C_need_most := ok_need_most (P := l.prog) (w := w) (base := base) F2 b2 (PySem.W.mg_of X G a2) C_is_among g_MOST_TOLD e_BadNumber
  have C_need_counts := ok_need_counts (P := l.prog) (w := w) (base := base) F3 b3 (PySem.W.mg_of X G a3) C_is_among y_isinstance y_len y_list g_LEAST_COUNT g_MOST_COUNT g_MOST_DRAWERS e_BadChest
  have C_is_row := ok_is_row (P := l.prog) (w := w) (base := base) F4 b4 (PySem.W.mg_of X G a4) C_is_among y_isinstance y_len y_tuple y_zip
  have C_need_row := ok_need_row (P := l.prog) (w := w) (base := base) F5 b5 (PySem.W.mg_of X G a5) C_is_row C_need_counts e_BadRow
  have C_product_of := ok_product_of (P := l.prog) (w := w) (base := base) F6 b6 (PySem.W.mg_of X G a6) 
  have C_number_by := ok_number_by (P := l.prog) (w := w) (base := base) F7 b7 (PySem.W.mg_of X G a7) y_len y_range
  have C_row_by := ok_row_by (P := l.prog) (w := w) (base := base) F8 b8 (PySem.W.mg_of X G a8) y_tuple
  have C_move_between := ok_move_between (P := l.prog) (w := w) (base := base) F9 b9 (PySem.W.mg_of X G a9) y_len y_range
  have C_moves_by := ok_moves_by (P := l.prog) (w := w) (base := base) F10 b10 (PySem.W.mg_of X G a10) C_product_of C_move_between C_row_by C_number_by y_sorted
  have C_moved_by := ok_moved_by (P := l.prog) (w := w) (base := base) F11 b11 (PySem.W.mg_of X G a11) 
  have C_is_move := ok_is_move (P := l.prog) (w := w) (base := base) F12 b12 (PySem.W.mg_of X G a12) C_moves_by C_is_whole y_isinstance y_len y_tuple
  have C_moves_between := ok_moves_between (P := l.prog) (w := w) (base := base) F13 b13 (PySem.W.mg_of X G a13) C_move_between C_row_by C_number_by y_len
  have C_many := ok_many (P := l.prog) (w := w) (base := base) F14 b14 (PySem.W.mg_of X G a14) C_product_of C_need_counts
  have C_number_in := ok_number_in (P := l.prog) (w := w) (base := base) F15 b15 (PySem.W.mg_of X G a15) C_number_by C_need_row
  have C_row_at := ok_row_at (P := l.prog) (w := w) (base := base) F16 b16 (PySem.W.mg_of X G a16) C_row_by C_is_among C_product_of C_need_counts e_BadNumber
  have C_moves := ok_moves (P := l.prog) (w := w) (base := base) F17 b17 (PySem.W.mg_of X G a17) C_moves_by C_need_row
  have C_moved := ok_moved (P := l.prog) (w := w) (base := base) F18 b18 (PySem.W.mg_of X G a18) C_moved_by C_is_move C_need_row e_NoMove
  have C_rows := ok_rows (P := l.prog) (w := w) (base := base) F19 b19 (PySem.W.mg_of X G a19) C_product_of C_row_by C_need_counts y_range g_MOST_ROWS e_TooMany
  have C_way_in := ok_way_in (P := l.prog) (w := w) (base := base) F20 b20 (PySem.W.mg_of X G a20) C_moves_between C_need_most C_need_row
  have C_shown_row := ok_shown_row (P := l.prog) (w := w) (base := base) F21 b21 (PySem.W.mg_of X G a21) C_need_row y_str
  have C_read_row := ok_read_row (P := l.prog) (w := w) (base := base) F22 b22 (PySem.W.mg_of X G a22) C_need_counts y_int y_isinstance y_len y_str y_tuple y_zip g_FIGURES e_NoNote
  have C_Rack_init := ok_Rack_init (P := l.prog) (w := w) (base := base) F23 b23 rc ⟨r_mk, a23, i23, r_kc⟩ r_g C_need_counts y_isinstance y_len y_list g_MOST_CHESTS e_BadChest
  have C_Rack_rows := ok_Rack_rows (P := l.prog) (w := w) (base := base) F24 b24 ⟨a24, i24, k24⟩ r_nm r_cl y_list
  have C_Rack_deeds := ok_Rack_deeds (P := l.prog) (w := w) (base := base) F25 b25 ⟨a25, i25, k25⟩ r_nm r_cl y_list
  have C_Rack_way_to := ok_Rack_way_to (P := l.prog) (w := w) (base := base) F26 b26 ⟨a26, i26, k26⟩ r_nm r_cl C_is_row C_need_most y_isinstance y_len y_list y_zip e_BadRow
  have C__law_cell_at := ok__law_cell_at (P := l.prog) (w := w) (base := base) F27 b27 (PySem.W.mg_of X G a27) y_len
  have C__law_mixed := ok__law_mixed (P := l.prog) (w := w) (base := base) F28 b28 (PySem.W.mg_of X G a28) C__law_cell_at
  have C__law_counts := ok__law_counts (P := l.prog) (w := w) (base := base) F29 b29 (PySem.W.mg_of X G a29) C__law_mixed y_range
  have C__law_product := ok__law_product (P := l.prog) (w := w) (base := base) F30 b30 (PySem.W.mg_of X G a30) 
  have C__law_row := ok__law_row (P := l.prog) (w := w) (base := base) F31 b31 (PySem.W.mg_of X G a31) C__law_mixed y_enumerate y_len y_range y_tuple
  have C__law_word := ok__law_word (P := l.prog) (w := w) (base := base) F32 b32 (PySem.W.mg_of X G a32) y_ValueError y_int y_isinstance y_zip hW
  have C__law_spoilt_counts := ok__law_spoilt_counts (P := l.prog) (w := w) (base := base) F33 b33 (PySem.W.mg_of X G a33) y_len y_tuple
  have C__law_spoilt_row := ok__law_spoilt_row (P := l.prog) (w := w) (base := base) F34 b34 (PySem.W.mg_of X G a34) y_len y_list
  have C__law_asked := ok__law_asked (P := l.prog) (w := w) (base := base) F35 b35 (PySem.W.mg_of X G a35) C_way_in C_shown_row C_moved C_moves C_number_in C_need_row C_read_row C_row_at C_need_counts C_many C_rows
  have C__law_told := ok__law_told (P := l.prog) (w := w) (base := base) F36 b36 (PySem.W.mg_of X G a36) C__law_asked C__law_word gR
  have C__law_numbered := ok__law_numbered (P := l.prog) (w := w) (base := base) F37 b37 (PySem.W.mg_of X G a37) C_row_at C_way_in C_Rack_way_to C_Rack_init C__law_word y_list gR
  have C__law_made := ok__law_made (P := l.prog) (w := w) (base := base) F38 b38 (PySem.W.mg_of X G a38) C_Rack_init C__law_word gR
  have C__law_to := ok__law_to (P := l.prog) (w := w) (base := base) F39 b39 (PySem.W.mg_of X G a39) C_Rack_way_to C__law_word gR
  exact ok_law F40 law_plain C_Rack_rows C_Rack_deeds C__law_to C_Rack_init C__law_made C__law_numbered C__law_product C__law_told C_need_counts C_need_row C__law_mixed C__law_spoilt_row C__law_spoilt_counts C__law_row C__law_counts y_len y_list y_tuple
end Wk
open PySem PySem.W PyProof.Rows
set_option maxRecDepth 100000 in
set_option maxHeartbeats 0 in
theorem PySem.Challenge.cw_ringbar_k16_chests_refused_holds : PySem.Challenge.rw_ringbar_k16_chests_refused.Holds := by
  w_on; o_law; k_head; (case hw => w_witness2)
  k_fill
  refine L2.walk_of (l := PySem.Challenge.rw_ringbar_k16_chests_refused) (n := 63) (k := 8) (x := "_law_script") (CX := fun w => L2N.CX PySem.Challenge.rw_ringbar_k16_chests_refused.prog w) (sp := fun w => DL.spL _) rfl (by decide) rfl ⟨rfl, by decide, by decide⟩ (fun w h Y => PySem.W.kIn_of Y) ?F (fun _ _ a ns hl _ hS => ⟨a, ns, rfl, hS, hl, fun _ => rfl⟩) (fun w H s e s' h => DL.noCX w H s e s' h)
  case F =>
    intro w mg fa h KX G hmg
    refine' Wk.all_mk KX G hmg ?r_nm ?r_pg ?r_hd ?r_po ?r_sa ?r_mk ?r_kc ?r_ha ?r_hn ?r_ht ?r_hm ?r_s0 ?r_s1 ?r_s2 ?r_s3 ?r_s4 ?r_f0 ?r_f1 ?r_f2 ?a0 ?l0 ?c0 ?k0 ?a1 ?l1 ?c1 ?k1 ?a2 ?l2 ?c2 ?k2 ?a3 ?l3 ?c3 ?k3 ?a4 ?l4 ?c4 ?k4 ?a5 ?l5 ?c5 ?k5 ?a6 ?l6 ?c6 ?k6 ?a7 ?l7 ?c7 ?k7 ?a8 ?l8 ?c8 ?k8 ?a9 ?l9 ?c9 ?k9 ?a10 ?l10 ?c10 ?k10 ?a11 ?l11 ?c11 ?k11 ?a12 ?l12 ?c12 ?k12 ?a13 ?l13 ?c13 ?k13 ?a14 ?l14 ?c14 ?k14 ?a15 ?l15 ?c15 ?k15 ?a16 ?l16 ?c16 ?k16 ?a17 ?l17 ?c17 ?k17 ?a18 ?l18 ?c18 ?k18 ?a19 ?l19 ?c19 ?k19 ?a20 ?l20 ?c20 ?k20 ?a21 ?l21 ?c21 ?k21 ?a22 ?l22 ?c22 ?k22 ?a23 ?i23 ?l23 ?c23 ?k23 ?a24 ?i24 ?l24 ?c24 ?k24 ?a25 ?i25 ?l25 ?c25 ?k25 ?a26 ?i26 ?l26 ?c26 ?k26 ?a27 ?l27 ?c27 ?k27 ?a28 ?l28 ?c28 ?k28 ?a29 ?l29 ?c29 ?k29 ?a30 ?l30 ?c30 ?k30 ?a31 ?l31 ?c31 ?k31 ?a32 ?l32 ?c32 ?k32 ?a33 ?l33 ?c33 ?k33 ?a34 ?l34 ?c34 ?k34 ?a35 ?l35 ?c35 ?k35 ?a36 ?l36 ?c36 ?k36 ?a37 ?l37 ?c37 ?k37 ?a38 ?l38 ?c38 ?k38 ?a39 ?l39 ?c39 ?k39 ?a40 ?l40 ?c40 ?k40 ?x1_BadChest ?x2_BadChest ?x3_BadChest ?x4_BadChest ?x5_BadChest ?x1_BadNumber ?x2_BadNumber ?x3_BadNumber ?x4_BadNumber ?x5_BadNumber ?x1_BadRow ?x2_BadRow ?x3_BadRow ?x4_BadRow ?x5_BadRow ?x1_NoMove ?x2_NoMove ?x3_NoMove ?x4_NoMove ?x5_NoMove ?x1_NoNote ?x2_NoNote ?x3_NoNote ?x4_NoNote ?x5_NoNote ?x1_TooMany ?x2_TooMany ?x3_TooMany ?x4_TooMany ?x5_TooMany ?x1_BadBar ?x5_BadBar ?s4_BadBar ?x1_BadSetting ?x5_BadSetting ?s4_BadSetting ?s4_BadChest ?s4_BadRow ?s4_BadNumber ?s4_NoMove ?s4_TooMany ?s4_NoNote ?x1_R ?s3_R ?s4_R ?x5_R ?s_n ?s_t ?s1_BadChest ?s2_BadChest ?s3_BadChest ?s5_BadChest ?s6_BadChest ?s7_BadChest ?s8_BadChest ?i_BadChest_BadBar ?i_BadChest_BadSetting ?i_BadChest_BadChest ?i_BadChest_BadRow ?i_BadChest_BadNumber ?i_BadChest_NoMove ?i_BadChest_TooMany ?i_BadChest_NoNote ?s1_BadRow ?s2_BadRow ?s3_BadRow ?s5_BadRow ?s6_BadRow ?s7_BadRow ?s8_BadRow ?i_BadRow_BadBar ?i_BadRow_BadSetting ?i_BadRow_BadChest ?i_BadRow_BadRow ?i_BadRow_BadNumber ?i_BadRow_NoMove ?i_BadRow_TooMany ?i_BadRow_NoNote ?s1_BadNumber ?s2_BadNumber ?s3_BadNumber ?s5_BadNumber ?s6_BadNumber ?s7_BadNumber ?s8_BadNumber ?i_BadNumber_BadBar ?i_BadNumber_BadSetting ?i_BadNumber_BadChest ?i_BadNumber_BadRow ?i_BadNumber_BadNumber ?i_BadNumber_NoMove ?i_BadNumber_TooMany ?i_BadNumber_NoNote ?z_ValueError ?z_bool ?z_enumerate ?z_int ?z_isinstance ?z_len ?z_list ?z_range ?z_sorted ?z_str ?z_tuple ?z_zip ?q_MOST_TOLD ?q_LEAST_COUNT ?q_MOST_COUNT ?q_MOST_DRAWERS ?q_MOST_ROWS ?q_FIGURES ?q_MOST_CHESTS
    (case r_nm => k_is)
    (case r_pg => k_is)
    (case r_hd => k_is)
    (case r_po => k_is)
    (case r_sa => k_is)
    (case r_mk => k_is)
    (case r_kc => k_is)
    (case r_ha => k_is)
    (case r_hn => k_is)
    (case r_ht => k_is)
    (case r_hm => k_is)
    (case r_s0 => k_is)
    (case r_s1 => k_is)
    (case r_s2 => k_is)
    (case r_s3 => k_is)
    (case r_s4 => k_is)
    (case r_f0 => k_is)
    (case r_f1 => k_is)
    (case r_f2 => k_is)
    (case a0 => k_is)
    (case l0 => k_is)
    (case c0 => k_is)
    (case k0 => k_is)
    (case a1 => k_is)
    (case l1 => k_is)
    (case c1 => k_is)
    (case k1 => k_is)
    (case a2 => k_is)
    (case l2 => k_is)
    (case c2 => k_is)
    (case k2 => k_is)
    (case a3 => k_is)
    (case l3 => k_is)
    (case c3 => k_is)
    (case k3 => k_is)
    (case a4 => k_is)
    (case l4 => k_is)
    (case c4 => k_is)
    (case k4 => k_is)
    (case a5 => k_is)
    (case l5 => k_is)
    (case c5 => k_is)
    (case k5 => k_is)
    (case a6 => k_is)
    (case l6 => k_is)
    (case c6 => k_is)
    (case k6 => k_is)
    (case a7 => k_is)
    (case l7 => k_is)
    (case c7 => k_is)
    (case k7 => k_is)
    (case a8 => k_is)
    (case l8 => k_is)
    (case c8 => k_is)
    (case k8 => k_is)
    (case a9 => k_is)
    (case l9 => k_is)
    (case c9 => k_is)
    (case k9 => k_is)
    (case a10 => k_is)
    (case l10 => k_is)
    (case c10 => k_is)
    (case k10 => k_is)
    (case a11 => k_is)
    (case l11 => k_is)
    (case c11 => k_is)
    (case k11 => k_is)
    (case a12 => k_is)
    (case l12 => k_is)
    (case c12 => k_is)
    (case k12 => k_is)
    (case a13 => k_is)
    (case l13 => k_is)
    (case c13 => k_is)
    (case k13 => k_is)
    (case a14 => k_is)
    (case l14 => k_is)
    (case c14 => k_is)
    (case k14 => k_is)
    (case a15 => k_is)
    (case l15 => k_is)
    (case c15 => k_is)
    (case k15 => k_is)
    (case a16 => k_is)
    (case l16 => k_is)
    (case c16 => k_is)
    (case k16 => k_is)
    (case a17 => k_is)
    (case l17 => k_is)
    (case c17 => k_is)
    (case k17 => k_is)
    (case a18 => k_is)
    (case l18 => k_is)
    (case c18 => k_is)
    (case k18 => k_is)
    (case a19 => k_is)
    (case l19 => k_is)
    (case c19 => k_is)
    (case k19 => k_is)
    (case a20 => k_is)
    (case l20 => k_is)
    (case c20 => k_is)
    (case k20 => k_is)
    (case a21 => k_is)
    (case l21 => k_is)
    (case c21 => k_is)
    (case k21 => k_is)
    (case a22 => k_is)
    (case l22 => k_is)
    (case c22 => k_is)
    (case k22 => k_is)
    (case a23 => k_is)
    (case i23 => k_is)
    (case l23 => k_is)
    (case c23 => k_is)
    (case k23 => k_is)
    (case a24 => k_is)
    (case i24 => k_is)
    (case l24 => k_is)
    (case c24 => k_is)
    (case k24 => k_is)
    (case a25 => k_is)
    (case i25 => k_is)
    (case l25 => k_is)
    (case c25 => k_is)
    (case k25 => k_is)
    (case a26 => k_is)
    (case i26 => k_is)
    (case l26 => k_is)
    (case c26 => k_is)
    (case k26 => k_is)
    (case a27 => k_is)
    (case l27 => k_is)
    (case c27 => k_is)
    (case k27 => k_is)
    (case a28 => k_is)
    (case l28 => k_is)
    (case c28 => k_is)
    (case k28 => k_is)
    (case a29 => k_is)
    (case l29 => k_is)
    (case c29 => k_is)
    (case k29 => k_is)
    (case a30 => k_is)
    (case l30 => k_is)
    (case c30 => k_is)
    (case k30 => k_is)
    (case a31 => k_is)
    (case l31 => k_is)
    (case c31 => k_is)
    (case k31 => k_is)
    (case a32 => k_is)
    (case l32 => k_is)
    (case c32 => k_is)
    (case k32 => k_is)
    (case a33 => k_is)
    (case l33 => k_is)
    (case c33 => k_is)
    (case k33 => k_is)
    (case a34 => k_is)
    (case l34 => k_is)
    (case c34 => k_is)
    (case k34 => k_is)
    (case a35 => k_is)
    (case l35 => k_is)
    (case c35 => k_is)
    (case k35 => k_is)
    (case a36 => k_is)
    (case l36 => k_is)
    (case c36 => k_is)
    (case k36 => k_is)
    (case a37 => k_is)
    (case l37 => k_is)
    (case c37 => k_is)
    (case k37 => k_is)
    (case a38 => k_is)
    (case l38 => k_is)
    (case c38 => k_is)
    (case k38 => k_is)
    (case a39 => k_is)
    (case l39 => k_is)
    (case c39 => k_is)
    (case k39 => k_is)
    (case a40 => k_is)
    (case l40 => k_is)
    (case c40 => k_is)
    (case k40 => k_is)
    (case x1_BadChest => k_is)
    (case x2_BadChest => k_exc)
    (case x3_BadChest => k_is)
    (case x4_BadChest => k_is)
    (case x5_BadChest => k_is)
    (case x1_BadNumber => k_is)
    (case x2_BadNumber => k_exc)
    (case x3_BadNumber => k_is)
    (case x4_BadNumber => k_is)
    (case x5_BadNumber => k_is)
    (case x1_BadRow => k_is)
    (case x2_BadRow => k_exc)
    (case x3_BadRow => k_is)
    (case x4_BadRow => k_is)
    (case x5_BadRow => k_is)
    (case x1_NoMove => k_is)
    (case x2_NoMove => k_exc)
    (case x3_NoMove => k_is)
    (case x4_NoMove => k_is)
    (case x5_NoMove => k_is)
    (case x1_NoNote => k_is)
    (case x2_NoNote => k_exc)
    (case x3_NoNote => k_is)
    (case x4_NoNote => k_is)
    (case x5_NoNote => k_is)
    (case x1_TooMany => k_is)
    (case x2_TooMany => k_exc)
    (case x3_TooMany => k_is)
    (case x4_TooMany => k_is)
    (case x5_TooMany => k_is)
    (case x1_BadBar => k_is)
    (case x5_BadBar => k_is)
    (case s4_BadBar => k_is)
    (case x1_BadSetting => k_is)
    (case x5_BadSetting => k_is)
    (case s4_BadSetting => k_is)
    (case s4_BadChest => k_is)
    (case s4_BadRow => k_is)
    (case s4_BadNumber => k_is)
    (case s4_NoMove => k_is)
    (case s4_TooMany => k_is)
    (case s4_NoNote => k_is)
    (case x1_R => k_is)
    (case s3_R => k_is)
    (case s4_R => k_is)
    (case x5_R => k_is)
    (case s_n => k_is)
    (case s_t => k_is)
    (case s1_BadChest => k_is)
    (case s2_BadChest => k_is)
    (case s3_BadChest => k_is)
    (case s5_BadChest => k_is)
    (case s6_BadChest => k_is)
    (case s7_BadChest => k_is)
    (case s8_BadChest => k_is)
    (case i_BadChest_BadBar => k_is)
    (case i_BadChest_BadSetting => k_is)
    (case i_BadChest_BadChest => k_is)
    (case i_BadChest_BadRow => k_is)
    (case i_BadChest_BadNumber => k_is)
    (case i_BadChest_NoMove => k_is)
    (case i_BadChest_TooMany => k_is)
    (case i_BadChest_NoNote => k_is)
    (case s1_BadRow => k_is)
    (case s2_BadRow => k_is)
    (case s3_BadRow => k_is)
    (case s5_BadRow => k_is)
    (case s6_BadRow => k_is)
    (case s7_BadRow => k_is)
    (case s8_BadRow => k_is)
    (case i_BadRow_BadBar => k_is)
    (case i_BadRow_BadSetting => k_is)
    (case i_BadRow_BadChest => k_is)
    (case i_BadRow_BadRow => k_is)
    (case i_BadRow_BadNumber => k_is)
    (case i_BadRow_NoMove => k_is)
    (case i_BadRow_TooMany => k_is)
    (case i_BadRow_NoNote => k_is)
    (case s1_BadNumber => k_is)
    (case s2_BadNumber => k_is)
    (case s3_BadNumber => k_is)
    (case s5_BadNumber => k_is)
    (case s6_BadNumber => k_is)
    (case s7_BadNumber => k_is)
    (case s8_BadNumber => k_is)
    (case i_BadNumber_BadBar => k_is)
    (case i_BadNumber_BadSetting => k_is)
    (case i_BadNumber_BadChest => k_is)
    (case i_BadNumber_BadRow => k_is)
    (case i_BadNumber_BadNumber => k_is)
    (case i_BadNumber_NoMove => k_is)
    (case i_BadNumber_TooMany => k_is)
    (case i_BadNumber_NoNote => k_is)
    (case z_ValueError => k_is)
    (case z_bool => k_is)
    (case z_enumerate => k_is)
    (case z_int => k_is)
    (case z_isinstance => k_is)
    (case z_len => k_is)
    (case z_list => k_is)
    (case z_range => k_is)
    (case z_sorted => k_is)
    (case z_str => k_is)
    (case z_tuple => k_is)
    (case z_zip => k_is)
    (case q_MOST_TOLD => k_is)
    (case q_LEAST_COUNT => k_is)
    (case q_MOST_COUNT => k_is)
    (case q_MOST_DRAWERS => k_is)
    (case q_MOST_ROWS => k_is)
    (case q_FIGURES => k_is)
    (case q_MOST_CHESTS => k_is)
