import PyProof.Rows.All
import Wide.All
import OpenK.AllK
import Wide.FinOn
import HandS.ForMost
import HandS.ForExc
import HandS.Flow
import HandS.WideBits
import HandS.Head2
import HandS.HeadEnd
import HandS.Defaults
import HandS.EndBits
import KE.DataIsa
import KE.DataAny
import KE.DataMinMax
import KE.SortData
import KE.DataCmp
import PyProof.ReprRoads
import HandS.TupMul
import HandS.TupAny
import HandS.Dict
import HandS.TupLe
import HandS.Deep
import HandS.Iter
import KE.GoesEnumKw
import HandS.Zip
import HandS.SortKw
import KE.GoesMore
import PyProof.EnumMake
import PyProof.Draws
import PyProof.SeqIndex
import HandS.Strs
import HandS.Style
import HandS.Conv
import HandS.Star
import HandS.WideMore
import KE.SortKeyHeap
import HandS.Keys
import HandS.HeadHook1
import HandS.HeadHook2
import HandS.Text
import KE.OsArith
import KE.KStateDown
import HandS.Base
import HandS.Call
import HandS.Ends
import HandS.More
import HandS.Words
import HandS.WordsExc
import HandS.Head0
import HandS.Head1
import PySem.Challenge.RW_endlesscodes_k71_whole_numbers_of_codes
set_option Elab.async false
set_option linter.all false
set_option maxRecDepth 100000
set_option maxHeartbeats 2000000
/-! D0: data read off a part G of the abstract heap, slots, the frame of a def's own lists. -/
namespace DL
open PySem PySem.Spec PyProof.Rows L2

/-- G is a part of H -/
def Sub (G H : Hp) : Prop := ∀ a o, G a = some o → H a = some o
theorem Sub.refl (H : Hp) : Sub H H := fun _ _ h => h
theorem Sub.trans {G H I : Hp} (a : Sub G H) (b : Sub H I) : Sub G I := fun x o h => b x o (a x o h)
theorem Sub.nw {G : Hp} {p : Addr} {o : HO} (h : G p = none) : Sub G (upd G p o) := fun a u e => by
  rw [upd_ne (ne_of_none e h)]; exact e
theorem Sub.up2 {G H : Hp} {p : Addr} {o : HO} (s : Sub G H) : Sub (upd G p o) (upd H p o) := fun a u e => by
  by_cases h : a = p
  · subst h; rw [upd_same] at e ⊢; exact e
  · rw [upd_ne h] at e ⊢; exact s a u e
theorem Sub.upr {G H : Hp} {p : Addr} {o : HO} (s : Sub G H) (h : G p = none) : Sub G (upd H p o) := fun a u e => by
  rw [upd_ne (ne_of_none e h)]; exact s a u e

/-- a key as data -/
def kD : Key → PyData
  | .inl i => .int i
  | .inr x => .str x
/-- the object o at a is a dict whose entries are ps (keys and values) -/
def DO (o : HO) (ps : List (PyData × V)) : Prop := ∃ kvs : List (Key × V), o = .dK kvs ∧ ps = kvs.map fun p => (kD p.1, p.2)

mutual
/-- what a value is, read off G -/
inductive R (K : PySem.W.Frag) (G : Hp) : V → PyData → Prop
  | non : R K G .non .none
  | bl (b : Bool) : R K G (.bl b) (.bool b)
  | int (i : Int) : R K G (.int i) (.int i)
  | str (x : Str) : R K G (.str x) (.str x)
  | lst {a : Addr} {xs : List V} {ds : List PyData} : G a = some (.lst xs) → RAll K G xs ds → R K G (.ref a) (.list ds)
  | tup {a : Addr} {o : Obj} {xs : List V} {ds : List PyData} : G a = some (.frz o (.tup xs)) → o.dict = none → RAll K G xs ds → R K G (.ref a) (.tuple ds)
  | dic {a : Addr} {o : HO} {ps : List (PyData × V)} {kvs : List (PyData × PyData)} : Rd G a o → DO o ps → RKV K G ps kvs → R K G (.ref a) (.dict kvs)
inductive RAll (K : PySem.W.Frag) (G : Hp) : List V → List PyData → Prop
  | nil : RAll K G [] []
  | cons {v : V} {vs : List V} {d : PyData} {ds : List PyData} : R K G v d → RAll K G vs ds → RAll K G (v :: vs) (d :: ds)
inductive RKV (K : PySem.W.Frag) (G : Hp) : List (PyData × V) → List (PyData × PyData) → Prop
  | nil : RKV K G [] []
  | cons {k : PyData} {v : V} {ps : List (PyData × V)} {y : PyData} {kvs : List (PyData × PyData)} : R K G v y → RKV K G ps kvs → RKV K G ((k, v) :: ps) ((k, y) :: kvs)
end

section
variable {K : PySem.W.Frag} {G G' H : Hp}
theorem Sub.rd (s : Sub G G') {a : Addr} {u : HO} (h : Rd G a u) : Rd G' a u := by
  rcases h with h | ⟨o, h⟩
  · exact .inl (s _ _ h)
  · exact .inr ⟨o, s _ _ h⟩
theorem Sub.l (s : Sub G G') {a : Addr} {xs : List V} (h : SqL K G a xs) : SqL K G' a xs := h.imp s.rd _root_.id
theorem Sub.t (s : Sub G G') {a : Addr} {xs : List V} (h : SqT K G a xs) : SqT K G' a xs := h.imp s.rd _root_.id
mutual
theorem R.mono (s : Sub G G') : ∀ {v : V} {d : PyData}, R K G v d → R K G' v d
  | _, _, .non => .non
  | _, _, .bl b => .bl b
  | _, _, .int i => .int i
  | _, _, .str x => .str x
  | _, _, .lst h r => .lst (s _ _ h) (RAll.mono s r)
  | _, _, .tup h hd r => .tup (s _ _ h) hd (RAll.mono s r)
  | _, _, .dic h o r => .dic (s.rd h) o (RKV.mono s r)
theorem RAll.mono (s : Sub G G') : ∀ {vs : List V} {ds : List PyData}, RAll K G vs ds → RAll K G' vs ds
  | _, _, .nil => .nil
  | _, _, .cons h t => .cons (R.mono s h) (RAll.mono s t)
theorem RKV.mono (s : Sub G G') : ∀ {vs : List (PyData × V)} {ds : List (PyData × PyData)}, RKV K G vs ds → RKV K G' vs ds
  | _, _, .nil => .nil
  | _, _, .cons g t => .cons (R.mono s g) (RKV.mono s t)
end
theorem RAll.length : ∀ {vs : List V} {ds : List PyData}, RAll K G vs ds → vs.length = ds.length
  | _, _, .nil => rfl
  | _, _, .cons _ t => by rw [List.length_cons, List.length_cons, RAll.length t]
theorem RAll.get : ∀ {vs : List V} {ds : List PyData}, RAll K G vs ds → ∀ (i : Nat) {d : PyData}, ds[i]? = some d → ∃ v, vs[i]? = some v ∧ R K G v d
  | _, _, .nil, i, d, e => by simp at e
  | _, _, .cons h t, 0, d, e => by simp at e; subst e; exact ⟨_, rfl, h⟩
  | _, _, .cons h t, i + 1, d, e => by
    obtain ⟨v, e', r⟩ := RAll.get t i (d := d) (by simpa using e)
    exact ⟨v, by simpa using e', r⟩
theorem RAll.getV : ∀ {vs : List V} {ds : List PyData}, RAll K G vs ds → ∀ (i : Nat) {v : V}, vs[i]? = some v → ∃ d, ds[i]? = some d ∧ R K G v d
  | _, _, .nil, i, d, e => by simp at e
  | _, _, .cons h t, 0, d, e => by simp at e; subst e; exact ⟨_, rfl, h⟩
  | _, _, .cons h t, i + 1, d, e => by
    obtain ⟨v, e', r⟩ := RAll.getV t i (v := d) (by simpa using e)
    exact ⟨v, by simpa using e', r⟩
theorem RAll.append : ∀ {vs ws : List V} {ds es : List PyData}, RAll K G vs ds → RAll K G ws es → RAll K G (vs ++ ws) (ds ++ es)
  | _, _, _, _, .nil, r => r
  | _, _, _, _, .cons h t, r => .cons h (RAll.append t r)
theorem RAll.one {v : V} {d : PyData} (h : R K G v d) : RAll K G [v] [d] := .cons h .nil
theorem RAll.take : ∀ {vs : List V} {ds : List PyData} (n : Nat), RAll K G vs ds → RAll K G (vs.take n) (ds.take n)
  | _, _, 0, _ => by simp; exact .nil
  | _, _, n + 1, .nil => by simp; exact .nil
  | _, _, n + 1, .cons h t => by simp; exact .cons h (RAll.take n t)
theorem RAll.drop : ∀ {vs : List V} {ds : List PyData} (n : Nat), RAll K G vs ds → RAll K G (vs.drop n) (ds.drop n)
  | _, _, 0, r => by simpa using r
  | _, _, n + 1, .nil => by simp; exact .nil
  | _, _, n + 1, .cons h t => by simpa using RAll.drop n t
theorem RAll.erase : ∀ {vs : List V} {ds : List PyData} (n : Nat), RAll K G vs ds → RAll K G (vs.eraseIdx n) (ds.eraseIdx n)
  | _, _, _, .nil => by simp; exact .nil
  | _, _, 0, .cons h t => by simpa using t
  | _, _, n + 1, .cons h t => by simp; exact .cons h (RAll.erase n t)
theorem RAll.set {v : V} {d : PyData} (r : R K G v d) : ∀ {vs : List V} {ds : List PyData} (n : Nat), RAll K G vs ds → RAll K G (vs.set n v) (ds.set n d)
  | _, _, _, .nil => by simp; exact .nil
  | _, _, 0, .cons h t => by simp; exact .cons r t
  | _, _, n + 1, .cons h t => by simp; exact .cons h (RAll.set r n t)
theorem RAll.reverse : ∀ {vs : List V} {ds : List PyData}, RAll K G vs ds → RAll K G vs.reverse ds.reverse
  | _, _, .nil => by simp; exact .nil
  | _, _, .cons h t => by simp; exact (RAll.reverse t).append (.one h)
theorem RAll.rep {v : V} {d : PyData} (r : R K G v d) : ∀ n : Nat, RAll K G (List.replicate n v) (List.replicate n d)
  | 0 => .nil
  | n + 1 => by rw [List.replicate_succ, List.replicate_succ]; exact .cons r (RAll.rep r n)
theorem RAll.reps {vs : List V} {ds : List PyData} (r : RAll K G vs ds) : ∀ n : Nat, RAll K G (List.replicate n vs).flatten (List.replicate n ds).flatten
  | 0 => .nil
  | n + 1 => by rw [List.replicate_succ, List.replicate_succ, List.flatten_cons, List.flatten_cons]; exact r.append (RAll.reps r n)
theorem RAll.ints : ∀ {vs : List V} {ns : List Int}, RAll K G vs (ns.map PyData.int) → vs = ns.map V.int
  | _, [], .nil => rfl
  | _, n :: ns, .cons (.int _) t => by rw [RAll.ints t]; rfl
theorem RAll.of_ints : ∀ {ns : List Int}, RAll K G (ns.map V.int) (ns.map PyData.int)
  | [] => .nil
  | n :: ns => .cons (.int n) RAll.of_ints
theorem RAll.bools : ∀ {vs : List V} {ns : List Bool}, RAll K G vs (ns.map PyData.bool) → vs = ns.map V.bl
  | _, [], .nil => rfl
  | _, n :: ns, .cons (.bl _) t => by rw [RAll.bools t]; rfl

/-! no dict within -/
mutual
theorem R.dp (s : Sub G H) : ∀ {v : V} {d : PyData}, R K G v d → d.hasDict = false → Dp K H v d
  | _, _, .non, _ => .non
  | _, _, .bl b, _ => .bl b
  | _, _, .int i, _ => .int i
  | _, _, .str x, _ => .str x
  | _, _, .lst h r, e => .lst (SqL.of (s _ _ h)) (RAll.dp s r (by simpa [PyData.hasDict] using e))
  | _, _, .tup (o := o) h _ r, e => .tup (.inl (.inr ⟨o, s _ _ h⟩)) (RAll.dp s r (by simpa [PyData.hasDict] using e))
  | _, _, .dic _ _ _, e => by simp [PyData.hasDict] at e
theorem RAll.dp (s : Sub G H) : ∀ {vs : List V} {ds : List PyData}, RAll K G vs ds → PyData.hasDictAll ds = false → DpAll K H vs ds
  | _, _, .nil, _ => .nil
  | _, _, .cons h t, e => by
    simp only [PyData.hasDictAll, Bool.or_eq_false_iff] at e
    exact .cons (R.dp s h e.1) (RAll.dp s t e.2)
end
end

/-! ### what a list or dict may be owned -/
/-- at v a list or dict of one's own, not of G, its parts read off G -/
def Own (K : PySem.W.Frag) (G H : Hp) (v : V) : PyData → Prop
  | .list ds => ∃ a xs, v = .ref a ∧ H a = some (.lst xs) ∧ G a = none ∧ RAll K G xs ds
  | .dict kvs => ∃ a o ps, v = .ref a ∧ H a = some o ∧ DO o ps ∧ G a = none ∧ RKV K G ps kvs
  | _ => False
theorem Own.at {K : PySem.W.Frag} {G H : Hp} {v : V} {d : PyData} (h : Own K G H v d) : ∃ a o, v = .ref a ∧ H a = some o ∧ G a = none ∧ ∀ G', Sub G G' → G' a = some o → R K G' v d := by
  cases d with
  | list ds =>
    obtain ⟨a, xs, e, h1, h2, r⟩ := h
    subst e
    exact ⟨a, _, rfl, h1, h2, fun G' s g => .lst g (r.mono s)⟩
  | dict kvs =>
    obtain ⟨a, o, ps, e, h1, h3, h2, r⟩ := h
    subst e
    exact ⟨a, _, rfl, h1, h2, fun G' s g => .dic (.of g) h3 (r.mono s)⟩
  | none => cases h
  | bool b => cases h
  | int i => cases h
  | str x => cases h
  | tuple xs => cases h
theorem Own.move {K : PySem.W.Frag} {G H G' H' : Hp} {v : V} {d : PyData} (h : Own K G H v d) (s : Sub G G') (k : ∀ a o, v = .ref a → H a = some o → H' a = some o) (g : ∀ a, v = .ref a → G a = none → G' a = none) : Own K G' H' v d := by
  cases d with
  | list ds =>
    obtain ⟨a, xs, e, h1, h2, r⟩ := h
    exact ⟨a, xs, e, k _ _ e h1, g _ e h2, r.mono s⟩
  | dict kvs =>
    obtain ⟨a, o, ps, e, h1, h3, h2, r⟩ := h
    exact ⟨a, o, ps, e, k _ _ e h1, h3, g _ e h2, r.mono s⟩
  | none => cases h
  | bool b => cases h
  | int i => cases h
  | str x => cases h
  | tuple xs => cases h

/-! ### the source of picks -/
abbrev Sx := Option (Addr × Addr)
def kCells : Key := .inr (Str.ofString "cells")
def kLeft : Key := .inr (Str.ofString "left")
def kMixed : Key := .inr (Str.ofString "mixed")
def kTurn : Key := .inr (Str.ofString "turn")
def SrcAt (H : Hp) (sa ca : Addr) : Prop := sa ≠ ca ∧ ∃ (ns : List Int) (l m t : Int), H sa = some (.dK [(kCells, .ref ca), (kLeft, .int l), (kMixed, .int m), (kTurn, .int t)]) ∧ H ca = some (.lst (ns.map V.int)) ∧
  (∀ n ∈ ns, 0 ≤ n) ∧ 0 ≤ l ∧ 0 ≤ m ∧ m < 2147483647 ∧ 0 ≤ t ∧ ns.length ≤ 63
def SrcOk (S : Sx) (G H : Hp) : Prop := ∀ sa ca, S = some (sa, ca) → G sa = none ∧ G ca = none ∧ SrcAt H sa ca
def nsrc (S : Sx) (a : Addr) : Prop := ∀ sa ca, S = some (sa, ca) → a ≠ sa ∧ a ≠ ca
theorem nsrc_none {a : Addr} : nsrc none a := fun _ _ e => nomatch e
theorem SrcOk.no {G H : Hp} : SrcOk none G H := fun _ _ e => nomatch e
theorem SrcOk.isSome {S : Sx} {G H : Hp} (h : SrcOk S G H) {a : Addr} (n : ¬ nsrc S a) : (H a).isSome = true ∧ G a = none := by
  cases S with
  | none => exact absurd nsrc_none n
  | some p =>
    obtain ⟨sa, ca⟩ := p
    obtain ⟨g1, g2, _, ns, l, m, t, h1, h2, _⟩ := h sa ca rfl
    by_cases e1 : a = sa
    · subst e1; exact ⟨by rw [h1]; rfl, g1⟩
    · by_cases e2 : a = ca
      · subst e2; exact ⟨by rw [h2]; rfl, g2⟩
      · exact absurd (fun sa' ca' e => by cases e; exact ⟨e1, e2⟩) n
theorem SrcOk.keep {S : Sx} {G H G' H' : Hp} (h : SrcOk S G H) (k : ∀ a o, H a = some o → H' a = some o) (g : ∀ a, (H a).isSome = true → G' a = G a) : SrcOk S G' H' := fun sa ca e => by
  obtain ⟨g1, g2, ne, ns, l, m, t, h1, h2, r⟩ := h sa ca e
  exact ⟨by rw [g _ (by rw [h1]; rfl)]; exact g1, by rw [g _ (by rw [h2]; rfl)]; exact g2, ne, ns, l, m, t, k _ _ h1, k _ _ h2, r⟩

/-- from (G, H) on to (G', H'): what was there stands, but for the source; what is new in G' is new -/
structure Ext (S : Sx) (G H G' H' : Hp) : Prop where
  gg : Sub G G'
  gh : Sub G' H'
  kp : ∀ a o, H a = some o → nsrc S a → H' a = some o
  nw : ∀ a, (H a).isSome = true → G' a = G a
  src : SrcOk S G' H'
section
variable {S : Sx} {G H G' H' G'' H'' : Hp}
theorem Ext.refl (s : Sub G H) (h : SrcOk S G H) : Ext S G H G H := ⟨.refl G, s, fun _ _ e _ => e, fun _ _ => rfl, h⟩
theorem Ext.some (x : Ext S G H G' H') (h : SrcOk S G H) {a : Addr} (e : (H a).isSome = true) : (H' a).isSome = true := by
  by_cases n : nsrc S a
  · obtain ⟨o, q⟩ := Option.isSome_iff_exists.mp e
    rw [x.kp a o q n]; rfl
  · exact (x.src.isSome n).1
theorem Ext.trans (x : Ext S G H G' H') (h : SrcOk S G H) (y : Ext S G' H' G'' H'') : Ext S G H G'' H'' :=
  ⟨x.gg.trans y.gg, y.gh, fun a o e n => y.kp a o (x.kp a o e n) n, fun a e => (y.nw a (x.some h e)).trans (x.nw a e), y.src⟩
theorem Ext.fresh (x : Ext S G H G' H') (h : SrcOk S G H) {a : Addr} (e : H' a = none) : H a = none := by
  cases q : H a with
  | none => rfl
  | some o => have z := x.some h (a := a) (by rw [q]; rfl); rw [e] at z; cases z
/-- a new object, to be read -/
theorem Ext.new (s : Sub G H) (h : SrcOk S G H) {p : Addr} {o : HO} (n : H p = none) : Ext S G H (upd G p o) (upd H p o) := by
  have gn : G p = none := by
    cases q : G p with
    | none => rfl
    | some u => rw [s _ _ q] at n; cases n
  refine ⟨.nw gn, .up2 s, fun a u e _ => by rw [upd_ne (ne_of_none e n)]; exact e, fun a e => ?_, h.keep (fun a u e => by rw [upd_ne (ne_of_none e n)]; exact e) fun a e => ?_⟩
  all_goals
    have : a ≠ p := by rintro rfl; rw [n] at e; cases e
    rw [upd_ne this]
/-- a new object of one's own -/
theorem Ext.newO (s : Sub G H) (h : SrcOk S G H) {p : Addr} {o : HO} (n : H p = none) : Ext S G H G (upd H p o) := by
  have gn : G p = none := by
    cases q : G p with
    | none => rfl
    | some u => rw [s _ _ q] at n; cases n
  exact ⟨.refl G, s.upr gn, fun a u e _ => by rw [upd_ne (ne_of_none e n)]; exact e, fun a e => rfl, h.keep (fun a u e => by rw [upd_ne (ne_of_none e n)]; exact e) fun a e => rfl⟩
/-- what is new is put to what is read -/
theorem Ext.freeze (x : Ext S G H G' H') (h : SrcOk S G H) {a : Addr} {o : HO} (n : H a = none) (e : H' a = Option.some o) (g : G' a = none) : Ext S G H (upd G' a o) H' := by
  refine ⟨x.gg.trans (.nw g), fun b u q => ?_, x.kp, fun b q => ?_, fun sa ca z => ?_⟩
  · by_cases hb : b = a
    · subst hb; rw [upd_same] at q; rw [e]; exact q
    · rw [upd_ne hb] at q; exact x.gh b u q
  · rw [upd_ne (by rintro rfl; rw [n] at q; cases q)]; exact x.nw b q
  · obtain ⟨g1, g2, w⟩ := x.src sa ca z
    obtain ⟨_, _, w2⟩ := h sa ca z
    obtain ⟨ne, ns, l, m, t, h1, h2, _⟩ := w2
    exact ⟨by rw [upd_ne (ne_of_none h1 n)]; exact g1, by rw [upd_ne (ne_of_none h2 n)]; exact g2, w⟩
end

/-! ### slots -/
inductive Sl where
  | un | sh (d : PyData) | ow (d : PyData) | src
abbrev Env := List Sl
def SlotE (K : PySem.W.Frag) (G : Hp) (S : Sx) (x : Option (Option V)) : Sl → Prop
  | .un => True
  | .sh d => ∃ v, x = some (some v) ∧ R K G v d
  | .ow d => ∃ v, x = some (some v) ∧ R K G v d
  | .src => ∃ sa ca, S = some (sa, ca) ∧ x = some (some (.ref sa))
/-- the slots that an expression names, as it reads them -/
structure StE (K : PySem.W.Frag) (S : Sx) (G H : Hp) (σ : L2.St) (env : Env) (vs : List Nat) : Prop where
  sub : Sub G H
  src : SrcOk S G H
  at_ : ∀ i ∈ vs, ∀ s, env[i]? = some s → SlotE K G S σ[i]? s
  len : σ.length = env.length
theorem SlotE.mono {K : PySem.W.Frag} {G G' : Hp} {S : Sx} {x : Option (Option V)} (s : Sub G G') : ∀ {l : Sl}, SlotE K G S x l → SlotE K G' S x l
  | .un, _ => trivial
  | .sh _, ⟨v, e, r⟩ => ⟨v, e, r.mono s⟩
  | .ow _, ⟨v, e, r⟩ => ⟨v, e, r.mono s⟩
  | .src, h => h
section
variable {K : PySem.W.Frag} {S : Sx} {G H G' H' : Hp} {σ : L2.St} {env : Env} {vs ws : List Nat}
theorem StE.ext (h : StE K S G H σ env vs) (x : Ext S G H G' H') : StE K S G' H' σ env vs := ⟨x.gh, x.src, fun i hi s e => (h.at_ i hi s e).mono x.gg, h.len⟩
theorem StE.less (h : StE K S G H σ env vs) (k : ∀ i ∈ ws, i ∈ vs) : StE K S G H σ env ws := ⟨h.sub, h.src, fun i hi => h.at_ i (k i hi), h.len⟩
theorem StE.refl (h : StE K S G H σ env vs) : Ext S G H G H := .refl h.sub h.src
end

/-- what an expression gives: a part fr tells whether it is new and of nobody else's -/
def RF (K : PySem.W.Frag) (G' H H' : Hp) (fr : Bool) (v : V) (d : PyData) : Prop :=
  if fr = true then Own K G' H' v d ∧ (∀ a, v = .ref a → H a = none) else R K G' v d
def Post (K : PySem.W.Frag) (S : Sx) (G H : Hp) (Q : Bool → PyData → Prop) (v : V) (H' : Hp) : Prop :=
  ∃ G' fr d, Ext S G H G' H' ∧ RF K G' H H' fr v d ∧ Q fr d
section
variable {K : PySem.W.Frag} {S : Sx} {G H G1 H1 G' H' : Hp} {Q Q' : Bool → PyData → Prop} {v : V}
theorem Post.frz (h : Post K S G H Q v H') (so : SrcOk S G H) : ∃ G' fr d, Ext S G H G' H' ∧ R K G' v d ∧ Q fr d := by
  obtain ⟨G', fr, d, x, r, q⟩ := h
  cases fr with
  | false => exact ⟨G', _, d, x, by simpa [RF] using r, q⟩
  | true =>
    simp only [RF, if_true] at r
    obtain ⟨r, n⟩ := r
    obtain ⟨a, o, e, ho, hg, k⟩ := r.at
    exact ⟨upd G' a o, _, d, x.freeze so (n a e) ho hg, k _ (.nw hg) upd_same, q⟩
theorem Post.imp (h : Post K S G H Q v H') (k : ∀ fr d, Q fr d → Q' fr d) : Post K S G H Q' v H' := by
  obtain ⟨G', fr, d, x, r, q⟩ := h
  exact ⟨G', fr, d, x, r, k _ _ q⟩
theorem Post.of (x : Ext S G H G' H') {d : PyData} (r : R K G' v d) (q : Q false d) : Post K S G H Q v H' := ⟨G', false, d, x, by simpa [RF] using r, q⟩
theorem Post.here (s : Sub G H) (so : SrcOk S G H) {d : PyData} (r : R K G v d) (q : Q false d) : Post K S G H Q v H := .of (.refl s so) r q
/-- behind a step -/
theorem Post.step (x : Ext S G H G1 H1) (so : SrcOk S G H) (h : Post K S G1 H1 Q v H') : Post K S G H Q v H' := by
  obtain ⟨G', fr, d, y, r, q⟩ := h
  refine ⟨G', fr, d, x.trans so y, ?_, q⟩
  cases fr with
  | false => exact r
  | true =>
    simp only [RF, if_true] at r ⊢
    exact ⟨r.1, fun a e => x.fresh so (r.2 a e)⟩
/-- a new list -/
theorem Post.newL (s : Sub G H) (so : SrcOk S G H) {p : Addr} {xs : List V} {ds : List PyData} (n : H p = none) (r : RAll K G xs ds) (q : Q true (.list ds)) : Post K S G H Q (.ref p) (upd H p (.lst xs)) := by
  refine ⟨G, true, _, .newO s so n, ?_, q⟩
  simp only [RF, if_true]
  refine ⟨⟨p, xs, rfl, upd_same, ?_, r⟩, fun a e => by cases e; exact n⟩
  cases z : G p with
  | none => rfl
  | some u => rw [s _ _ z] at n; cases n
/-- a new tuple -/
theorem Post.newT (s : Sub G H) (so : SrcOk S G H) {p : Addr} {o : Obj} {xs : List V} {ds : List PyData} (n : H p = none) (hd : o.dict = none) (r : RAll K G xs ds) (q : Q false (.tuple ds)) : Post K S G H Q (.ref p) (upd H p (.frz o (.tup xs))) := by
  have x : Ext S G H (upd G p (.frz o (.tup xs))) (upd H p (.frz o (.tup xs))) := .new s so n
  exact .of x (.tup upd_same hd (r.mono x.gg)) q
end

end DL
set_option Elab.async false
set_option linter.all false
set_option maxRecDepth 100000
set_option maxHeartbeats 2000000
/-! Dg: promises of defs where nothing is being shown (no repr under way): calls, the rule for a def, the law's call. -/
namespace DL
open PySem PySem.Spec PyProof.Rows L2

/-- no repr is under way -/
def Calm (A : Around) : Prop := A.guards = some []
theorem Calm.in1 {A : Around} (c : Calm A) : Calm A.in1 := c
theorem Calm.deeper {A : Around} (c : Calm A) (env : PySem.Env) : Calm (A.deeper env) := c
/-- a def's promise, of calls where no repr is under way -/
structure FnG (P : Program) (w : World) (K : PySem.W.Frag) (mg : Str → Option Value) (B : Heap) (k : Nat) (f : Addr) (fd : FuncData) (ps : List Str) (sp : Sp) : Prop where
  len : ∀ xs H Q E, sp xs H Q E → xs.length = ps.length
  run : ∀ (A : Around) (fr : List PySem.Env) (t : Shared) (H : Hp) (ar : Args) (ys : List Value) (xs : List V) (Q : VK) (E : XK),
    Room k A → Calm A → Env0 P w K mg B A fr t H → BindsTo t fd ar (ps.zip ys) → Vals xs ys → sp xs H Q E →
      codeAny (model P w) A (.call (.ref f) ar) (CR (L2.CX P w) fr P w H t Q E) t
section
variable {P : Program} {w : World} {K : PySem.W.Frag} {mg : Str → Option Value} {B : Heap} {j k : Nat} {f : Addr} {fd : FuncData} {ps : List Str} {sp sp' : Sp}
theorem FnG.of (F : FnOk P w K mg B (L2.CX P w) k f fd ps sp) : FnG P w K mg B k f fd ps sp :=
  ⟨F.len, fun A fr t H ar ys xs Q E hr _ e b v h => F.run A fr t H ar ys xs Q E hr e b v h⟩
theorem FnG.mono (F : FnG P w K mg B j f fd ps sp) (h : j ≤ k) : FnG P w K mg B k f fd ps sp :=
  ⟨F.len, fun A fr t H ar ys xs Q E hr => F.run A fr t H ar ys xs Q E (hr.mono h)⟩
theorem FnG.imp (F : FnG P w K mg B k f fd ps sp) (h : ∀ xs H Q E, sp' xs H Q E → sp xs H Q E) : FnG P w K mg B k f fd ps sp' :=
  ⟨fun xs H Q E q => F.len xs H Q E (h _ _ _ _ q), fun A fr t H ar ys xs Q E hr c e b v q => F.run A fr t H ar ys xs Q E hr c e b v (h _ _ _ _ q)⟩
end
section
variable {X : Cx} {k : Nat} {f : Addr} {fd : FuncData} {ps : List Str} {sp : Sp} {E : XK} {x : Str} {p pos : Pos} {e : Expr} {es : List Expr} {t : TA}
theorem call_g {pins : List (Addr × Obj)} {σ : L2.St} {H : Hp} {s : Shared} {Q : VK} {ys : List Value} {xs : List V} (F : FnG X.prog X.w X.K X.mg X.base k f fd ps sp) (hr : Room k X.A) (hc : Calm X.A)
    (hb : L2.Binds X.K fd ps []) (hx : Passes (L2.CX X.prog X.w) X E) (I : Inv X pins σ H s) (r : Vals xs ys) (h : sp xs H Q E) :
    wpAny (model X.prog X.w) X.A (call (.ref f) ys) (EP X pins σ Q) X.xe s := by
  have el : (ys ++ []).length = ps.length := by rw [List.append_nil, ← r.length]; exact F.len _ _ _ _ h
  have bt := hb s ys I.kIn el
  rw [List.append_nil] at bt
  refine wpAny_call (codeAny_mono (F.run X.A X.stack s H ⟨ys, []⟩ ys xs Q E hr hc I.env0 bt r h) ?_)
  intro out s' got
  match out, got with
  | .error z, got => exact hx pins σ H s z s' I got
  | .ok (.ret z), got => exact I.after got
theorem pe_callG (F : FnG X.prog X.w X.K X.mg X.base k f fd ps sp) (hr : Room k X.A) (hc : Calm X.A) (hg : Gl X x) (hm : X.mg x = some (.ref f)) (hk : PySem.W.keepIn X.K (.ref f) = true)
    (hb : L2.Binds X.K fd ps []) (hx : Passes (L2.CX X.prog X.w) X E) (ha : PA X (e :: es) t) (hdb : (x == ("__debug__" : Str)) = false)
    (he : starEach (e :: es) X.env = (false, eval e X.env) :: starEach es X.env) (hpl : (backTo pos (starEach es X.env)).any (·.1) = false) :
    PE X (.Call (.Name x p) (e :: es) [] pos) (tCall sp [] E t) := by
  constructor
  intro pins s σ H Q I h
  refine wpAny_Call_Name_kw (ld_glob I hg hm (PySem.W.callWith_K I.ok.mod.kin hk (thn (ha.run pos pins s σ H _ I h) ?_) he hpl) hdb)
  rintro ys s1 ⟨xs, H1, I1, r, q⟩
  exact ⟨I1.kIn, call_g F hr hc hb hx I1 r (by simpa using q)⟩
end
theorem room_deeper2 {k : Nat} {A : Around} (r : Room (k + 1) A) (env : PySem.Env) : Room k (A.deeper env).in1.in1 :=
  ⟨r.hd, by have := r.dp; show A.depth + 1 + 3 * k + 5 < _; omega, by have := r.un; show A.units + 3 + 1 + 1 + 16 * k + 200 < _; omega⟩
theorem room_of2 {k : Nat} {A : Around} (r : Room k A.in1.in1) : Room k A := ⟨r.hd, r.dp, by have := r.un; have e : A.in1.in1.units = A.units + 1 + 1 := rfl; omega⟩
/-- the rule for a def -/
theorem fn_g {P : Program} {w : World} {K : PySem.W.Frag} {mg : Str → Option Value} {B : Heap} {x qual : Str} {params : Arguments} {body : List Stmt} {scope : Scope} {dvs : List V} {kws : List (Str × V)} {f : Addr} {fd : FuncData}
    {N ps : List Str} {k : Nat} {sp : Sp} (F : FunD K x qual params body scope dvs kws f fd) (S : FnScope N ps scope) (len : ∀ xs H Q E, sp xs H Q E → xs.length = ps.length)
    (go : ∀ (cdv : Value) (A : Around) (fr : List PySem.Env) (t : Shared) (H : Hp) (xs : List V) (Q : VK) (E : XK), Room k (A.deeper (envOfC qual scope t.heap.objs.size f cdv)).in1.in1 → Calm A → sp xs H Q E →
      ∃ T, PSs (cxOf (L2.CX P w) P w K mg B N qual scope f cdv A fr t H E) body T ∧ T { nx := fun _ G => Q .non G, rt := Q } (L2.start N xs) H) : FnG P w K mg B (k + 1) f fd ps sp := by
  obtain ⟨oc, od, dV, kV, doc, pm, an, cdv, ct, osl, efd, lk, hcd, -, -⟩ := F.ex
  subst efd
  constructor
  · exact len
  intro A fr t H ar ys xs Q E room calm e0 hb vr want
  have els := len _ _ _ _ want
  have inK : K.In t.heap := e0.mod.kin.keeps fun c u ec => (e0.bs c u ec).1
  have nl : t.heap.NoLimit := e0.mod.nolimit.keeps fun c u ec => (e0.bs c u ec).1
  have knd : ∀ y ∈ ps.zip ys, scope.names.lookup y.1 = some .local ∨ (scope.names.lookup y.1 = some .cell ∧ ((cellsFrom (t.heap.objs.size + 1) scope.names []).lookup y.1).isSome = true) := by
    rintro ⟨n, v⟩ hy
    rcases S.par n (List.of_mem_zip hy).1 with loc | cel
    · exact Or.inl loc
    · exact Or.inr ⟨cel, PySem.W.cellsFrom_some _ _ _ (Or.inl cel)⟩
  refine codeAny_call_function room.depth (inK _ _ lk) rfl S.co S.gen rfl (PySem.W.codeRec_of inK hcd) (hb _ _ _ _ ?_)
  refine wpAny_newFunctionEnv_cells S.kind knd ?_
  intro env he t1 hx
  subst he
  refine ⟨nl.keeps hx.toInCall.keep, codeAny_func ?_⟩
  obtain ⟨T, hT, hq⟩ := go cdv A fr t H xs Q E (room_deeper2 room _) calm want
  have inv0 : Inv (cxOf (L2.CX P w) P w K mg B N qual scope f cdv A fr t H E) [] (L2.start N xs) H t1 := inv_start S room.hd e0 els vr hx
  refine wpAny_mono (hT.run [] t1 (L2.start N xs) H _ inv0 hq) ?_ (fun z t' hz => hz)
  intro fl t' got
  match fl, got with
  | .ret u, ⟨v, σ', G, J, rv, q⟩ => exact ⟨v, G, J.os, J.bare, J.base, J.hok, rv, q⟩
  | .next, ⟨σ', G, J, q⟩ => exact ⟨.non, G, J.os, J.bare, J.base, J.hok, rfl, q⟩
  | .brk, ⟨_, _, _, q⟩ => exact q.elim
  | .cont, ⟨_, _, _, q⟩ => exact q.elim

/-- the table of modules is a dict -/
def SysD (h : Heap) : Prop := ∃ o es ep, h.get? sysModules = some o ∧ o.cls = .type "dict" ∧ o.data = .dict es ep
/-! ### the law's call -/
section
variable {P : Program} {w : World} {K : PySem.W.Frag} {mg mb : Str → Option Value} {k : Nat} {fa a : Addr} {fd : FuncData} {x : Str} {sp : Sp} {t : Shared} {vs : List Value} {ns : List Int}
abbrev Wanted (t : Shared) (out : Result) (t' : Shared) : Prop := out = .ok (.ret (.bool true)) ∧ OldK t.heap t'.heap ∧ t'.os = t.os ∧ AllBare t'.gens
abbrev scriptO (vs : List Value) : Obj := { cls := .type "list", data := .seq vs.toArray }
theorem lawcore (KX : K.In t.heap) (hns : t.heap.Ns mainGlobals mg) (hb : t.heap.Ns builtinsNs mb) (hbb : ∀ y : Str, y ≠ "__name__" → mb y = bootBuiltins y) (nl : t.heap.NoLimit) (hg : t.gens = #[])
    (ha : t.heap.get? a = some (scriptO vs)) (room : Room k callerA)
    (sys : SysD t.heap) (F : ∀ B : Heap, K.In B → B.Ns mainGlobals mg → SysD B → FnG P w K mg B k fa fd [x] sp) (bind : ∀ (s : Shared) (u : Value), BindsTo s fd ⟨[u], []⟩ [(x, u)])
    {H : Hp} (only : Only H) (ok : HOk P w H t.heap) (only_a : ∀ b, H b ≠ none → b = a) (notK : H a ≠ none → K.lookup a = none) (want : sp [.ref a] H (fun v _ => v = .bl true) fun _ _ _ => False) :
    codeAny (model P w) callerA (.call (.ref fa) ⟨[.ref a], []⟩) (Wanted t) t := by
  have atA : ∀ {b : Addr} {u : HO}, H b = some u → b = a := fun {b u} e => only_a b (by rw [e]; exact fun z => nomatch z)
  have dictFree : ∀ {b : Addr} {o : Obj} {es : Array DictEntry} {ep : Nat}, t.heap.get? b = some o → o.data = .dict es ep → H b = none := by
    intro b o es ep e d
    cases hH : H b with
    | none => rfl
    | some u =>
      have := atA hH
      subst this
      rw [ha] at e
      cases e
      cases (show Data.seq vs.toArray _ = Data.dict es ep from d)
  have nsOf : ∀ {b : Addr} {m : Str → Option Value}, t.heap.Ns b m → (hidT t.heap H).Ns b m := by
    rintro b m ⟨o, es, ep, e, d, r⟩
    exact ⟨o, es, ep, hidT_get e (dictFree e d), d, r⟩
  have kB : K.In (hidT t.heap H) := by
    intro b o e
    refine hidT_get (KX b o e) ?_
    cases hH : H b with
    | none => rfl
    | some u =>
      have := atA hH
      subst this
      rw [notK (by rw [hH]; exact fun z => nomatch z)] at e
      cases e
  obtain ⟨mc, c1, c2⟩ := nl
  have md : Mod K mg (hidT t.heap H) := ⟨kB, nsOf hns, ⟨mb, nsOf hb, hbb⟩, ⟨mc, nsOf c1, c2⟩⟩
  have none0 : ∀ {c : Addr}, c ∉ ([] : List Addr) := fun {c} z => nomatch z
  have e0 : Env0 P w K mg (hidT t.heap H) callerA [] t H :=
    ⟨rfl, md, fun b o e => of_hidT e, Nat.le_of_eq (hidT_size _ _), trivial, fun c hc => absurd (show c ∈ ([] : List Addr) from hc) none0, ok, .of_eq hg⟩
  obtain ⟨os, es, ep, q1, q2, q3⟩ := sys
  have main := (F _ kB (nsOf hns) ⟨os, es, ep, hidT_get q1 (dictFree q1 q3), q2, q3⟩).run callerA [] t H ⟨[.ref a], []⟩ [.ref a] [.ref a] _ _ room rfl e0 (bind t (.ref a)) (.cons rfl .nil) want
  refine codeAny_mono main ?_
  intro out t' got
  match out, got with
  | .error z, got =>
    obtain ⟨_, _, _, _, _, _, _, _, _, _, _, _, bad⟩ := got
    exact bad.elim
  | .ok (.ret u), got =>
    obtain ⟨v, G, os, bare, un, ok', rv, hv⟩ := got
    have hv : v = V.bl true := hv
    subst hv
    have : u = Value.bool true := rv
    subst this
    refine ⟨rfl, OldK.of_keep ?_, os, bare⟩
    intro b o e
    cases hH : H b with
    | none => exact un.keep b o e hH (fun z => none0 (show b ∈ ([] : List Addr) from z)) (by simp)
    | some u =>
      rcases only b with z | ⟨ob, zs, z⟩
      · rw [hH] at z; cases z
      · obtain ⟨h1, _⟩ := ok b _ z
        obtain ⟨h2, _⟩ := ok' b _ (un.frzs b ob _ z)
        rw [e] at h1
        cases h1
        exact h2
theorem lawcall (KX : K.In t.heap) (hns : t.heap.Ns mainGlobals mg) (hb : t.heap.Ns builtinsNs mb) (hbb : ∀ y : Str, y ≠ "__name__" → mb y = bootBuiltins y) (nl : t.heap.NoLimit) (hg : t.gens = #[])
    (ha : t.heap.get? a = some (scriptO vs)) (hin : IntsAre vs ns) (short : ns.length ≤ sizeLine) (room : Room k callerA)
    (sys : SysD t.heap) (F : ∀ B : Heap, K.In B → B.Ns mainGlobals mg → SysD B → FnG P w K mg B k fa fd [x] sp) (bind : ∀ (s : Shared) (u : Value), BindsTo s fd ⟨[u], []⟩ [(x, u)])
    (want : ∀ H : Hp, Only H → SqL K H a (ns.map V.int) → sp [.ref a] H (fun v _ => v = .bl true) fun _ _ _ => False) :
    codeAny (model P w) callerA (.call (.ref fa) ⟨[.ref a], []⟩) (Wanted t) t := by
  have el := hin.length
  have vr := vals_ints hin
  cases hk : K.lookup a with
  | some o =>
    have e := KX a o hk
    rw [ha] at e
    cases e
    have sq : SqL K (fun _ => none) a (ns.map V.int) := .inr ⟨_, vs.toArray, _, hk, rfl, rfl, rfl, by rw [List.size_toArray, el]; exact short, by simpa using vr⟩
    exact lawcore KX hns hb hbb nl hg ha room sys F bind (fun _ => .inl rfl) (fun b u z => nomatch (show (none : Option HO) = some u from z)) (fun b z => absurd rfl z) (fun z => absurd rfl z) (want _ (fun _ => .inl rfl) sq)
  | none =>
    let H : Hp := fun b => if b = a then some (.frz (scriptO vs) (.lst (ns.map V.int))) else none
    have at_ : H a = some (.frz (scriptO vs) (.lst (ns.map V.int))) := if_pos rfl
    have off : ∀ {b : Addr}, b ≠ a → H b = none := fun {b} hb => if_neg hb
    have only : Only H := fun b => by
      by_cases h : b = a
      · subst h; exact .inr ⟨_, _, at_⟩
      · exact .inl (off h)
    refine lawcore KX hns hb hbb nl hg ha room sys F bind only (fun b u z => ?_) (fun b z => ?_) (fun _ => hk) (want H only (.inl (.inr ⟨_, at_⟩)))
    · by_cases h : b = a
      · subst h
        rw [at_] at z
        cases z
        exact ⟨ha, by rw [List.length_map]; exact short, vs, _, vr, ha⟩
      · rw [off h] at z
        cases z
    · by_cases h : b = a
      · exact h
      · exact absurd (off h) z
end
/-- a law over a head by facts, with the script's bits -/
theorem law_end {l : PySem.W.OpenLaw} {n k : Nat} {q : Program} {loose : List Str} {XP : (Str → Option Value) → Heap → Prop} {YP : World → Heap → Prop} {d : DefRec} {x : Str}
    (hn : l.most = some n) (hn2 : n ≤ sizeLine) (hdf : d.params.defaults = []) (hr : Room k callerA)
    (F : ∀ (w : World) (mg : Str → Option Value) (fa : Addr) (h : Heap), YP w h → h.Ns mainGlobals mg → mg d.name = some (.ref fa) →
      ∃ (K : PySem.W.Frag) (fd : FuncData) (sp : Sp), K.In h ∧ (∀ (s : Shared) (u : Value), BindsTo s fd ⟨[u], []⟩ [(x, u)]) ∧
        (∀ (H : Hp) (a : Addr) (ns : List Int), ns.length ≤ n → (∀ i ∈ ns, Builtin.Int.intBits i ≤ 1048576) → Only H → SqL K H a (ns.map V.int) → sp [.ref a] H (fun v _ => v = .bl true) fun _ _ _ => False) ∧
        ∀ B : Heap, K.In B → B.Ns mainGlobals mg → SysD B → FnG l.prog w K mg B k fa fd [x] sp) (hsys : ∀ w h, YP w h → SysD h) :
    PySem.W.WalkO q loose XP YP l.row.toRowW d [] (fun f vs => PySem.call f vs) := by
  refine Att.attach_callB hn hdf ?_
  intro w s₀ s₁ mg mb fa o pm cd doc a vs ns G Y ho hd hcd hmg hobj hints hlen hbits hg
  obtain ⟨K, fd, sp, KX, hb, want, hF⟩ := F w mg fa _ Y G.T.g hmg
  exact lawcall KX G.T.g G.T.b G.T.builtins G.T.nolimit hg hobj hints (Nat.le_trans hlen hn2) hr (hsys _ _ Y) hF hb fun H only sq => want H a ns hlen hbits only sq
end DL
set_option Elab.async false
set_option linter.all false
set_option maxRecDepth 100000
set_option maxHeartbeats 2000000
/-! D1: small trees and their reading in plain data. -/
namespace DL
open PySem PySem.Spec PyProof.Rows L2

inductive Bop where
  | add | sub | mul | fdiv | mod | pow | shl | shr | band | bor | bxor
inductive Cop where
  | eq | ne | lt | le | gt | ge | isnt (y : Bool) | in_ (y : Bool)
inductive Bi where
  | len | abs | max | min | sum | sorted | list | tuple | int | repr | all | any
inductive Ty where
  | tup | int | bool | str | list | dict
inductive Mt where
  | bits | index | get | items | keys | values | count
mutual
inductive Tg where
  | nm (i : Nat) | tp (ts : Tgs)
inductive Tgs where
  | nil | cons (t : Tg) (r : Tgs)
end
mutual
inductive Ex where
  | var (i : Nat) | lit (d : PyData)
  | tup (es : Exs) | lst (es : Exs)
  | bin (o : Bop) (a b : Ex) | neg (a : Ex)
  | cmp (o : Cop) (a b : Ex) | cmp2 (o p : Cop) (a b c : Ex)
  | and_ (a b : Ex) | or_ (a b : Ex) | not_ (a : Ex) | ite (t a b : Ex)
  | call (j : Nat) (es : Exs) | bi (b : Bi) (es : Exs) | mth (m : Mt) (o : Ex) (es : Exs)
  | ix (o i : Ex) | slc (o : Ex) (lo hi : Exo)
  | isa (e : Ex) (T : Ty) | rev (o : Ex) | dic0 | lrng (e : Ex) | star (a b : Ex) | sdk (e : Ex)
  | comp (e : Ex) (tg : Tg) (it : It) (cs : Exs) (own : List Nat)
inductive Exo where
  | no | so (e : Ex)
inductive Exs where
  | nil | cons (e : Ex) (r : Exs)
inductive It where
  | seq (e : Ex) | range1 (e : Ex) | range2 (a b : Ex) | rangd (a b : Ex) | enum (e : Ex) | zip (a b : Ex) | zips (a b : Ex)
end
mutual
inductive Sm where
  | asg (tg : Tg) (e : Ex) | asx (tg : Tg) (i : Nat) (j : Ex) | par (is : List Nat) (es : Exs) | aug (i : Nat) (o : Bop) (e : Ex)
  | app (i : Nat) (e : Ex) | ext (i : Nat) (e : Ex) | setx (i : Nat) (k e : Ex) | augx (i : Nat) (j : Ex) (o : Bop) (e : Ex)
  | ite (t : Ex) (a b : Sms) | for_ (tg : Tg) (it : It) (b : Sms) | whl (t : Ex) (b : Sms)
  | ret (e : Ex) | retn | brk | cnt | pass | expr (e : Ex)
inductive Sms where
  | nil | cons (s : Sm) (r : Sms)
end

/-! ### which slots are named -/
mutual
def Ex.vs : Ex → List Nat
  | .var i => [i] | .lit _ => []
  | .tup es => es.vs | .lst es => es.vs
  | .bin _ a b => a.vs ++ b.vs | .neg a => a.vs
  | .cmp _ a b => a.vs ++ b.vs | .cmp2 _ _ a b c => a.vs ++ (b.vs ++ c.vs)
  | .and_ a b => a.vs ++ b.vs | .or_ a b => a.vs ++ b.vs | .not_ a => a.vs | .ite t a b => t.vs ++ (a.vs ++ b.vs)
  | .call _ es => es.vs | .bi _ es => es.vs | .mth _ o es => o.vs ++ es.vs
  | .ix o i => o.vs ++ i.vs | .slc o lo hi => o.vs ++ (lo.vs ++ hi.vs)
  | .isa e _ => e.vs | .rev o => o.vs | .dic0 => [] | .lrng e => e.vs | .star a b => a.vs ++ b.vs | .sdk e => e.vs
  | .comp e _ it cs _ => it.vs ++ (cs.vs ++ e.vs)
def Exo.vs : Exo → List Nat
  | .no => [] | .so e => e.vs
def Exs.vs : Exs → List Nat
  | .nil => [] | .cons e r => e.vs ++ r.vs
def It.vs : It → List Nat
  | .seq e => e.vs | .range1 e => e.vs | .range2 a b => a.vs ++ b.vs | .rangd a b => a.vs ++ b.vs | .enum e => e.vs | .zip a b => a.vs ++ b.vs | .zips a b => a.vs ++ b.vs
end

/-! ### plain operations -/
def truth : PyData → Option Bool
  | .none => some false
  | .bool b => some b
  | .int i => some (i != 0)
  | .list xs => some !xs.isEmpty
  | .tuple xs => some !xs.isEmpty
  | _ => none
abbrev lim : Nat := 16000000
def BinP : Bop → PyData → PyData → (Bool → PyData → Prop) → Prop
  | .add, .int i, .int j, Q => Q false (.int (i + j))
  | .add, .str x, .str y, Q => x.length + y.length ≤ lim ∧ Q false (.str (x ++ y))
  | .add, .list x, .list y, Q => x.length + y.length ≤ lim ∧ Q true (.list (x ++ y))
  | .add, .tuple x, .tuple y, Q => x.length + y.length ≤ lim ∧ Q false (.tuple (x ++ y))
  | .sub, .int i, .int j, Q => Q false (.int (i - j))
  | .mul, .int i, .int j, Q => (CMulW i j ∨ CMul i j) ∧ Q false (.int (i * j))
  | .mul, .tuple x, .int k, Q => x ≠ [] ∧ 0 ≤ k ∧ k ≤ 1000 ∧ x.length ≤ 1000 ∧ Q false (.tuple (List.replicate k.toNat x).flatten)
  | .mul, .list x, .int k, Q => -(2 ^ 62) ≤ k ∧ k ≤ 2 ^ 62 ∧ x.length * k.toNat ≤ lim ∧ Q true (.list (List.replicate k.toNat x).flatten)
  | .fdiv, .int i, .int j, Q => CDivW i j ∧ Q false (.int (i / j))
  | .mod, .int i, .int j, Q => 0 < j ∧ Q false (.int (i % j))
  | .pow, .int i, .int j, Q => CPow i j ∧ Q false (.int (i ^ j.toNat))
  | .shl, .int i, .int j, Q => CShl i j ∧ Q false (.int (i * 2 ^ j.toNat))
  | .shr, .int i, .int j, Q => 0 ≤ j ∧ Q false (.int (i / 2 ^ j.toNat))
  | .band, .int i, .int j, Q => Q false (.int (Builtin.bitAnd i j))
  | .bor, .int i, .int j, Q => Q false (.int (Builtin.bitOr i j))
  | .bxor, .int i, .int j, Q => Q false (.int (Builtin.bitXor i j))
  | _, _, _, _ => False
def AugP : Bop → Int → Int → (Int → Prop) → Prop
  | .add, i, j, Q => Q (i + j)
  | .sub, i, j, Q => Q (i - j)
  | .mul, i, j, Q => CMul i j ∧ Q (i * j)
  | .fdiv, i, j, Q => CDivW i j ∧ Q (i / j)
  | .mod, i, j, Q => 0 < j ∧ Q (i % j)
  | .shl, i, j, Q => CShl i j ∧ Q (i * 2 ^ j.toNat)
  | .shr, i, j, Q => 0 ≤ j ∧ Q (i / 2 ^ j.toNat)
  | .band, i, j, Q => Q (Builtin.bitAnd i j)
  | .bor, i, j, Q => Q (Builtin.bitOr i j)
  | .bxor, i, j, Q => Q (Builtin.bitXor i j)
  | .pow, _, _, _ => False
def okD (d : PyData) : Prop := SeqAt.shaped d = true
/-! #### dicts: keys are ints and texts, or tuples of them -/
def atomK : PyData → Bool
  | .int _ => true | .str _ => true | _ => false
def tupK : PyData → Bool
  | .tuple xs => xs.all atomK | _ => false
def keyEqA : PyData → PyData → Bool
  | .int i, .int j => i == j | .str x, .str y => x == y | _, _ => false
def keyEqL : List PyData → List PyData → Bool
  | [], [] => true | x :: xs, y :: ys => keyEqA x y && keyEqL xs ys | _, _ => false
def keyEq : PyData → PyData → Bool
  | .int i, .int j => i == j | .str x, .str y => x == y | .tuple xs, .tuple ys => keyEqL xs ys | _, _ => false
def lookD (kvs : List (PyData × PyData)) (k : PyData) : Option PyData := (kvs.find? fun p => keyEq p.1 k).map (·.2)
def putD (kvs : List (PyData × PyData)) (k v : PyData) : List (PyData × PyData) :=
  if (kvs.any fun p => keyEq p.1 k) = true then kvs.map (fun p => if keyEq p.1 k = true then (p.1, v) else p) else kvs ++ [(k, v)]
/-- a key that may be asked for -/
def keyFor (_ : List (PyData × PyData)) (k : PyData) : Bool := atomK k
/-- a key that may be stored -/
def keyPut (_ : List (PyData × PyData)) (k : PyData) : Bool := atomK k
/-- tuples told apart, or found alike, without a look at nested things -/
def shortT : List PyData → List PyData → Bool
  | _, [] => true
  | .str _ :: _, [.str _] => true
  | _, _ => false
def shortD : PyData → PyData → Bool
  | .tuple xs, .tuple ys => shortT xs ys
  | _, _ => false
def CmpP : Cop → PyData → PyData → (Bool → Prop) → Prop
  | .eq, .int i, .int j, Q => Q (i == j)
  | .ne, .int i, .int j, Q => Q (!(i == j))
  | .eq, x, y, Q => (shortD x y = true ∨ (okD x ∧ okD y)) ∧ Q (PyData.eqv x y)
  | .ne, x, y, Q => okD x ∧ okD y ∧ Q (!PyData.eqv x y)
  | .lt, .int i, .int j, Q => Q (decide (i < j))
  | .le, .int i, .int j, Q => Q (decide (i ≤ j))
  | .gt, .int i, .int j, Q => Q (decide (j < i))
  | .ge, .int i, .int j, Q => Q (decide (j ≤ i))
  | .isnt k, x, .none, Q => Q (match x with | .none => k | _ => !k)
  | .isnt k, .bool a, .bool b, Q => Q (bif k then decide (a = b) else !decide (a = b))
  | .in_ k, x, .list ys, Q => okD x ∧ okD (.list ys) ∧ Q (if k = true then ys.any (fun z => PyData.eqv z x) else !ys.any (fun z => PyData.eqv z x))
  | .in_ k, x, .dict kvs, Q => keyFor kvs x = true ∧ Q (if k = true then (lookD kvs x).isSome else !(lookD kvs x).isSome)
  | .in_ k, x, .tuple ys, Q => okD x ∧ okD (.tuple ys) ∧ Q (if k = true then ys.any (fun z => PyData.eqv z x) else !ys.any (fun z => PyData.eqv z x))
  | _, _, _, _ => False
def allInts : List PyData → Option (List Int)
  | [] => some []
  | .int i :: r => (allInts r).map (i :: ·)
  | _ => none
def allBools : List PyData → Option (List Bool)
  | [] => some []
  | .bool i :: r => (allBools r).map (i :: ·)
  | _ => none
def maxI (n : Int) (ns : List Int) : Int := ns.foldl (fun a b => if b > a then b else a) n
def minI (n : Int) (ns : List Int) : Int := ns.foldl (fun a b => if b < a then b else a) n
/-- what may be shown -/
def okR (d : PyData) : Prop := d.showable = true ∧ d.shown.length ≤ sizeLine ∧ d.depth ≤ 60
/-- what may be put in order -/
def notNon : PyData → Bool
  | .none => false | _ => true
def alikeB (xs : List PyData) : Bool := (xs.all fun d => xs.all fun e => PySem.W.alike d e) && xs.all notNon
def okM (xs : List PyData) : Prop := alikeB xs = true ∧ PyData.depthAll xs ≤ 60
def isTup1 : PyData → Bool
  | .tuple (_ :: _) => true
  | _ => false
def isOth : PyData → Bool
  | .none => false | .tuple _ => false | _ => true
def okS (xs : List PyData) : Prop := okM xs ∧ (xs.all isTup1 || xs.all isOth || decide (xs.length ≤ 1)) = true
def sortD (xs : List PyData) : List PyData := xs.mergeSort (PySem.W.dataLe false _root_.id)
def isaD : Ty → PyData → Bool
  | .tup, d => d.isTuple | .int, d => d.isInt | .bool, d => d.isBool | .str, d => d.isStr | .list, d => d.isList | .dict, d => d.isDict
def revD : PyData → (Bool → PyData → Prop) → Prop
  | .list xs, Q => Q true (.list xs.reverse)
  | .tuple xs, Q => Q false (.tuple xs.reverse)
  | _, _ => False
def BiP : Bi → List PyData → (Bool → PyData → Prop) → Prop
  | .len, [.list xs], Q => Q false (.int xs.length)
  | .len, [.tuple xs], Q => Q false (.int xs.length)
  | .len, [.str x], Q => x.length ≤ lim ∧ Q false (.int x.length)
  | .abs, [.int i], Q => Q false (.int (if i < 0 then -i else i))
  | .max, [.int i, .int j], Q => Q false (.int (if j > i then j else i))
  | .min, [.int i, .int j], Q => Q false (.int (if j < i then j else i))
  | .int, [.int i], Q => Q false (.int i)
  | .int, [.bool b], Q => Q false (.int (if b then 1 else 0))
  | .tuple, [.list xs], Q => Q false (.tuple xs)
  | .tuple, [.tuple xs], Q => Q false (.tuple xs)
  | .list, [.list xs], Q => Q true (.list xs)
  | .list, [.tuple xs], Q => Q true (.list xs)
  | .max, [.list (x :: xs)], Q => okM (x :: xs) ∧ Q false (PySem.W.maxD x xs)
  | .max, [.tuple (x :: xs)], Q => okM (x :: xs) ∧ Q false (PySem.W.maxD x xs)
  | .min, [.list (x :: xs)], Q => okM (x :: xs) ∧ Q false (PySem.W.minD x xs)
  | .min, [.tuple (x :: xs)], Q => okM (x :: xs) ∧ Q false (PySem.W.minD x xs)
  | .repr, [d], Q => okR d ∧ Q false (.str d.shown)
  | .all, [.list xs], Q => ∃ bs, allBools xs = some bs ∧ Q false (.bool (bs.all _root_.id))
  | .any, [.list xs], Q => ∃ bs, allBools xs = some bs ∧ Q false (.bool (bs.any _root_.id))
  | .sorted, [.list xs], Q => okS xs ∧ xs.length ≤ lim ∧ Q true (.list (sortD xs))
  | .sum, [.list xs], Q => ∃ ns, allInts xs = some ns ∧ Q false (.int ns.sum)
  | .sum, [.tuple xs], Q => ∃ ns, allInts xs = some ns ∧ Q false (.int ns.sum)
  | _, _, _ => False
/-- a receiver that has the method -/
def mtT : Mt → PyData → Bool
  | .bits, .int _ => true
  | .index, .list _ => true | .index, .tuple _ => true
  | .get, .dict _ => true
  | .count, .tuple _ => true
  | _, _ => false
/-- the int keys of pairs -/
def pairKeys : List PyData → Option (List Int)
  | [] => some []
  | .tuple [.int k, _] :: r => (pairKeys r).map (k :: ·)
  | _ => none
/-- an int among ascending ones, once -/
def insI (k : Int) : List Int → List Int
  | [] => [k]
  | x :: r => if k < x then k :: x :: r else if k = x then x :: r else x :: insI k r
def setI : List Int → List Int
  | [] => []
  | k :: r => insI k (setI r)
/-- the ints from a on, downwards, n of them -/
def downD (a : Int) (n : Nat) : List PyData := (List.range n).map fun i => .int (a + (i : Nat) * (-1))
/-- the first place of an equal one -/
def idxD (ds : List PyData) (x : PyData) : Option Nat := ds.findIdx? fun z => PyData.eqv z x
def MtP : Mt → PyData → List PyData → (Bool → PyData → Prop) → Prop
  | .bits, .int i, [], Q => Q false (.int (Builtin.Int.intBits i : Nat))
  | .index, .list ds, [x], Q => okD x ∧ okD (.list ds) ∧ ∃ n, idxD ds x = some n ∧ Q false (.int (n : Nat))
  | .index, .tuple ds, [x], Q => okD x ∧ okD (.list ds) ∧ ∃ n, idxD ds x = some n ∧ Q false (.int (n : Nat))
  | .count, .tuple ds, [x], Q => okD x ∧ okD (.list ds) ∧ Q false (.int ((ds.countP fun z => PyData.eqv z x : Nat) : Int))
  | .get, .dict kvs, [k], Q => keyFor kvs k = true ∧ Q false ((lookD kvs k).getD .none)
  | .get, .dict kvs, [k, d], Q => keyFor kvs k = true ∧ Q false ((lookD kvs k).getD d)
  | _, _, _, _ => False
def IxP : PyData → PyData → (Bool → PyData → Prop) → Prop
  | .list xs, .int i, Q => ∃ d, atI xs i = some d ∧ Q false d
  | .tuple xs, .int i, Q => ∃ d, atI xs i = some d ∧ Q false d
  | .dict kvs, k, Q => keyFor kvs k = true ∧ ∃ d, lookD kvs k = some d ∧ Q false d
  | _, _, _ => False
def cutD (xs : List PyData) (lo hi : Option Int) : List PyData := (xs.drop (HT.sIx xs.length 0 lo)).take (HT.sIx xs.length xs.length hi - HT.sIx xs.length 0 lo)
def SlP : PyData → Option Int → Option Int → (Bool → PyData → Prop) → Prop
  | .list xs, lo, hi, Q => Q true (.list (cutD xs lo hi))
  | .tuple xs, lo, hi, Q => Q false (.tuple (cutD xs lo hi))
  | _, _, _, _ => False
/-- a comprehension's loop over known items -/
def foldC (step : PyData → List PyData → (List PyData → Prop) → Prop) : List PyData → List PyData → (List PyData → Prop) → Prop
  | [], acc, Q => Q acc
  | x :: xs, acc, Q => step x acc fun acc' => foldC step xs acc' Q
mutual
def Tg.bnd : Tg → PyData → Env → (Env → Prop) → Prop
  | .nm i, d, env, k => k (env.set i (.sh d))
  | .tp ts, .tuple ds, env, k => ts.bnd ds env k
  | .tp _, _, _, _ => False
def Tgs.bnd : Tgs → List PyData → Env → (Env → Prop) → Prop
  | .nil, [], env, k => k env
  | .cons t r, d :: ds, env, k => t.bnd d env fun env' => r.bnd ds env' k
  | _, _, _, _ => False
end
def wipeE : Env → List Nat → Env
  | env, [] => env
  | env, i :: r => (wipeE env r).set i .un
/-- the ints from a on, n of them -/
def intsD (a : Int) (n : Nat) : List PyData := (List.range n).map fun i => .int (a + (i : Nat))
def isInt (d : PyData) (Q : Int → Prop) : Prop := match d with
  | .int i => Q i
  | _ => False
def isSeq (d : PyData) (Q : List PyData → Prop) : Prop := match d with
  | .list xs => Q xs
  | .tuple xs => Q xs
  | _ => False
def isTup (d : PyData) (Q : List PyData → Prop) : Prop := match d with
  | .tuple xs => Q xs
  | _ => False
def isLst (d : PyData) (Q : List PyData → Prop) : Prop := match d with
  | .list xs => Q xs
  | _ => False
/-- two lists, two tuples -/
def two : PyData → PyData → (List PyData → List PyData → Prop) → Prop
  | .list xs, .list ys, Q => Q xs ys
  | .tuple xs, .tuple ys, Q => Q xs ys
  | .list xs, .tuple ys, Q => Q xs ys
  | .tuple xs, .list ys, Q => Q xs ys
  | _, _, _ => False
def enumD (xs : List PyData) : List PyData := (xs.zipIdx).map fun p => .tuple [.int (p.2 : Nat), p.1]
def zipD (xs ys : List PyData) : List PyData := List.zipWith (fun x y => .tuple [x, y]) xs ys
mutual
/-- no list, no dict within -/
def flat : PyData → Bool
  | .none => true | .bool _ => true | .int _ => true | .str _ => true
  | .tuple xs => flats xs
  | .list _ => false | .dict _ => false
def flats : List PyData → Bool
  | [] => true
  | x :: xs => flat x && flats xs
end
def leafy (fr : Bool) (d : PyData) : Bool := flat d || (fr && match d with
  | .list xs => flats xs
  | _ => false)
/-- what a def is worth: its arguments, what is wanted of what it gives, and of what it raises -/
abbrev Fs := List Sl → (Bool → PyData → Prop) → (Str → Prop) → Prop
section
variable (C : Nat → Fs)
mutual
def Ex.rd : Ex → (Str → Prop) → Env → (Bool → PyData → Prop) → Prop
  | .var i, _, env, Q => match env[i]? with
    | some (.sh d) => Q false d
    | some (.ow d) => Q false d
    | _ => False
  | .lit d, _, _, Q => Q false d
  | .tup es, E, env, Q => es.rd E env fun ds => ds.length ≤ lim ∧ Q false (.tuple ds)
  | .lst es, E, env, Q => es.rd E env fun ds => ds.length ≤ lim ∧ Q true (.list ds)
  | .bin o a b, E, env, Q => a.rd E env fun _ x => b.rd E env fun _ y => BinP o x y Q
  | .neg a, E, env, Q => a.rd E env fun _ x => isInt x fun i => Q false (.int (-i))
  | .cmp o a b, E, env, Q => a.rd E env fun _ x => b.rd E env fun _ y => CmpP o x y fun c => Q false (.bool c)
  | .cmp2 o p a b c, E, env, Q => a.rd E env fun _ x => b.rd E env fun _ y => CmpP o x y fun r => if r = true then c.rd E env fun _ z => CmpP p y z fun r' => Q false (.bool r') else Q false (.bool false)
  | .and_ a b, E, env, Q => a.rd E env fun f x => ∃ c, truth x = some c ∧ if c = true then b.rd E env Q else Q f x
  | .or_ a b, E, env, Q => a.rd E env fun f x => ∃ c, truth x = some c ∧ if c = true then Q f x else b.rd E env Q
  | .not_ a, E, env, Q => a.rd E env fun _ x => ∃ c, truth x = some c ∧ Q false (.bool !c)
  | .ite t a b, E, env, Q => t.rd E env fun _ x => ∃ c, truth x = some c ∧ if c = true then a.rd E env Q else b.rd E env Q
  | .call j es, E, env, Q => es.rda E env fun sl => C j sl Q E
  | .bi b es, E, env, Q => es.rd E env fun ds => BiP b ds Q
  | .mth m o es, E, env, Q => o.rd E env fun _ x => mtT m x = true ∧ es.rd E env fun ds => MtP m x ds Q
  | .ix o i, E, env, Q => o.rd E env fun _ x => i.rd E env fun _ y => IxP x y Q
  | .slc o lo hi, E, env, Q => o.rd E env fun _ x => lo.rd E env fun l => hi.rd E env fun h => SlP x l h Q
  | .isa e T, E, env, Q => e.rd E env fun _ d => Q false (.bool (isaD T d))
  | .rev o, E, env, Q => o.rd E env fun _ d => revD d Q
  | .dic0, _, _, Q => Q true (.dict [])
  | .lrng e, E, env, Q => e.rd E env fun _ d => isInt d fun n => -(2 ^ 60) ≤ n ∧ n ≤ 1000000 ∧ Q true (.list (intsD 0 n.toNat))
  | .sdk e, E, env, Q => e.rd E env fun _ d => isLst d fun xs => ∃ ks, pairKeys xs = some ks ∧ ks.length < 64 ∧ Q true (.list ((setI ks).map PyData.int))
  | .star a b, E, env, Q => a.rd E env fun _ d => isTup d fun xs => b.rd E env fun _ y => xs.length < lim ∧ Q false (.tuple (xs ++ [y]))
  | .comp e tg it cs own, E, env, Q => it.rd E env fun _ xs => xs.length ≤ lim ∧ foldC (fun x acc k => tg.bnd x (wipeE env own) fun env' => cs.rdt (fun _ => False) env' fun b =>
      if b = true then e.rd (fun _ => False) env' fun _ d => k (acc ++ [d]) else k acc) xs [] fun L => Q true (.list L)
def Exo.rd : Exo → (Str → Prop) → Env → (Option Int → Prop) → Prop
  | .no, _, _, Q => Q none
  | .so e, E, env, Q => e.rd E env fun _ d => isInt d fun i => Q (some i)
def Exs.rd : Exs → (Str → Prop) → Env → (List PyData → Prop) → Prop
  | .nil, _, _, Q => Q []
  | .cons e r, E, env, Q => e.rd E env fun _ d => r.rd E env fun ds => Q (d :: ds)
/-- tests, all of them -/
def Exs.rdt : Exs → (Str → Prop) → Env → (Bool → Prop) → Prop
  | .nil, _, _, Q => Q true
  | .cons e r, E, env, Q => e.rd E env fun _ d => ∃ c, truth d = some c ∧ if c = true then r.rdt E env Q else Q false
/-- arguments -/
def Exs.rda : Exs → (Str → Prop) → Env → (List Sl → Prop) → Prop
  | .nil, _, _, Q => Q []
  | .cons (.var i) r, E, env, Q => match env[i]? with
    | some (.sh d) => r.rda E env fun ds => Q (.sh d :: ds)
    | some (.ow d) => r.rda E env fun ds => Q (.sh d :: ds)
    | some .src => r.rda E env fun ds => Q (.src :: ds)
    | _ => False
  | .cons e r, E, env, Q => e.rd E env fun _ d => r.rda E env fun ds => Q (.sh d :: ds)
def It.rd : It → (Str → Prop) → Env → (Bool → List PyData → Prop) → Prop
  | .seq e, E, env, Q => e.rd E env fun f d => isSeq d (Q (leafy f d))
  | .range1 e, E, env, Q => e.rd E env fun _ d => isInt d fun n => -(2 ^ 60) ≤ n ∧ n ≤ 2 ^ 60 ∧ Q true (intsD 0 n.toNat)
  | .range2 a b, E, env, Q => a.rd E env fun _ d => b.rd E env fun _ d' => isInt d fun m => isInt d' fun n => -(2 ^ 60) ≤ m ∧ m ≤ 2 ^ 60 ∧ -(2 ^ 60) ≤ n ∧ n ≤ 2 ^ 60 ∧ Q true (intsD m (n - m).toNat)
  | .rangd a b, E, env, Q => a.rd E env fun _ d => b.rd E env fun _ d' => isInt d fun m => isInt d' fun n => -(2 ^ 60) ≤ m ∧ m ≤ 2 ^ 60 ∧ -(2 ^ 60) ≤ n ∧ n ≤ 2 ^ 60 ∧ Q true (downD m (m - n).toNat)
  | .enum e, E, env, Q => e.rd E env fun _ d => isSeq d fun xs => Q false (enumD xs)
  | .zips a b, E, env, Q => a.rd E env fun _ d => b.rd E env fun _ d' => isSeq d fun xs => isSeq d' fun ys => xs.length = ys.length ∧ Q false (zipD xs ys)
  | .zip a b, E, env, Q => a.rd E env fun _ d => b.rd E env fun _ d' => two d d' fun xs ys => Q false (zipD xs ys)
end
end

/-! ### statements -/
def frz1 (vs : List Nat) (i : Nat) (s : Sl) : Sl := match s with
  | .ow d => if i ∈ vs then .sh d else .ow d
  | s => s
def frz (vs : List Nat) (env : Env) : Env := env.mapIdx (frz1 vs)
/-- the slots behind an expression that gave d -/
def aft (vs : List Nat) (fr : Bool) (d : PyData) (env : Env) : Env := if leafy fr d = true then env else frz vs env
def put (fr : Bool) (d : PyData) : Sl := if fr = true then .ow d else .sh d
structure Kp where
  nx : Env → Prop
  rt : Bool → PyData → Prop
  bk : Env → Prop := fun _ => False
  ct : Env → Prop := fun _ => False
  ex : Str → Prop := fun _ => False
/-- a loop over known items -/
def foldS (step : PyData → Env → (Env → Prop) → Prop) : List PyData → Env → (Env → Prop) → Prop
  | [], env, Q => Q env
  | x :: xs, env, Q => step x env fun env' => foldS step xs env' Q
def loopS (step : Env → (Env → Prop) → (Env → Prop) → Prop) : Nat → Env → (Env → Prop) → Prop
  | 0, _, _ => False
  | n + 1, env, Q => step env (fun env' => loopS step n env' Q) Q
def putAll : List Nat → List (Bool × PyData) → Env → Env
  | i :: is, p :: r, env => putAll is r (env.set i (put p.1 p.2))
  | _, _, env => env
/-- data at a slot -/
def slO (env : Env) (i : Nat) : Option PyData := match env[i]? with
  | some (.sh d) => some d
  | some (.ow d) => some d
  | _ => none
section
variable (C : Nat → Fs)
/-- expressions one behind another, what is new stays one's own -/
def Exs.rdf : Exs → (Str → Prop) → Env → (List (Bool × PyData) → Env → Prop) → Prop
  | .nil, _, env, Q => Q [] env
  | .cons e r, E, env, Q => e.rd C E env fun f d => r.rdf E (aft e.vs f d env) fun fs env' => Q ((f, d) :: fs) env'
mutual
def Sm.rd : Sm → Env → Kp → Prop
  | .asg (.nm i) e, env, k => e.rd C k.ex env fun fr d => k.nx ((aft e.vs fr d env).set i (put fr d))
  | .asg tg e, env, k => e.rd C k.ex env fun fr d => tg.bnd d (aft e.vs fr d env) k.nx
  | .asx tg i j, env, k => (slO env i).isSome = true ∧ j.rd C k.ex env fun fr y => ∃ d, slO (aft j.vs fr y env) i = some d ∧ IxP d y fun _ x => tg.bnd x (aft j.vs fr y env) k.nx
  | .par is es, env, k => es.rdf C k.ex env fun fs env' => fs.length = is.length ∧ k.nx (putAll is fs env')
  | .aug i o e, env, k => match env[i]? with
    | some (.sh (.int z)) => e.rd C k.ex env fun fr d => isInt d fun w => AugP o z w fun u => k.nx (env.set i (.sh (.int u)))
    | _ => False
  | .app i e, env, k => match env[i]? with
    | some (.ow (.list _)) => e.rd C k.ex env fun fr d => match (aft e.vs fr d env)[i]? with
      | some (.ow (.list xs)) => xs.length < lim ∧ k.nx ((aft e.vs fr d env).set i (.ow (.list (xs ++ [d]))))
      | _ => False
    | _ => False
  | .setx i j e, env, k => e.rd C k.ex env fun fr d => match (aft e.vs fr d env)[i]? with
    | some (.ow (.list xs)) => j.rd C k.ex (aft e.vs fr d env) fun _ y => isInt y fun z => ∃ n, ixN xs.length z = some n ∧ k.nx ((aft e.vs fr d env).set i (.ow (.list (xs.set n d))))
    | some (.ow (.dict kvs)) => j.rd C k.ex (aft e.vs fr d env) fun _ y => keyPut kvs y = true ∧ kvs.length < lim ∧ k.nx ((aft e.vs fr d env).set i (.ow (.dict (putD kvs y d))))
    | _ => False
  | .ext i e, env, k => match env[i]? with
    | some (.ow (.list _)) => e.rd C k.ex env fun fr d => match (aft e.vs fr d env)[i]? with
      | some (.ow (.list xs)) => isLst d fun ys => xs.length + ys.length ≤ lim ∧ k.nx ((aft e.vs fr d env).set i (.ow (.list (xs ++ ys))))
      | _ => False
    | _ => False
  | .augx i j o e, env, k => match env[i]? with
    | some (.ow (.list xs)) => j.rd C k.ex env fun _ y => isInt y fun z => ∃ n c, ixN xs.length z = some n ∧ xs[n]? = some (.int c) ∧ e.rd C k.ex env fun _ d => isInt d fun w => AugP o c w fun u => k.nx (env.set i (.ow (.list (xs.set n (.int u)))))
    | some (.ow (.dict kvs)) => j.rd C k.ex env fun _ y => keyPut kvs y = true ∧ ∃ c, lookD kvs y = some (.int c) ∧ kvs.length < lim ∧ e.rd C k.ex env fun _ d => isInt d fun w => AugP o c w fun u => k.nx (env.set i (.ow (.dict (putD kvs y (.int u)))))
    | _ => False
  | .ite t a b, env, k => t.rd C k.ex env fun fr d => ∃ c, truth d = some c ∧ if c = true then a.rd (aft t.vs fr d env) k else b.rd (aft t.vs fr d env) k
  | .for_ tg it b, env, k => it.rd C k.ex env fun lf xs => foldS (fun x env' q => tg.bnd x env' fun env2 => b.rd env2 { k with nx := q, ct := q, bk := k.nx }) xs (if lf = true then env else frz it.vs env) k.nx
  | .whl t b, env, k => ∃ n, loopS (fun env' q out => t.rd C k.ex env' fun fr d => ∃ c, truth d = some c ∧ if c = true then b.rd (aft t.vs fr d env') { k with nx := q, ct := q, bk := k.nx } else out (aft t.vs fr d env')) n env k.nx
  | .ret (.var i), env, k => match env[i]? with
    | some (.sh d) => k.rt false d
    | some (.ow d) => k.rt true d
    | _ => False
  | .ret e, env, k => e.rd C k.ex env k.rt
  | .retn, env, k => k.rt false .none
  | .brk, env, k => k.bk env
  | .cnt, env, k => k.ct env
  | .pass, env, k => k.nx env
  | .expr e, env, k => e.rd C k.ex env fun fr d => k.nx (aft e.vs fr d env)
def Sms.rd : Sms → Env → Kp → Prop
  | .nil, env, k => k.nx env
  | .cons s r, env, k => s.rd env { k with nx := fun env' => r.rd env' k }
end
end
end DL
set_option Elab.async false
set_option linter.all false
set_option maxRecDepth 100000
set_option maxHeartbeats 2000000
/-! Dm: t * 1 of a tuple. -/
namespace DL
open PySem PySem.Spec PyProof.Rows L2
theorem tuple_by1 (l : Addr) (items : Array Value) (n : Nat) (dd : Option Addr) (sl : Array (Option Value)) (u : Tok) :
    Meets (Builtin.«tuple.__mul__» ⟨[.ref l, .int 1 u], []⟩) (fun _ R s => s.heap.get? l = some { cls := .type "tuple", dict := dd, data := .seq items n, slots := sl } ∧ R (.ok (.ret (.ref l))) s) :=
  .of_wp fun prog w A R s h => by
    obtain ⟨hp, g, d, tk, os⟩ := s
    obtain ⟨hl, h⟩ := h
    have f1 := AutoSeq1.idx_int
    wp_walk using wpAny_loadPart' hl
    exact ⟨_, rfl, h⟩
def rRep1 (K : PySem.W.Frag) : R2 := fun x y H Q => ∃ l xs, x = .ref l ∧ y = .int 1 ∧ SqT K H l xs ∧ Q (.ref l) H
theorem op_rep1 {X : Cx} : OpR X (binaryOp .Mult) (rRep1 X.K) := by
  rintro pins s σ H x y v u Q I rx ry ⟨l, xs, rfl, rfl, hT, q⟩
  cases rx
  obtain ⟨t, rfl⟩ := ry
  obtain ⟨its, r, ⟨⟨cls, dd, data, sl⟩, ho, hc, n, hd⟩, hs⟩ := I.tuple hT
  simp only at hc hd
  subst hc hd
  refine wpAny_binaryOp_repeat_ref (T := "tuple") (U := "int") (by decide) ⟨_, ho, rfl⟩ (fun s' => typeIs_int s' 1 t) noFill_tuple_mul F.fills_int_mul F.slot_int_rmul repeat_tuple F.slot_int_index.lookup ?_
  refine call_meets F.slot_int_rmul (typeIs_int s 1 t) F.entry_int_rmul (F.args_int_rmul_2 _ _) (int_rmul_tuple 1 t l its.toArray n dd sl) ⟨ho, rfl, ⟨_, ho, rfl⟩, ?_⟩
  exact call_meets F.slot_tuple_mul ⟨_, ho, rfl⟩ F.entry_tuple_mul (F.args_tuple_mul_2 _ _) (tuple_by1 l its.toArray n dd sl t) ⟨ho, ⟨.ref l, H, I, rfl, q⟩⟩
/-- t * 0: a new empty tuple; () * k: the tuple itself -/
theorem tuple_by0 (l : Addr) (items : Array Value) (n : Nat) (dd : Option Addr) (sl : Array (Option Value)) (u : Tok) (h : items.isEmpty = false) :
    Meets (Builtin.«tuple.__mul__» ⟨[.ref l, .int 0 u], []⟩) (fun _ R s => s.heap.get? l = some { cls := .type "tuple", dict := dd, data := .seq items n, slots := sl } ∧
      R (.ok (.ret (.ref s.heap.objs.size))) { s with heap := s.heap.push { cls := .type "tuple", data := .seq #[] }, toks := s.toks }) :=
  .of_wp fun prog w A R s h0 => by
    obtain ⟨hp, g, d, tk, os⟩ := s
    obtain ⟨hl, h0⟩ := h0
    have f1 := AutoSeq1.idx_int
    wp_walk using wpAny_loadPart' hl
    repeat (first
      | (refine wpAny_ite_false (decide_eq_false (by rw [h]; decide)) ?_; wp_walk using wpAny_loadPart' hl)
      | (refine wpAny_ite_true (decide_eq_true (by rfl)) ?_; wp_walk using wpAny_loadPart' hl))
    exact ⟨_, rfl, h0⟩
end DL
set_option Elab.async false
set_option linter.all false
set_option maxRecDepth 100000
set_option maxHeartbeats 2000000
/-! Dt: tuples that are made, known to the object: no dict of their own. -/
namespace DL
open PySem PySem.Spec PyProof.Rows L2
section
variable {X : Cx} {K : PySem.W.Frag} {H : Hp} {a : Addr} {xs : List V}
theorem SqT.frz {o : Obj} (h : H a = some (.frz o (.tup xs))) : SqT K H a xs := .inl (.inr ⟨o, h⟩)
/-- a tuple is laid at the heap's end -/
theorem lay_tup {pins : List (Addr × Obj)} {σ : L2.St} {s : Shared} {Q : VK} {us : List Value} (I : Inv X pins σ H s) (r : Vals xs us) (z : xs.length ≤ sizeLine)
    (q : ∀ p o, H p = none → o.dict = none → Q (.ref p) (upd H p (.frz o (.tup xs)))) :
    EP X pins σ Q (.ref s.heap.objs.size) { s with heap := s.heap.push { cls := .type "tuple", data := .seq us.toArray } } := by
  have fresh := I.hok.fresh (Nat.le_refl s.heap.objs.size)
  have old : ∀ (c : Addr) (u : Obj), s.heap.get? c = some u → (s.heap.push { cls := .type "tuple", data := .seq us.toArray }).get? c = some u :=
    fun c u hc => Heap.get?_push_of_some _ hc
  have here : (s.heap.push { cls := .type "tuple", data := .seq us.toArray }).get? s.heap.objs.size = some { cls := .type "tuple", data := .seq us.toArray } := Heap.get?_push_size _ rfl
  refine ⟨.ref s.heap.objs.size, upd H s.heap.objs.size (.frz { cls := .type "tuple", data := .seq us.toArray } (.tup xs)), ?_, rfl, q _ _ fresh rfl⟩
  exact I.laid (t' := s.toks) old (Nat.le_refl _) ⟨here, z, us, r, _, here, rfl, _, rfl⟩
def tTupF (t : TA) : TE := fun σ H Q => t σ H fun xs H1 => xs.length ≤ sizeLine ∧ ∀ p o, H1 p = none → o.dict = none → Q (.ref p) (upd H1 p (.frz o (.tup xs)))
theorem pe_tupF {es : List Expr} {t : TA} {k : Nat} {pos : Pos} (h : PA X es t) : PE X (.Tuple es k pos) (tTupF t) := by
  constructor
  intro pins s σ H Q I hq
  refine wpAny_Tuple_spliced (thn (h.run pos pins s σ H _ I hq) ?_)
  rintro us s1 ⟨ys, H1, I1, r, z, q⟩
  refine ⟨?_, lay_tup I1 r z q⟩
  rw [← r.length]
  exact z
def rCatF (K : PySem.W.Frag) : R2 := fun x y H Q => ∃ a b xs ys, x = .ref a ∧ y = .ref b ∧ SqT K H a xs ∧ SqT K H b ys ∧ xs.length + ys.length ≤ sizeLine ∧
  (xs = [] → Q (.ref b) H) ∧ (ys = [] → Q (.ref a) H) ∧ ∀ p o, H p = none → o.dict = none → Q (.ref p) (upd H p (.frz o (.tup (xs ++ ys))))
theorem op_catF : OpR X (binaryOp .Add) (rCatF X.K) := by
  rintro pins s σ H x y v u Q I rx ry ⟨a, b, xs, ys, rfl, rfl, ha, hb, hz, q0, q1, q2⟩
  cases rx
  cases ry
  obtain ⟨us, r1, p1, -⟩ := I.tuple ha
  obtain ⟨ws, r2, p2, -⟩ := I.tuple hb
  rcases Classical.em (xs = []) with hx | hx
  · subst hx
    cases r1
    exact cat_tup0 p1 p2 ⟨.ref b, H, I, rfl, q0 rfl⟩
  · refine HT.cat_tup p1 p2 ?_ ?_ ?_ ?_
    · exact fun z => hx (r1.nil_iff.mp z)
    · exact fun z => ⟨.ref a, H, I, rfl, q1 (r2.nil_iff.mp z)⟩
    · exact fun _ => lay_tup I (r1.append r2) (by rw [List.length_append]; exact hz) q2
    · rw [← r1.length, ← r2.length]
      exact hz
def rSlF (K : PySem.W.Frag) : V → Option Int → Option Int → Hp → VK → Prop := fun x lo hi H Q => ∃ a xs, x = .ref a ∧ SqT K H a xs ∧
  (HT.sIx xs.length 0 lo = 0 ∧ HT.sIx xs.length xs.length hi = xs.length → Q (.ref a) H) ∧ ∀ p o, H p = none → o.dict = none → Q (.ref p) (upd H p (.frz o (.tup (cutV xs lo hi))))
theorem sl_tupF : SlR X (rSlF X.K) := by
  rintro pins s σ H x v vl vu lo hi sl Q I rx hs pl pu ⟨a, xs, rfl, hx, q1, q2⟩
  cases rx
  obtain ⟨us, r, ht, hz⟩ := I.tuple hx
  have len : us.toArray.size = xs.length := by
    have := r.length
    simp
    omega
  refine ⟨"tuple", _, PyProof.Rows.slot_tuple_getitem.lookup, ht.typeIs, ?_⟩
  rcases Classical.em (HT.sIx xs.length 0 lo = 0 ∧ HT.sIx xs.length xs.length hi = xs.length) with w | w
  · refine getItem_tuple_whole ht hs pl pu ?_ ⟨.ref a, H, I, rfl, q1 w⟩
    rw [len]
    exact w
  · refine HT.getItem_tuple_cut ht hs pl pu (by rw [len]; exact w) ?_ (by rw [len]; exact hz)
    rw [len]
    exact lay_tup I ((r.drop _).take _) (Nat.le_trans (cutV_length xs lo hi) hz) q2
def rTupF (K : PySem.W.Frag) : List V → Hp → VK → Prop := fun xs H Q => ∃ p ys, xs = [.ref p] ∧ ((SqL K H p ys ∧ ∀ l o, H l = none → o.dict = none → Q (.ref l) (upd H l (.frz o (.tup ys)))) ∨ (SqT K H p ys ∧ Q (.ref p) H))
theorem call_tupF : CallR X (.type "tuple") (rTupF X.K) := by
  rintro pins s σ H xs us Q I r ⟨p, ys, rfl, h⟩
  obtain ⟨u, rfl, rx⟩ := vals1 r
  cases rx
  rcases h with ⟨hq, q⟩ | ⟨hq, q⟩
  · obtain ⟨its, r', pl, hz⟩ := I.list hq
    have hlen := r'.length
    refine call_tuple_list pl.isList (fun h' kp => ?_) ?_
    · have I1 : Inv X pins σ H { s with heap := h' } := I.kept (t' := s.toks) kp
      exact lay_tup I1 r' hz q
    · simp only [List.size_toArray]
      omega
  · obtain ⟨its, _, pl, _⟩ := I.tuple hq
    exact call_tuple_same pl ⟨.ref p, H, I, rfl, q⟩
def rRepF (K : PySem.W.Frag) : R2 := fun x y H Q => ∃ (l : Addr) (k : Int) (xs : List V), x = .ref l ∧ y = .int k ∧ SqT K H l xs ∧ xs ≠ [] ∧ 2 ≤ k ∧ k ≤ 1000 ∧ xs.length ≤ 1000 ∧
  ∀ p o, H p = none → o.dict = none → Q (.ref p) (upd H p (.frz o (.tup (List.replicate k.toNat xs).flatten)))
theorem op_repF : OpR X (binaryOp .Mult) (rRepF X.K) := by
  rintro pins s σ H x y v u Q I rx ry ⟨l, k, xs, rfl, rfl, hT, hne, h1, h2, hz, q⟩
  cases rx
  obtain ⟨t, rfl⟩ := ry
  obtain ⟨us, r, ⟨⟨cls, dd, data, sl⟩, ho, hc, n, hd⟩, hs⟩ := I.tuple hT
  simp only at hc hd
  subst hc hd
  have le1 : us.length = xs.length := r.length.symm
  have sz : us.toArray.size = xs.length := by simpa using le1
  have ne : us.toArray.isEmpty = false := by
    cases us with
    | nil => exact absurd (List.eq_nil_of_length_eq_zero le1.symm) hne
    | cons a b => rfl
  have prod : k.toNat * xs.length ≤ 1000 * 1000 := Nat.mul_le_mul (by omega) hz
  have prodI : ((us.toArray.size : Nat) : Int) * k ≤ 1000000 := by
    rw [sz]
    exact Int.le_trans (Int.mul_le_mul_of_nonneg_right (show ((xs.length : Nat) : Int) ≤ 1000 by omega) (by omega)) (by omega)
  have fl : (List.replicate k.toNat us).flatten.length ≤ sizeLine := by
    rw [PyProof.Rows.lm_len_rep_flat, le1, sizeLine_eq]
    omega
  have e0 : (decide (k < -(2 ^ 63)) || decide (k ≥ 2 ^ 63)) = false := by simp; omega
  have e1 : (us.toArray.isEmpty || k == 1) = false := by rw [ne]; simp; omega
  have e2 : (decide (k ≤ 0) || us.toArray.isEmpty) = false := by rw [ne]; simp; omega
  have e4 : Builtin.Tuple.tupleTooMany (((us.toArray.size : Nat) : Int) * k) = false := by
    unfold Builtin.Tuple.tupleTooMany
    rw [sizeLine_eq]
    exact decide_eq_false (by omega)
  have inner := tuple_mulW l us.toArray n dd sl k t e0 e1 e2 (by omega) e4 (by rw [size_rep, List.size_toArray]; exact fl)
  refine wpAny_binaryOp_repeat_ref (T := "tuple") (U := "int") (by decide) ⟨_, ho, rfl⟩ (fun s' => typeIs_int s' k t)
    noFill_tuple_mul F.fills_int_mul F.slot_int_rmul repeat_tuple F.slot_int_index.lookup ?_
  refine call_meets F.slot_int_rmul (typeIs_int s k t) F.entry_int_rmul (F.args_int_rmul_2 _ _) (int_rmul_tuple k t l us.toArray n dd sl) ⟨ho, rfl, ⟨_, ho, rfl⟩, ?_⟩
  refine call_meets F.slot_tuple_mul ⟨_, ho, rfl⟩ F.entry_tuple_mul (F.args_tuple_mul_2 _ _) inner ⟨ho, ?_⟩
  rw [size_rep]
  exact lay_tup I (r.rep k.toNat) (by rw [PyProof.Rows.lm_len_rep_flat, sizeLine_eq]; omega) q
def rRep0 (K : PySem.W.Frag) : R2 := fun x y H Q => ∃ (l : Addr) (xs : List V), x = .ref l ∧ y = .int 0 ∧ SqT K H l xs ∧ xs ≠ [] ∧ ∀ p o, H p = none → o.dict = none → Q (.ref p) (upd H p (.frz o (.tup [])))
theorem op_rep0 : OpR X (binaryOp .Mult) (rRep0 X.K) := by
  rintro pins s σ H x y v u Q I rx ry ⟨l, xs, rfl, rfl, hT, hne, q⟩
  cases rx
  obtain ⟨t, rfl⟩ := ry
  obtain ⟨us, r, ⟨⟨cls, dd, data, sl⟩, ho, hc, n, hd⟩, hs⟩ := I.tuple hT
  simp only at hc hd
  subst hc hd
  have le1 : us.length = xs.length := r.length.symm
  have ne : us.toArray.isEmpty = false := by
    cases us with
    | nil => exact absurd (List.eq_nil_of_length_eq_zero le1.symm) hne
    | cons a b => rfl
  refine wpAny_binaryOp_repeat_ref (T := "tuple") (U := "int") (by decide) ⟨_, ho, rfl⟩ (fun s' => typeIs_int s' 0 t)
    noFill_tuple_mul F.fills_int_mul F.slot_int_rmul repeat_tuple F.slot_int_index.lookup ?_
  refine call_meets F.slot_int_rmul (typeIs_int s 0 t) F.entry_int_rmul (F.args_int_rmul_2 _ _) (int_rmul_tuple 0 t l us.toArray n dd sl) ⟨ho, rfl, ⟨_, ho, rfl⟩, ?_⟩
  refine call_meets F.slot_tuple_mul ⟨_, ho, rfl⟩ F.entry_tuple_mul (F.args_tuple_mul_2 _ _) (tuple_by0 l us.toArray n dd sl t ne) ⟨ho, ?_⟩
  exact lay_tup I (us := []) .nil (Nat.zero_le _) q
end
end DL
set_option Elab.async false
set_option linter.all false
set_option maxRecDepth 100000
set_option maxHeartbeats 2000000
/-! D2: the readings of D1 hold of the hand layer's. -/
namespace DL
open PySem PySem.Spec PyProof.Rows L2

theorem PE.imp {X : Cx} {e : Expr} {t t' : TE} (h : PE X e t) (k : ∀ σ H Q, t' σ H Q → t σ H Q) : PE X e t' := ⟨fun pins s σ H Q I q => h.run pins s σ H Q I (k σ H Q q)⟩
theorem PT.imp {X : Cx} {e : Expr} {t t' : TT} (h : PT X e t) (k : ∀ σ H Q, t' σ H Q → t σ H Q) : PT X e t' := ⟨fun pins s σ H Q I q => h.run pins s σ H Q I (k σ H Q q)⟩
theorem PW.imp {X : Cx} {e : Expr} {t t' : TT} (h : PW X e t) (k : ∀ σ H Q, t' σ H Q → t σ H Q) : PW X e t' := ⟨fun whole pins s σ H Q I q => h.run whole pins s σ H Q I (k σ H Q q)⟩
theorem PA.imp {X : Cx} {es : List Expr} {t t' : TA} (h : PA X es t) (k : ∀ σ H Q, t' σ H Q → t σ H Q) : PA X es t' := ⟨fun pos pins s σ H Q I q => h.run pos pins s σ H Q I (k σ H Q q)⟩
theorem PS.imp {X : Cx} {st : Stmt} {t t' : TS} (h : PS X st t) (k : ∀ D σ H, t' D σ H → t D σ H) : PS X st t' := ⟨fun pins s σ H D I q => h.run pins s σ H D I (k D σ H q)⟩
theorem PSs.imp {X : Cx} {st : List Stmt} {t t' : TS} (h : PSs X st t) (k : ∀ D σ H, t' D σ H → t D σ H) : PSs X st t' := ⟨fun pins s σ H D I q => h.run pins s σ H D I (k D σ H q)⟩
theorem PI.imp {X : Cx} {tg iter : Expr} {t t' : TI} (h : PI X tg iter t) (k : ∀ σ H Q, t' σ H Q → t σ H Q) : PI X tg iter t' := ⟨fun pins s σ H Q I q => h.run pins s σ H Q I (k σ H Q q)⟩
theorem PG.imp {X : Cx} {tg : Expr} {t t' : TG} (h : PG X tg t) (k : ∀ v σ H Q, t' v σ H Q → t v σ H Q) : PG X tg t' := by
  exact ⟨fun pins s σ H v u Q I r q => h.run pins s σ H v u Q I r (k v σ H Q q)⟩

/-- what is wanted of an exception of a class of the module, wherever it comes -/
def Rz (mg : Str → Option Value) (S : Sx) (G H : Hp) (Ep : Str → Prop) (E : XK) : Prop := ∀ x v G' H', Ext S G H G' H' → Ep x → mg x = some v → E v none H'
theorem Rz.ext {mg : Str → Option Value} {S : Sx} {G H G' H' : Hp} {Ep : Str → Prop} {E : XK} (r : Rz mg S G H Ep E) (x : Ext S G H G' H') (so : SrcOk S G H) : Rz mg S G' H' Ep E := fun a v G2 H2 y => r a v G2 H2 (x.trans so y)

/-- where an expression stands -/
structure Pt (X : Cx) (E : XK) (S : Sx) (G H : Hp) (σ : L2.St) (env : Env) (vs : List Nat) (Ep : Str → Prop) (Q : Bool → PyData → Prop) (Qh : VK) : Prop where
  st : StE X.K S G H σ env vs
  rz : Rz X.mg S G H Ep E
  fin : ∀ v H', Post X.K S G H Q v H' → Qh v H'
def tE (X : Cx) (C : Nat → Fs) (E : XK) (e : Ex) : TE := fun σ H Qh => ∃ S G env Ep Q, Pt X E S G H σ env e.vs Ep Q Qh ∧ e.rd C Ep env Q

section
variable {X : Cx} {C : Nat → Fs} {E : XK} {S : Sx} {G H G' H' : Hp} {σ : L2.St} {env : Env} {vs : List Nat} {Ep : Str → Prop} {Q : Bool → PyData → Prop} {Qh : VK}
theorem Pt.go (p : Pt X E S G H σ env vs Ep Q Qh) (x : Ext S G H G' H') : Pt X E S G' H' σ env vs Ep Q Qh :=
  ⟨p.st.ext x, p.rz.ext x p.st.src, fun v H2 q => p.fin v H2 (q.step x p.st.src)⟩
theorem Pt.less {ws : List Nat} (p : Pt X E S G H σ env vs Ep Q Qh) (h : ∀ i ∈ ws, i ∈ vs) : Pt X E S G H σ env ws Ep Q Qh := ⟨p.st.less h, p.rz, p.fin⟩
theorem Pt.use (p : Pt X E S G H σ env vs Ep Q Qh) {a : Ex} {Qa : Bool → PyData → Prop} {Qv : VK} (hv : ∀ i ∈ a.vs, i ∈ vs) (h : a.rd C Ep env Qa)
    (k : ∀ v G' H' fr d, Pt X E S G' H' σ env vs Ep Q Qh → Ext S G H G' H' → R X.K G' v d → Qa fr d → Qv v H') : tE X C E a σ H Qv :=
  ⟨S, G, env, Ep, Qa, ⟨p.st.less hv, p.rz, fun v H' q => by
    obtain ⟨G', fr, d, x, r, q⟩ := q.frz p.st.src
    exact k v G' H' fr d (p.go x) x r q⟩, h⟩
/-- .. to go on with what it gives -/
theorem Pt.tail (p : Pt X E S G H σ env vs Ep Q Qh) {a : Ex} (hv : ∀ i ∈ a.vs, i ∈ vs) (h : a.rd C Ep env Q) : tE X C E a σ H Qh := ⟨S, G, env, Ep, Q, p.less hv, h⟩
theorem Pt.sub (p : Pt X E S G H σ env vs Ep Q Qh) : Sub G H := p.st.sub
theorem Pt.done (p : Pt X E S G H σ env vs Ep Q Qh) {v : V} {d : PyData} (r : R X.K G v d) (q : Q false d) : Qh v H := p.fin _ _ (.here p.st.sub p.st.src r q)
theorem Pt.newL (p : Pt X E S G H σ env vs Ep Q Qh) {a : Addr} {xs : List V} {ds : List PyData} (n : H a = none) (r : RAll X.K G xs ds) (q : Q true (.list ds)) : Qh (.ref a) (upd H a (.lst xs)) :=
  p.fin _ _ (.newL p.st.sub p.st.src n r q)
theorem Pt.newT (p : Pt X E S G H σ env vs Ep Q Qh) {a : Addr} {o : Obj} {xs : List V} {ds : List PyData} (n : H a = none) (hd : o.dict = none) (r : RAll X.K G xs ds) (q : Q false (.tuple ds)) : Qh (.ref a) (upd H a (.frz o (.tup xs))) :=
  p.fin _ _ (.newT p.st.sub p.st.src n hd r q)
theorem lim_size {n : Nat} (h : n ≤ lim) : n ≤ sizeLine := by rw [sizeLine_eq]; unfold lim at h; omega
theorem lim_lt {n : Nat} (h : n < lim) : n < sizeLine := by rw [sizeLine_eq]; unfold lim at h; omega

/-! ### readings of values -/
theorem R.int' {K : PySem.W.Frag} {v : V} {i : Int} (r : R K G v (.int i)) : v = .int i := by cases r; rfl
theorem R.str' {K : PySem.W.Frag} {v : V} {i : Str} (r : R K G v (.str i)) : v = .str i := by cases r; rfl
theorem R.bl' {K : PySem.W.Frag} {v : V} {i : Bool} (r : R K G v (.bool i)) : v = .bl i := by cases r; rfl
theorem R.non' {K : PySem.W.Frag} {v : V} (r : R K G v .none) : v = .non := by cases r; rfl
theorem R.lst' {K : PySem.W.Frag} {v : V} {ds : List PyData} (r : R K G v (.list ds)) : ∃ a xs, v = .ref a ∧ G a = some (.lst xs) ∧ RAll K G xs ds := by
  cases r with
  | lst h r => exact ⟨_, _, rfl, h, r⟩
theorem R.tup' {K : PySem.W.Frag} {v : V} {ds : List PyData} (r : R K G v (.tuple ds)) : ∃ a xs, v = .ref a ∧ SqT K G a xs ∧ RAll K G xs ds := by
  cases r with
  | tup h hd r => exact ⟨_, _, rfl, SqT.frz h, r⟩
theorem R.tupS {K : PySem.W.Frag} {v : V} {ds : List PyData} (r : R K G v (.tuple ds)) : ∃ a o xs, v = .ref a ∧ G a = some (.frz o (.tup xs)) ∧ o.dict = none ∧ RAll K G xs ds := by
  cases r with
  | tup h hd r => exact ⟨_, _, _, rfl, h, hd, r⟩
theorem isInt_iff {d : PyData} {Q : Int → Prop} (h : isInt d Q) : ∃ i, d = .int i ∧ Q i := by
  cases d <;> first | exact ⟨_, rfl, h⟩ | cases h

/-! ### names, constants -/
theorem sd_var {i : Nat} {x : Str} {pos : Pos} (hN : X.N[i]? = some x) (hv : Vis X.env.scope x) (hd : (x == ("__debug__" : Str)) = false) (hc : (x == ("__classdict__" : Str)) = false) : PE X (.Name x pos) (tE X C E (.var i)) :=
  PE.imp (pe_var hN hv hd hc) fun σ H Qh ⟨S, G, env, Ep, Q, p, h⟩ => by
    have s := p.st.at_ i (by simp [Ex.vs])
    unfold Ex.rd at h
    cases e : env[i]? with
    | none => rw [e] at h; exact h.elim
    | some l =>
      have s := s l e
      rw [e] at h
      cases l with
      | un => exact h.elim
      | src => exact h.elim
      | sh d => obtain ⟨v, e1, r⟩ := s; exact ⟨v, e1, p.done r h⟩
      | ow d => obtain ⟨v, e1, r⟩ := s; exact ⟨v, e1, p.done r h⟩
theorem sd_lit {e : Expr} {v : V} {d : PyData} (h : PE X e (tC v)) (r : ∀ G : Hp, R X.K G v d) : PE X e (tE X C E (.lit d)) :=
  PE.imp h fun σ H Qh ⟨S, G, env, Ep, Q, p, h⟩ => p.done (r G) h

/-! ### two operands -/
theorem sd_bin0 {op : Operator} {o : Bop} {r : R2} {a b : Expr} {ea eb : Ex} {pos : Pos} (ho : OpR X (binaryOp op) r) (ha : PE X a (tE X C E ea)) (hb : PE X b (tE X C E eb))
    (k : ∀ {S : Sx} {G H : Hp} {σ : L2.St} {env : Env} {vs : List Nat} {Ep : Str → Prop} {Q : Bool → PyData → Prop} {Qh : VK} {v w : V} {x y : PyData}, Pt X E S G H σ env vs Ep Q Qh → R X.K G v x → R X.K G w y → BinP o x y Q → r v w H Qh) : PE X (.BinOp a op b pos) (tE X C E (.bin o ea eb)) :=
  PE.imp (pe_op ho ha hb) fun σ H Qh ⟨S, G, env, Ep, Q, p, h⟩ =>
    p.use (fun i hi => by simp [Ex.vs]; exact .inl hi) (by simpa only [Ex.rd] using h) fun v G1 H1 f x p1 x1 r1 h1 =>
      p1.use (fun i hi => by simp [Ex.vs]; exact .inr hi) h1 fun w G2 H2 f' y p2 x2 r2 h2 => k p2 (r1.mono x2.gg) r2 h2


theorem ixD {vs : List V} {ds : List PyData} {K : PySem.W.Frag} (r : RAll K G vs ds) {i : Int} {d : PyData} (h : atI ds i = some d) : ∃ v, atI vs i = some v ∧ R K G v d := by
  unfold atI at h ⊢
  rw [r.length]
  cases e : ixN ds.length i with
  | none => rw [e] at h; cases h
  | some j => rw [e] at h; exact r.get j h
theorem cutR {vs : List V} {ds : List PyData} {K : PySem.W.Frag} (r : RAll K G vs ds) (lo hi : Option Int) : RAll K G (cutV vs lo hi) (cutD ds lo hi) := by
  unfold cutV cutD
  rw [r.length]
  exact (r.drop _).take _
theorem sd_add {a b : Expr} {ea eb : Ex} {pos : Pos} (ha : PE X a (tE X C E ea)) (hb : PE X b (tE X C E eb)) : PE X (.BinOp a .Add b pos) (tE X C E (.bin .add ea eb)) :=
  sd_bin0 (op_add.or (op_add_str.or (op_cat.or op_catF))) ha hb fun {S G H σ env vs Ep Q Qh v w x y} p r1 r2 h => by
    cases x <;> cases y <;> first
      | exact False.elim h
      | (rw [r1.int', r2.int']; exact .inl ⟨_, _, rfl, rfl, p.done (.int _) h⟩)
      | (rw [r1.str', r2.str']; exact .inr (.inl ⟨_, _, rfl, rfl, lim_size h.1, p.done (.str _) h.2⟩))
      | (obtain ⟨a, xs, rfl, h1, q1⟩ := r1.lst'
         obtain ⟨b, ys, rfl, h2, q2⟩ := r2.lst'
         exact .inr (.inr (.inl ⟨a, b, xs, ys, rfl, rfl, p.sub _ _ h1, p.sub _ _ h2, by rw [q1.length, q2.length]; exact lim_size h.1, fun l hl => p.newL hl (q1.append q2) h.2⟩)))
      | (obtain ⟨a, xs, rfl, h1, q1⟩ := r1.tup'
         obtain ⟨b, ys, rfl, h2, q2⟩ := r2.tup'
         refine .inr (.inr (.inr ⟨a, b, xs, ys, rfl, rfl, p.sub.t h1, p.sub.t h2, by rw [q1.length, q2.length]; exact lim_size h.1, fun e => ?_, fun e => ?_, fun l o hl hd => p.newT hl hd (q1.append q2) h.2⟩))
         · subst e; cases q1; exact p.done r2 h.2
         · subst e; cases q2; obtain ⟨_, h⟩ := h; rw [List.append_nil] at h; exact p.done r1 h)
theorem sd_opI {op : Operator} {o : Bop} {Cn : Int → Int → Prop} {g : Int → Int → Int} {a b : Expr} {ea eb : Ex} {pos : Pos} (ho : OpR X (binaryOp op) (rI Cn fun i j => .int (g i j))) (ha : PE X a (tE X C E ea)) (hb : PE X b (tE X C E eb))
    (k : ∀ {x y Q}, BinP o x y Q → ∃ i j, x = .int i ∧ y = .int j ∧ Cn i j ∧ Q false (.int (g i j))) : PE X (.BinOp a op b pos) (tE X C E (.bin o ea eb)) :=
  sd_bin0 ho ha hb fun {S G H σ env vs Ep Q Qh v w x y} p r1 r2 h => by
    obtain ⟨i, j, rfl, rfl, c, q⟩ := k h
    rw [r1.int', r2.int']
    exact ⟨i, j, rfl, rfl, c, p.done (.int _) q⟩
theorem sd_opI0 {op : Operator} {o : Bop} {g : Int → Int → Int} {a b : Expr} {ea eb : Ex} {pos : Pos} (ho : OpR X (binaryOp op) (rI0 fun i j => .int (g i j))) (ha : PE X a (tE X C E ea)) (hb : PE X b (tE X C E eb))
    (k : ∀ {x y Q}, BinP o x y Q → ∃ i j, x = .int i ∧ y = .int j ∧ Q false (.int (g i j))) : PE X (.BinOp a op b pos) (tE X C E (.bin o ea eb)) :=
  sd_bin0 ho ha hb fun {S G H σ env vs Ep Q Qh v w x y} p r1 r2 h => by
    obtain ⟨i, j, rfl, rfl, q⟩ := k h
    rw [r1.int', r2.int']
    exact ⟨i, j, rfl, rfl, p.done (.int _) q⟩
theorem sd_mul {a b : Expr} {ea eb : Ex} {pos : Pos} (ha : PE X a (tE X C E ea)) (hb : PE X b (tE X C E eb)) : PE X (.BinOp a .Mult b pos) (tE X C E (.bin .mul ea eb)) :=
  sd_bin0 (op_mulW.or (op_mul.or (op_rep.or (op_rep1.or (op_rep0.or op_repF))))) ha hb fun {S G H σ env vs Ep Q Qh v w x y} p r1 r2 h => by
    cases x <;> cases y <;> first
      | exact False.elim h
      | (rw [r1.int', r2.int']
         rcases h.1 with c | c
         · exact .inl ⟨_, _, rfl, rfl, c, p.done (.int _) h.2⟩
         · exact .inr (.inl ⟨_, _, rfl, rfl, c, p.done (.int _) h.2⟩))
      | (obtain ⟨a, xs, rfl, h1, q1⟩ := r1.lst'
         rw [r2.int']
         exact .inr (.inr (.inl ⟨a, _, xs, rfl, rfl, p.sub _ _ h1, by have := h.1; omega, by have := h.2.1; omega, by rw [q1.length]; exact lim_size h.2.2.1, fun l hl => p.newL hl (q1.reps _) h.2.2.2⟩)))
      | (obtain ⟨a, xs, rfl, h1, q1⟩ := r1.tup'
         rw [r2.int']
         rename_i ds k
         obtain ⟨n0, k1, k2, k3, q⟩ := h
         have xn : xs ≠ [] := by
           rintro rfl
           cases q1
           exact n0 rfl
         by_cases e : k = 1
         · subst e
           refine .inr (.inr (.inr (.inl ⟨a, xs, rfl, rfl, p.sub.t h1, p.done r1 ?_⟩)))
           simpa using q
         · by_cases e0 : k = 0
           · subst e0
             refine .inr (.inr (.inr (.inr (.inl ⟨a, xs, rfl, rfl, p.sub.t h1, xn, fun l o hl hd => p.newT hl hd .nil ?_⟩))))
             simpa using q
           · exact .inr (.inr (.inr (.inr (.inr ⟨a, k, xs, rfl, rfl, p.sub.t h1, xn, by omega, k2, by rw [q1.length]; exact k3, fun l o hl hd => p.newT hl hd (q1.reps _) q⟩)))))
theorem sd_sub {a b : Expr} {ea eb : Ex} {pos : Pos} (ha : PE X a (tE X C E ea)) (hb : PE X b (tE X C E eb)) : PE X (.BinOp a .Sub b pos) (tE X C E (.bin .sub ea eb)) :=
  sd_opI0 op_sub ha hb fun {x y Q} h => by cases x <;> cases y <;> first | exact ⟨_, _, rfl, rfl, h⟩ | exact False.elim h
theorem sd_fdiv {a b : Expr} {ea eb : Ex} {pos : Pos} (ha : PE X a (tE X C E ea)) (hb : PE X b (tE X C E eb)) : PE X (.BinOp a .FloorDiv b pos) (tE X C E (.bin .fdiv ea eb)) :=
  sd_opI op_fdivW ha hb fun {x y Q} h => by cases x <;> cases y <;> first | exact ⟨_, _, rfl, rfl, h⟩ | exact False.elim h
theorem sd_mod {a b : Expr} {ea eb : Ex} {pos : Pos} (ha : PE X a (tE X C E ea)) (hb : PE X b (tE X C E eb)) : PE X (.BinOp a .Mod b pos) (tE X C E (.bin .mod ea eb)) :=
  sd_opI op_mod ha hb fun {x y Q} h => by cases x <;> cases y <;> first | exact ⟨_, _, rfl, rfl, h⟩ | exact False.elim h
theorem sd_pow {a b : Expr} {ea eb : Ex} {pos : Pos} (ha : PE X a (tE X C E ea)) (hb : PE X b (tE X C E eb)) : PE X (.BinOp a .Pow b pos) (tE X C E (.bin .pow ea eb)) :=
  sd_opI op_pow ha hb fun {x y Q} h => by cases x <;> cases y <;> first | exact ⟨_, _, rfl, rfl, h⟩ | exact False.elim h
theorem sd_shl {a b : Expr} {ea eb : Ex} {pos : Pos} (ha : PE X a (tE X C E ea)) (hb : PE X b (tE X C E eb)) : PE X (.BinOp a .LShift b pos) (tE X C E (.bin .shl ea eb)) :=
  sd_opI op_shlW ha hb fun {x y Q} h => by cases x <;> cases y <;> first | exact ⟨_, _, rfl, rfl, h⟩ | exact False.elim h
theorem sd_shr {a b : Expr} {ea eb : Ex} {pos : Pos} (ha : PE X a (tE X C E ea)) (hb : PE X b (tE X C E eb)) : PE X (.BinOp a .RShift b pos) (tE X C E (.bin .shr ea eb)) :=
  sd_opI op_shr ha hb fun {x y Q} h => by cases x <;> cases y <;> first | exact ⟨_, _, rfl, rfl, h⟩ | exact False.elim h
theorem sd_band {a b : Expr} {ea eb : Ex} {pos : Pos} (ha : PE X a (tE X C E ea)) (hb : PE X b (tE X C E eb)) : PE X (.BinOp a .BitAnd b pos) (tE X C E (.bin .band ea eb)) :=
  sd_opI0 op_and ha hb fun {x y Q} h => by cases x <;> cases y <;> first | exact ⟨_, _, rfl, rfl, h⟩ | exact False.elim h
theorem sd_bor {a b : Expr} {ea eb : Ex} {pos : Pos} (ha : PE X a (tE X C E ea)) (hb : PE X b (tE X C E eb)) : PE X (.BinOp a .BitOr b pos) (tE X C E (.bin .bor ea eb)) :=
  sd_opI0 op_or ha hb fun {x y Q} h => by cases x <;> cases y <;> first | exact ⟨_, _, rfl, rfl, h⟩ | exact False.elim h
theorem sd_bxor {a b : Expr} {ea eb : Ex} {pos : Pos} (ha : PE X a (tE X C E ea)) (hb : PE X b (tE X C E eb)) : PE X (.BinOp a .BitXor b pos) (tE X C E (.bin .bxor ea eb)) :=
  sd_opI0 op_xor ha hb fun {x y Q} h => by cases x <;> cases y <;> first | exact ⟨_, _, rfl, rfl, h⟩ | exact False.elim h
theorem sd_neg {a : Expr} {ea : Ex} {pos : Pos} (ha : PE X a (tE X C E ea)) : PE X (.UnaryOp .USub a pos) (tE X C E (.neg ea)) :=
  PE.imp (pe_un un_neg ha) fun σ H Qh ⟨S, G, env, Ep, Q, p, h⟩ =>
    p.use (fun i hi => by simpa [Ex.vs] using hi) (by simpa only [Ex.rd] using h) fun v G1 H1 f x p1 x1 r1 h1 => by
      obtain ⟨i, rfl, h1⟩ := isInt_iff h1
      rw [r1.int']
      exact ⟨i, rfl, p1.done (.int _) h1⟩
end
end DL
set_option Elab.async false
set_option linter.all false
set_option maxRecDepth 100000
set_option maxHeartbeats 2000000
/-! Dw: == of a tuple with a tuple of which one is (): no thing is looked at. -/
namespace DL
open PySem PySem.Spec PyProof.Rows L2
section
variable {X : Cx}
def rEqT0 (K : PySem.W.Frag) : R2 := fun x y H Q => ∃ a b xs, x = .ref a ∧ y = .ref b ∧ SqT K H a xs ∧ SqT K H b [] ∧ Q (.bl xs.isEmpty) H
theorem op_eqT0 (hu : X.A.units + 64 < cLine) : OpR X (compareOp .Eq) (rEqT0 X.K) := by
  rintro pins s σ H x y v u Q I rx ry ⟨a, b, xs, rfl, rfl, ha, hb, q⟩
  cases rx
  cases ry
  obtain ⟨us, r1, p1, -⟩ := I.tuple ha
  obtain ⟨ws, r2, p2, -⟩ := I.tuple hb
  cases r2
  have h := SeqAt.RcAt.tuples (A := X.A) (e := fun _ => true) p1 p2 (by omega) (fun j h1 h2 => absurd h2 (by simp))
  refine h X.prog X.w _ _ ?_
  have e : (((List.range (min us.toArray.size (#[] : Array Value).size)).all fun _ => true) && us.toArray.size == (#[] : Array Value).size) = xs.isEmpty := by
    cases us with
    | nil => rw [r1.nil_iff.mp rfl]; rfl
    | cons u us =>
      cases xs with
      | nil => cases r1
      | cons x xs => simp
  rw [e]
  exact ⟨.bl _, H, I, rfl, q⟩
def rEqT1 (K : PySem.W.Frag) : R2 := fun x y H Q => ∃ a b f g xs, x = .ref a ∧ y = .ref b ∧ SqT K H a (.str f :: xs) ∧ SqT K H b [.str g] ∧ Q (.bl (f == g && xs.isEmpty)) H
theorem op_eqT1 (hu : X.A.units + 64 < cLine) : OpR X (compareOp .Eq) (rEqT1 X.K) := by
  rintro pins s σ H x y v u Q I rx ry ⟨a, b, f, g, xs, rfl, rfl, ha, hb, q⟩
  cases rx
  cases ry
  obtain ⟨us, r1, p1, -⟩ := I.tuple ha
  obtain ⟨ws, r2, p2, -⟩ := I.tuple hb
  cases r1 with
  | cons q1 r1 =>
    cases r2 with
    | cons q2 r2 =>
      cases r2
      obtain ⟨t1, rfl⟩ := q1
      obtain ⟨t2, rfl⟩ := q2
      have h := SeqAt.RcAt.tuples (A := X.A) (e := fun _ => f == g) p1 p2 (by omega) (fun j h1 h2 => by
        obtain rfl : j = 0 := by simp at h2; omega
        exact SeqAt.EqAt.str_str f t1 g t2)
      refine h X.prog X.w _ _ ?_
      rename_i us
      have e : (((List.range (min (Value.str f t1 :: us).toArray.size #[Value.str g t2].size)).all fun _ => f == g) && (Value.str f t1 :: us).toArray.size == #[Value.str g t2].size) = (f == g && xs.isEmpty) := by
        cases us with
        | nil => cases r1; simp
        | cons u us =>
          cases xs with
          | nil => cases r1
          | cons x xs => simp
      rw [show [Value.str g t2].toArray = #[Value.str g t2] from rfl, e]
      exact ⟨.bl _, H, I, rfl, q⟩
end
end DL
set_option Elab.async false
set_option linter.all false
set_option maxRecDepth 100000
set_option maxHeartbeats 2000000
/-! Dh: dicts of data. -/
namespace DL
open PySem PySem.Spec PyProof.Rows L2

theorem keyEqA_kD (a b : Key) : keyEqA (kD a) (kD b) = decide (a = b) := by
  cases a <;> cases b <;> simp [keyEqA, kD] <;> (rw [Bool.eq_iff_iff]; simp)
theorem keyEq_kD (a b : Key) : keyEq (kD a) (kD b) = decide (a = b) := by
  cases a <;> cases b <;> simp [keyEq, kD] <;> (rw [Bool.eq_iff_iff]; simp)
theorem keyEqL_kD : ∀ (a b : List Key), keyEqL (a.map kD) (b.map kD) = decide (a = b)
  | [], [] => rfl
  | [], _ :: _ => rfl
  | _ :: _, [] => rfl
  | a :: as, b :: bs => by
    simp only [List.map_cons, keyEqL, keyEqA_kD, keyEqL_kD as bs, List.cons.injEq, Bool.decide_and]
theorem keyEq_kDs (a b : List Key) : keyEq (.tuple (a.map kD)) (.tuple (b.map kD)) = decide (a = b) := keyEqL_kD a b
theorem atomK_kD (a : Key) : atomK (kD a) = true := by cases a <;> rfl
theorem tupK_kD (a : Key) : tupK (kD a) = false := by cases a <;> rfl
theorem atom_of {d : PyData} (h : atomK d = true) : ∃ k, d = kD k := by
  cases d with
  | int i => exact ⟨.inl i, rfl⟩
  | str x => exact ⟨.inr x, rfl⟩
  | _ => cases h
theorem atoms_of : ∀ {ds : List PyData}, ds.all atomK = true → ∃ ks : List Key, ds = ks.map kD
  | [], _ => ⟨[], rfl⟩
  | d :: ds, h => by
    rw [List.all_cons, Bool.and_eq_true] at h
    obtain ⟨k, rfl⟩ := atom_of h.1
    obtain ⟨ks, rfl⟩ := atoms_of h.2
    exact ⟨k :: ks, rfl⟩
theorem tup_of_key {d : PyData} (h : tupK d = true) : ∃ ks : List Key, d = .tuple (ks.map kD) := by
  cases d with
  | tuple xs => obtain ⟨ks, rfl⟩ := atoms_of (show xs.all atomK = true from h); exact ⟨ks, rfl⟩
  | _ => cases h
section
variable {K : PySem.W.Frag} {G H : Hp}
theorem R.atom {v : V} {k : Key} (r : R K G v (kD k)) : v = kV k := by
  cases k with
  | inl i => cases r; rfl
  | inr x => cases r; rfl
theorem RAll.atoms : ∀ {ks : List Key} {vs : List V}, RAll K G vs (ks.map kD) → vs = ks.map kV
  | [], _, .nil => rfl
  | k :: ks, _, .cons h t => by rw [List.map_cons, R.atom h, RAll.atoms t]
/-- a table, and data, of the same keys -/
theorem look_gen {κ : Type} [DecidableEq κ] (em : κ → PyData) (he : ∀ a b, keyEq (em a) (em b) = decide (a = b)) (k : κ) : ∀ {kvs0 : List (κ × V)} {kvs : List (PyData × PyData)}, RKV K G (kvs0.map fun p => (em p.1, p.2)) kvs →
    match valV kvs0 k with
    | some v => ∃ d, lookD kvs (em k) = some d ∧ R K G v d
    | none => lookD kvs (em k) = none
  | [], _, .nil => rfl
  | p :: r, _, .cons h t => by
    have ih := look_gen em he k t
    by_cases e : p.1 = k
    · rw [valV_pos e]
      exact ⟨_, by unfold lookD; rw [List.find?_cons, he, decide_eq_true e]; rfl, h⟩
    · rw [valV_neg e]
      have z : ∀ (y : PyData) (kvs : List (PyData × PyData)), lookD ((em p.1, y) :: kvs) (em k) = lookD kvs (em k) := fun y kvs => by
        unfold lookD
        rw [List.find?_cons, he, decide_eq_false e]
      rw [z]
      exact ih
theorem any_gen {κ : Type} [DecidableEq κ] (em : κ → PyData) (he : ∀ a b, keyEq (em a) (em b) = decide (a = b)) (k : κ) : ∀ {kvs0 : List (κ × V)} {kvs : List (PyData × PyData)}, RKV K G (kvs0.map fun p => (em p.1, p.2)) kvs →
    (kvs0.any fun kv => decide (kv.1 = k)) = kvs.any fun p => keyEq p.1 (em k)
  | [], _, .nil => rfl
  | p :: r, _, .cons h t => by rw [List.any_cons, List.any_cons, any_gen em he k t, he]
theorem repl_gen {κ : Type} [DecidableEq κ] (em : κ → PyData) (he : ∀ a b, keyEq (em a) (em b) = decide (a = b)) (k : κ) {v : V} {d : PyData} (r : R K G v d) : ∀ {kvs0 : List (κ × V)} {kvs : List (PyData × PyData)}, RKV K G (kvs0.map fun p => (em p.1, p.2)) kvs →
    RKV K G ((kvs0.map fun kv => if kv.1 = k then (kv.1, v) else kv).map fun p => (em p.1, p.2)) (kvs.map fun p => if keyEq p.1 (em k) = true then (p.1, d) else p)
  | [], _, .nil => .nil
  | p :: rr, _, .cons h t => by
    rw [List.map_cons, List.map_cons, List.map_cons]
    by_cases e : p.1 = k
    · rw [if_pos e, if_pos (by rw [he, decide_eq_true e])]; exact .cons r (repl_gen em he k r t)
    · rw [if_neg e, if_neg (by rw [he, decide_eq_false e]; exact Bool.false_ne_true)]; exact .cons h (repl_gen em he k r t)
theorem RKV.snoc {k : PyData} {v : V} {d : PyData} (r : R K G v d) : ∀ {ps : List (PyData × V)} {kvs : List (PyData × PyData)}, RKV K G ps kvs → RKV K G (ps ++ [(k, v)]) (kvs ++ [(k, d)])
  | _, _, .nil => .cons r .nil
  | _, _, .cons h t => .cons h (RKV.snoc r t)
theorem put_gen {κ : Type} [DecidableEq κ] (em : κ → PyData) (he : ∀ a b, keyEq (em a) (em b) = decide (a = b)) (k : κ) {v : V} {d : PyData} (r : R K G v d) {kvs0 : List (κ × V)} {kvs : List (PyData × PyData)} (h : RKV K G (kvs0.map fun p => (em p.1, p.2)) kvs) :
    RKV K G ((putK kvs0 k v).map fun p => (em p.1, p.2)) (putD kvs (em k) d) := by
  unfold putK putD
  rw [any_gen em he k h]
  split
  · exact repl_gen em he k r h
  · rw [List.map_append]; exact RKV.snoc r h
theorem RKV.length : ∀ {ps : List (PyData × V)} {kvs : List (PyData × PyData)}, RKV K G ps kvs → ps.length = kvs.length
  | _, _, .nil => rfl
  | _, _, .cons h t => by rw [List.length_cons, List.length_cons, RKV.length t]
/-- what a dict that is read holds at a key -/
theorem dic_get {v w : V} {kvs : List (PyData × PyData)} {k : PyData} (s : Sub G H) (r : R K G v (.dict kvs)) (rk : R K G w k) (hk : keyFor kvs k = true) :
    ∃ a o, v = .ref a ∧ DGet H a w o ∧ (match o with | some u => ∃ d, lookD kvs k = some d ∧ R K G u d | none => lookD kvs k = none) := by
  cases r with
  | @dic a o ps _ h dp q =>
    obtain ⟨kvs0, rfl, rfl⟩ := dp
    obtain ⟨κ, rfl⟩ := atom_of (show atomK k = true from hk)
    have e := R.atom rk
    subst e
    exact ⟨a, _, rfl, .inl ⟨kvs0, κ, s.rd h, rfl, rfl⟩, look_gen kD keyEq_kD κ q⟩
end
section
variable {X : Cx}
/-- y in d, by values -/
theorem op_inDic (hu : X.A.units + 65 < cLine) : OpR X (compareOp .In) (fun y x H Q => ∃ a o, x = .ref a ∧ DGet H a y o ∧ Q (.bl o.isSome) H) := by
  intro pins s σ H x y v u Q I rx ry h
  obtain ⟨a, o, rfl, g, q⟩ := h
  obtain rfl : u = Value.ref a := ry
  exact d_in (by omega) I g rx fun s' I' => ⟨.bl o.isSome, H, I', rfl, q⟩
theorem op_notInDic (hu : X.A.units + 65 < cLine) : OpR X (compareOp .NotIn) (fun y x H Q => ∃ a o, x = .ref a ∧ DGet H a y o ∧ Q (.bl (!o.isSome)) H) := by
  intro pins s σ H x y v u Q I rx ry h
  obtain ⟨a, o, rfl, g, q⟩ := h
  obtain rfl : u = Value.ref a := ry
  exact d_notIn (by omega) I g rx fun s' I' => ⟨.bl (!o.isSome), H, I', rfl, q⟩
theorem ix_dict (hu : X.A.units + 65 < cLine) : IxR X (fun x y H Q => ∃ a v, x = .ref a ∧ DGet H a y (some v) ∧ Q v H) := by
  intro value slice pins s σ H x y v u Q I rx ry h hs
  obtain ⟨a, z, rfl, g, q⟩ := h
  obtain rfl : v = Value.ref a := rx
  have hT := dict_typeIs I g
  unfold subscriptTail
  refine wpAny_bind ?_
  rw [getitemInPython_of_ne hT.not_modules]
  refine wpAny_bind (wpAny_specialOf hT PySem.F.slot_dict_getitem.lookup ?_)
  have fin : wpAny (model X.prog X.w) X.A (subscripted slice false (.ref a) u) (fun r s₃ => wpAny (model X.prog X.w) X.A (letTemporaryGo value (.ref a) r >>= fun _ => pure r) (EP X pins σ Q) X.xe s₃) X.xe s := by
    rw [hs]
    exact wpAny_operating (wpAny_mono (d_getItem (Q := EP X pins σ Q) (E := X.xe) (by omega) I g ry fun w' s' I' rw' => ⟨z, H, I', rw', q⟩) (fun r s₃ h₃ => wpAny_bind (wpAny_letTemporaryGo (wpAny_pure h₃))) fun _ _ x => x)
  first
    | exact wpAny_pure (wpAny_bind fin)
    | exact wpAny_bind (wpAny_pure (wpAny_bind fin))
    | exact wpAny_bind fin
/-- a[y] = v -/
def rSetD : V → V → V → Hp → (Hp → Prop) → Prop := fun o i v H Q => ∃ (a : Addr) (kvs : List (Key × V)) (k : Key), o = .ref a ∧ H a = some (.dK kvs) ∧ i = kV k ∧ kvs.length < sizeLine ∧ Q (upd H a (.dK (putK kvs k v)))
theorem set_dict (hu : X.A.units + 65 < cLine) : PSet X rSetD := by
  intro pins s σ H o i v ov iv u Q I ro ri rv h
  obtain ⟨a, kvs, k, rfl, e, rfl, hl, q⟩ := h
  obtain rfl : ov = Value.ref a := ro
  exact d_setItem (by omega) I (DPut.k e hl) ri rv fun s' I' => ⟨_, I', q⟩
theorem get_list : PGet X (rIxL X.K) := by
  rintro pins s σ H o i ov iv Q I ro ri ⟨p, xs, k, v, rfl, rfl, hq, he, q⟩
  cases ro
  obtain ⟨t, rfl⟩ := ri
  obtain ⟨us, r, pl, hz⟩ := I.list hq
  obtain ⟨j, h1, h2, h3, h4, h5⟩ := atI_get he
  obtain ⟨w, ew, rw'⟩ := r.get h2
  have hl := r.length
  have hn := line63
  have fin : EP X pins σ Q w s := ⟨v, H, I, rw', q⟩
  by_cases h0 : 0 ≤ k
  · have hj : k.toNat = j := by
      rw [seqIndex_of h0 h5] at h1
      exact Option.some.inj h1
    exact wpAny_getItem_list pl.isList h0 (by omega) (by rw [hj]; simpa using ew) fin
  · have hj : (k + (us.toArray.size : Int)).toNat = j := by
      rw [seqIndex_neg (by omega) h4] at h1
      rw [List.size_toArray, ← hl]
      exact Option.some.inj h1
    exact wpAny_getItem_list_neg pl.isList (by omega) (by rw [List.size_toArray]; omega) (by omega) (by rw [hj]; simpa using ew) fin
theorem get_dict (hu : X.A.units + 65 < cLine) : PGet X (fun x y H Q => ∃ a v, x = .ref a ∧ DGet H a y (some v) ∧ Q v H) := by
  rintro pins s σ H o i ov iv Q I ro ri ⟨a, v, rfl, g, q⟩
  obtain rfl : ov = Value.ref a := ro
  exact d_getItem (by omega) I g ri fun w' s' I' rw' => ⟨v, H, I', rw', q⟩
theorem PGet.or {t t' : V → V → Hp → VK → Prop} (h : PGet X t) (h' : PGet X t') : PGet X (fun o i H Q => t o i H Q ∨ t' o i H Q) := by
  intro pins s σ H o i ov iv Q I ro ri q
  rcases q with q | q
  · exact h pins s σ H o i ov iv Q I ro ri q
  · exact h' pins s σ H o i ov iv Q I ro ri q
theorem PSet.or {t t' : TSet} (h : PSet X t) (h' : PSet X t') : PSet X (fun o i v H Q => t o i v H Q ∨ t' o i v H Q) := by
  intro pins s σ H o i v ov iv u Q I ro ri rv q
  rcases q with q | q
  · exact h pins s σ H o i v ov iv u Q I ro ri rv q
  · exact h' pins s σ H o i v ov iv u Q I ro ri rv q
end
/-- .. at the level of data -/
theorem dic_put {K : PySem.W.Frag} {G H : Hp} {a : Addr} {o : HO} {ps : List (PyData × V)} {kvs : List (PyData × PyData)} {v w : V} {k d : PyData} (ho : H a = some o) (dp : DO o ps) (q : RKV K G ps kvs) (rk : R K G w k) (rv : R K G v d) (hk : keyPut kvs k = true) (hl : kvs.length < sizeLine) {Q : Hp → Prop}
    (fin : ∀ o' ps', DO o' ps' → RKV K G ps' (putD kvs k d) → Q (upd H a o')) : rSetD (.ref a) w v H Q := by
  obtain ⟨kvs0, rfl, rfl⟩ := dp
  have len : kvs0.length = kvs.length := by have := RKV.length q; simpa using this
  obtain ⟨κ, rfl⟩ := atom_of (show atomK k = true from hk)
  have e := R.atom rk
  subst e
  exact ⟨a, kvs0, κ, rfl, ho, rfl, by rw [len]; exact hl, fin _ _ ⟨_, rfl, rfl⟩ (put_gen kD keyEq_kD κ rv q)⟩
end DL
set_option Elab.async false
set_option linter.all false
set_option maxRecDepth 100000
set_option maxHeartbeats 2000000
/-! D3: comparisons, tests, displays, items, slices. -/
namespace DL
open PySem PySem.Spec PyProof.Rows L2

section
variable {X : Cx} {C : Nat → Fs} {E : XK} {S : Sx} {G H G' H' : Hp} {σ : L2.St} {env : Env} {vs : List Nat} {Ep : Str → Prop} {Q : Bool → PyData → Prop} {Qh : VK}

theorem shaped_noDict {d : PyData} (h : SeqAt.shaped d = true) : d.hasDict = false := PyData.hasDict_of_canLay d (SeqAt.canLay_of_shaped h)
theorem R.dp' {K : PySem.W.Frag} (s : Sub G H) {v : V} {d : PyData} (r : R K G v d) (h : okD d) : Dp K H v d := r.dp s (shaped_noDict h)

/-! ### x in a tuple of data -/
def rInT (K : PySem.W.Frag) (k : Bool) : R2 := fun x y H Q => ∃ d ds, Dp K H x d ∧ (Dp K H y (.list ds) ∨ Dp K H y (.tuple ds)) ∧ SeqAt.shaped d = true ∧ SeqAt.shaped (.list ds) = true ∧ Q (.bl (if k = true then ds.any fun z => PyData.eqv z d else !ds.any fun z => PyData.eqv z d)) H
theorem op_inT (hu : X.A.units + 65 < cLine) : OpR X (compareOp .In) (rInT X.K true) := by
  intro pins s σ H x y v u Q I rx ry h
  obtain ⟨d, ds, hd, he, sd, se, q⟩ := h
  obtain ⟨as, r1⟩ := Dp.reads I d x v hd rx
  rw [if_pos rfl] at q
  rcases he with he | he
  · obtain ⟨bs, r2⟩ := Dp.reads I (.list ds) y u he ry
    exact SeqAt.in_list_reads r2 r1 (SeqAt.canLay_of_shaped se) (SeqAt.canLay_of_shaped sd) (room_in_shaped sd hu) ⟨.bl _, H, I, rfl, q⟩
  · obtain ⟨bs, r2⟩ := Dp.reads I (.tuple ds) y u he ry
    exact SeqAt.in_tuple_reads r2 r1 (SeqAt.canLay_of_shaped se) (SeqAt.canLay_of_shaped sd) (room_in_shaped sd hu) ⟨.bl _, H, I, rfl, q⟩
theorem op_notInT (hu : X.A.units + 65 < cLine) : OpR X (compareOp .NotIn) (rInT X.K false) := by
  intro pins s σ H x y v u Q I rx ry h
  obtain ⟨d, ds, hd, he, sd, se, q⟩ := h
  obtain ⟨as, r1⟩ := Dp.reads I d x v hd rx
  rw [if_neg Bool.false_ne_true] at q
  rcases he with he | he
  · obtain ⟨bs, r2⟩ := Dp.reads I (.list ds) y u he ry
    exact SeqAt.notIn_list_reads r2 r1 (SeqAt.canLay_of_shaped se) (SeqAt.canLay_of_shaped sd) (room_in_shaped sd hu) ⟨.bl _, H, I, rfl, q⟩
  · obtain ⟨bs, r2⟩ := Dp.reads I (.tuple ds) y u he ry
    exact SeqAt.notIn_tuple_reads r2 r1 (SeqAt.canLay_of_shaped se) (SeqAt.canLay_of_shaped sd) (room_in_shaped sd hu) ⟨.bl _, H, I, rfl, q⟩

/-- an operator of the model and mine -/
inductive CmpIs : CmpOp → Cop → Prop
  | eq : CmpIs .Eq .eq | ne : CmpIs .NotEq .ne | lt : CmpIs .Lt .lt | le : CmpIs .LtE .le | gt : CmpIs .Gt .gt | ge : CmpIs .GtE .ge
  | is_ : CmpIs .Is (.isnt true) | isn : CmpIs .IsNot (.isnt false) | in_ : CmpIs .In (.in_ true) | nin : CmpIs .NotIn (.in_ false)
/-- the operator's rule, for any two values that data are read off -/
def CmpR (X : Cx) (op : CmpOp) (o : Cop) (r : R2) : Prop := OpR X (compareOp op) r ∧ ∀ {G H : Hp} {v w : V} {x y : PyData} {Qc : Bool → Prop} {Qh : VK}, Sub G H → R X.K G v x → R X.K G w y → CmpP o x y Qc → (∀ c, Qc c → Qh (.bl c) H) → r v w H Qh
theorem eqv_int (i j : Int) : PyData.eqv (.int i) (.int j) = (i == j) := by simp [PyData.eqv]
theorem shaped_int (i : Int) : SeqAt.shaped (.int i) = true := by simp [SeqAt.shaped, PyData.canLay0, PyData.depth]
theorem cmpr (hu : X.A.units + 65 < cLine) {op : CmpOp} {o : Cop} (h : CmpIs op o) : ∃ r, CmpR X op o r := by
  have hu' : X.A.units + 64 < cLine := by omega
  cases h with
  | eq =>
    refine ⟨_, (op_eqT0 hu').or ((op_eqT1 hu').or (op_eqD hu')), fun {G H v w x y Qc Qh} s r1 r2 h q => ?_⟩
    have key : (shortD x y = true ∨ (okD x ∧ okD y)) ∧ Qc (PyData.eqv x y) := by
      cases x <;> cases y <;> first | exact h | exact ⟨.inr ⟨shaped_int _, shaped_int _⟩, by rw [eqv_int]; exact h⟩
    obtain ⟨k1 | ⟨k1, k2⟩, k3⟩ := key
    · cases x <;> first | cases k1 | skip
      cases y <;> first | cases k1 | skip
      rename_i xs ys
      obtain ⟨a, o1, vs, rfl, ha, -, ra⟩ := r1.tupS
      obtain ⟨b, o2, ws, rfl, hb, -, rb⟩ := r2.tupS
      have ha := SqT.frz (K := X.K) (s _ _ ha)
      have hb := SqT.frz (K := X.K) (s _ _ hb)
      match xs, ys, k1 with
      | xs, [], _ =>
        cases rb
        refine .inl ⟨a, b, vs, rfl, rfl, ha, hb, ?_⟩
        have e : vs.isEmpty = PyData.eqv (.tuple xs) (.tuple []) := by
          cases ra <;> rfl
        rw [e]
        exact q _ k3
      | .str f :: xs, [.str g], _ =>
        cases rb with
        | cons q2 rb =>
          cases rb
          cases ra with
          | cons q1 ra =>
            obtain rfl := q1.str'
            obtain rfl := q2.str'
            refine .inr (.inl ⟨a, b, f, g, _, rfl, rfl, ha, hb, ?_⟩)
            have e : ∀ {us : List V}, RAll X.K G us xs → (f == g && us.isEmpty) = PyData.eqv (.tuple (.str f :: xs)) (.tuple [.str g]) := by
              intro us r
              cases r <;> rfl
            rw [e ra]
            exact q _ k3
    · exact .inr (.inr ⟨x, y, r1.dp' s k1, r2.dp' s k2, k1, k2, q _ k3⟩)
  | ne =>
    refine ⟨_, op_neD hu', fun {G H v w x y Qc Qh} s r1 r2 h q => ?_⟩
    have key : okD x ∧ okD y ∧ Qc (!PyData.eqv x y) := by
      cases x <;> cases y <;> first | exact h | exact ⟨shaped_int _, shaped_int _, by rw [eqv_int]; exact h⟩
    exact ⟨x, y, r1.dp' s key.1, r2.dp' s key.2.1, key.1, key.2.1, q _ key.2.2⟩
  | lt => exact ⟨_, op_lt, fun {G H v w x y Qc Qh} s r1 r2 h q => by cases x <;> cases y <;> first | exact False.elim h | (rw [r1.int', r2.int']; exact ⟨_, _, rfl, rfl, q _ h⟩)⟩
  | le => exact ⟨_, op_le, fun {G H v w x y Qc Qh} s r1 r2 h q => by cases x <;> cases y <;> first | exact False.elim h | (rw [r1.int', r2.int']; exact ⟨_, _, rfl, rfl, q _ h⟩)⟩
  | gt => exact ⟨_, op_gt, fun {G H v w x y Qc Qh} s r1 r2 h q => by cases x <;> cases y <;> first | exact False.elim h | (rw [r1.int', r2.int']; exact ⟨_, _, rfl, rfl, q _ h⟩)⟩
  | ge => exact ⟨_, op_ge, fun {G H v w x y Qc Qh} s r1 r2 h q => by cases x <;> cases y <;> first | exact False.elim h | (rw [r1.int', r2.int']; exact ⟨_, _, rfl, rfl, q _ h⟩)⟩
  | is_ =>
    refine ⟨_, op_isN.or op_is_bl, fun {G H v w x y Qc Qh} s r1 r2 h q => ?_⟩
    cases y <;> first
      | (cases x <;> exact False.elim h)
      | (rw [r2.non']
         refine .inl ⟨rfl, ?_⟩
         cases x <;> first
           | (cases r1; exact q _ (by simpa [CmpP] using h)))
      | (rename_i b
         cases x <;> first
           | exact False.elim h
           | (rename_i a
              rw [r1.bl', r2.bl']
              exact .inr ⟨a, b, rfl, rfl, q _ (by simpa [CmpP] using h)⟩))
  | isn =>
    refine ⟨_, op_notN.or op_isnot_bl, fun {G H v w x y Qc Qh} s r1 r2 h q => ?_⟩
    cases y <;> first
      | (cases x <;> exact False.elim h)
      | (rw [r2.non']
         refine .inl ⟨rfl, ?_⟩
         cases x <;> first
           | (cases r1; exact q _ (by simpa [CmpP] using h)))
      | (rename_i b
         cases x <;> first
           | exact False.elim h
           | (rename_i a
              rw [r1.bl', r2.bl']
              exact .inr ⟨a, b, rfl, rfl, q _ (by simpa [CmpP] using h)⟩))
  | in_ =>
    refine ⟨_, (op_inT hu).or (op_inDic hu), fun {G H v w x y Qc Qh} s r1 r2 h q => ?_⟩
    cases y with
    | list ys =>
      have h' : okD x ∧ okD (.list ys) ∧ Qc (if true = true then ys.any (fun z => PyData.eqv z x) else !ys.any (fun z => PyData.eqv z x)) := by cases x <;> exact h
      exact .inl ⟨x, ys, r1.dp' s h'.1, .inl (r2.dp' s h'.2.1), h'.1, h'.2.1, q _ h'.2.2⟩
    | tuple ys =>
      have h' : okD x ∧ okD (.tuple ys) ∧ Qc (if true = true then ys.any (fun z => PyData.eqv z x) else !ys.any (fun z => PyData.eqv z x)) := by cases x <;> exact h
      exact .inl ⟨x, ys, r1.dp' s h'.1, .inr (r2.dp' s h'.2.1), h'.1, by simpa [SeqAt.shaped, PyData.canLay0, PyData.depth, okD] using h'.2.1, q _ h'.2.2⟩
    | none => cases x <;> exact False.elim h
    | bool b => cases x <;> exact False.elim h
    | int i => cases x <;> exact False.elim h
    | str z => cases x <;> exact False.elim h
    | dict kvs =>
      have h' : keyFor kvs x = true ∧ Qc (if true = true then (lookD kvs x).isSome else !(lookD kvs x).isSome) := by cases x <;> exact h
      obtain ⟨a, o, rfl, g, m⟩ := dic_get s r2 r1 h'.1
      refine .inr ⟨a, o, rfl, g, q _ ?_⟩
      have e : o.isSome = (lookD kvs x).isSome := by
        cases o with
        | none => rw [show lookD kvs x = none from m]; rfl
        | some u => obtain ⟨d, e, _⟩ := m; rw [e]; rfl
      rw [e]
      exact h'.2
  | nin =>
    refine ⟨_, (op_notInT hu).or (op_notInDic hu), fun {G H v w x y Qc Qh} s r1 r2 h q => ?_⟩
    cases y with
    | list ys =>
      have h' : okD x ∧ okD (.list ys) ∧ Qc (if false = true then ys.any (fun z => PyData.eqv z x) else !ys.any (fun z => PyData.eqv z x)) := by cases x <;> exact h
      exact .inl ⟨x, ys, r1.dp' s h'.1, .inl (r2.dp' s h'.2.1), h'.1, h'.2.1, q _ h'.2.2⟩
    | tuple ys =>
      have h' : okD x ∧ okD (.tuple ys) ∧ Qc (if false = true then ys.any (fun z => PyData.eqv z x) else !ys.any (fun z => PyData.eqv z x)) := by cases x <;> exact h
      exact .inl ⟨x, ys, r1.dp' s h'.1, .inr (r2.dp' s h'.2.1), h'.1, by simpa [SeqAt.shaped, PyData.canLay0, PyData.depth, okD] using h'.2.1, q _ h'.2.2⟩
    | none => cases x <;> exact False.elim h
    | bool b => cases x <;> exact False.elim h
    | int i => cases x <;> exact False.elim h
    | str z => cases x <;> exact False.elim h
    | dict kvs =>
      have h' : keyFor kvs x = true ∧ Qc (if false = true then (lookD kvs x).isSome else !(lookD kvs x).isSome) := by cases x <;> exact h
      obtain ⟨a, o, rfl, g, m⟩ := dic_get s r2 r1 h'.1
      refine .inr ⟨a, o, rfl, g, q _ ?_⟩
      have e : o.isSome = (lookD kvs x).isSome := by
        cases o with
        | none => rw [show lookD kvs x = none from m]; rfl
        | some u => obtain ⟨d, e, _⟩ := m; rw [e]; rfl
      rw [e]
      exact h'.2

/-! ### tests -/
/-- the reading of a test -/
def tT (X : Cx) (C : Nat → Fs) (E : XK) (e : Ex) : TT := fun σ H Qb => ∃ S G env Ep Q, StE X.K S G H σ env e.vs ∧ Rz X.mg S G H Ep E ∧ e.rd C Ep env Q ∧ ∀ fr d G' H', Ext S G H G' H' → Q fr d → ∃ c, truth d = some c ∧ Qb c H'
theorem truth_tru {K : PySem.W.Frag} {v : V} {d : PyData} {c : Bool} (s : Sub G H) (r : R K G v d) (h : truth d = some c) : TruV K v H c := by
  cases d with
  | none => cases r; exact (Option.some.inj h).symm
  | bool b => cases r; exact (Option.some.inj h).symm
  | int i => cases r; exact (Option.some.inj h).symm
  | str x => cases h
  | list xs =>
    obtain ⟨a, ys, rfl, h1, q⟩ := r.lst'
    refine .inl ⟨ys, SqL.of (s _ _ h1), ?_⟩
    have e : ys.isEmpty = xs.isEmpty := by cases q <;> rfl
    rw [e]; exact (Option.some.inj h).symm
  | tuple xs =>
    obtain ⟨a, ys, rfl, h1, q⟩ := r.tup'
    refine .inr (.inl ⟨ys, s.t h1, ?_⟩)
    have e : ys.isEmpty = xs.isEmpty := by cases q <;> rfl
    rw [e]; exact (Option.some.inj h).symm
  | dict kvs => cases h
/-- a test from a value -/
theorem st_plain {a : Expr} {ea : Ex} (ha : PE X a (tE X C E ea)) (he : ∀ whole, isTrue a X.env whole = (do let v ← whole; standAt a.pos; holding [v] (truthy v))) : PT X a (tT X C E ea) :=
  PT.imp (pt_truth ha he) fun σ H Qb ⟨S, G, env, Ep, Q, st, rz, h, k⟩ =>
    ⟨S, G, env, Ep, Q, ⟨st, rz, fun v H' p => by
      obtain ⟨G', fr, d, x, r, q⟩ := p.frz st.src
      obtain ⟨c, hc, qb⟩ := k fr d G' H' x q
      exact ⟨c, truth_tru x.gh r hc, qb⟩⟩, h⟩
theorem st_not {a : Expr} {ea : Ex} {pos : Pos} (ha : PT X a (tT X C E ea)) : PT X (.UnaryOp .Not a pos) (tT X C E (.not_ ea)) :=
  PT.imp (pt_not ha) fun σ H Qb ⟨S, G, env, Ep, Q, st, rz, h, k⟩ =>
    ⟨S, G, env, Ep, fun _ x => ∃ c, truth x = some c ∧ Q false (.bool !c), st, rz, by simpa only [Ex.rd] using h, fun fr d G' H' x ⟨c, hc, q⟩ => by
      obtain ⟨c', hc', qb⟩ := k _ _ G' H' x q
      have e : (!c) = c' := Option.some.inj hc'
      exact ⟨c, hc, by show Qb (!c) H'; rw [e]; exact qb⟩⟩
theorem st_and {a b : Expr} {rest : List Expr} {ea eb : Ex} {pos : Pos} (ha : PT X a (tT X C E ea)) (hb : PW X (.BoolOp .And (b :: rest) pos) (tT X C E eb)) : PW X (.BoolOp .And (a :: b :: rest) pos) (tT X C E (.and_ ea eb)) :=
  PW.imp (pw_and ha hb) fun σ H Qb ⟨S, G, env, Ep, Q, st, rz, h, k⟩ =>
    ⟨S, G, env, Ep, fun f x => ∃ c, truth x = some c ∧ if c = true then eb.rd C Ep env Q else Q f x, st.less (fun i hi => by simp [Ex.vs]; exact .inl hi), rz, by simpa only [Ex.rd] using h, fun fr d G' H' x ⟨c, hc, q⟩ => by
      refine ⟨c, hc, ?_⟩
      cases c with
      | true =>
        rw [if_pos rfl] at q ⊢
        exact ⟨S, G', env, Ep, Q, (st.ext x).less (fun i hi => by simp [Ex.vs]; exact .inr hi), rz.ext x st.src, q, fun fr d G2 H2 y => k fr d G2 H2 (x.trans st.src y)⟩
      | false =>
        rw [if_neg Bool.false_ne_true] at q ⊢
        obtain ⟨c', hc', qb⟩ := k _ _ G' H' x q
        rw [hc] at hc'; cases hc'
        exact qb⟩
theorem st_or {a b : Expr} {rest : List Expr} {ea eb : Ex} {pos : Pos} (ha : PT X a (tT X C E ea)) (hb : PW X (.BoolOp .Or (b :: rest) pos) (tT X C E eb)) : PW X (.BoolOp .Or (a :: b :: rest) pos) (tT X C E (.or_ ea eb)) :=
  PW.imp (pw_or ha hb) fun σ H Qb ⟨S, G, env, Ep, Q, st, rz, h, k⟩ =>
    ⟨S, G, env, Ep, fun f x => ∃ c, truth x = some c ∧ if c = true then Q f x else eb.rd C Ep env Q, st.less (fun i hi => by simp [Ex.vs]; exact .inl hi), rz, by simpa only [Ex.rd] using h, fun fr d G' H' x ⟨c, hc, q⟩ => by
      refine ⟨c, hc, ?_⟩
      cases c with
      | false =>
        rw [if_neg Bool.false_ne_true] at q ⊢
        exact ⟨S, G', env, Ep, Q, (st.ext x).less (fun i hi => by simp [Ex.vs]; exact .inr hi), rz.ext x st.src, q, fun fr d G2 H2 y => k fr d G2 H2 (x.trans st.src y)⟩
      | true =>
        rw [if_pos rfl] at q ⊢
        obtain ⟨c', hc', qb⟩ := k _ _ G' H' x q
        rw [hc] at hc'; cases hc'
        exact qb⟩
theorem st_one {a : Expr} {ea : Ex} {op : BoolOp} {pos : Pos} (ha : PT X a (tT X C E ea)) : PW X (.BoolOp op [a] pos) (tT X C E ea) := by
  cases op with
  | And => exact pw_and1 ha
  | Or => exact pw_or1 ha

/-! ### comparisons -/
theorem sd_cmp {op : CmpOp} {o : Cop} {a b : Expr} {ea eb : Ex} {pos : Pos} (hu : X.A.units + 65 < cLine) (ho : CmpIs op o) (hm : behindInMarks op b = false) (ha : PE X a (tE X C E ea)) (hb : PE X b (tE X C E eb)) : PE X (.Compare a [op] [b] pos) (tE X C E (.cmp o ea eb)) := by
  obtain ⟨r, h1, h2⟩ := cmpr (X := X) hu ho
  refine PE.imp (pe_cmpR h1 ha hb hm) fun σ H Qh ⟨S, G, env, Ep, Q, p, h⟩ => ?_
  exact p.use (fun i hi => by simp [Ex.vs]; exact .inl hi) (by simpa only [Ex.rd] using h) fun v G1 H1 f x p1 x1 r1 h1 =>
      p1.use (fun i hi => by simp [Ex.vs]; exact .inr hi) h1 fun w G2 H2 f' y p2 x2 r2 h3 => h2 p2.sub (r1.mono x2.gg) r2 h3 fun c qc => p2.done (.bl c) qc
theorem st_cmp {op : CmpOp} {o : Cop} {a b : Expr} {ea eb : Ex} {pos : Pos} (hu : X.A.units + 65 < cLine) (ho : CmpIs op o) (hm : behindInMarks op b = false) (ha : PE X a (tE X C E ea)) (hb : PE X b (tE X C E eb)) : PT X (.Compare a [op] [b] pos) (tT X C E (.cmp o ea eb)) := by
  obtain ⟨r, h1, h2⟩ := cmpr (X := X) hu ho
  refine PT.imp (pt_cmpR h1 ha hb hm) fun σ H Qb ⟨S, G, env, Ep, Q, st, rz, h, k⟩ => ?_
  have p : Pt X E S G H σ env (Ex.cmp o ea eb).vs Ep Q (fun x H' => ∃ k, x = .bl k ∧ Qb k H') → True := fun _ => trivial
  refine ⟨S, G, env, Ep, _, ⟨st.less (fun i hi => by simp [Ex.vs]; exact .inl hi), rz, fun v H' pp => ?_⟩, by simpa only [Ex.rd] using h⟩
  obtain ⟨G', fr, d, x, r1, q⟩ := pp.frz st.src
  refine ⟨S, G', env, Ep, _, ⟨(st.ext x).less (fun i hi => by simp [Ex.vs]; exact .inr hi), rz.ext x st.src, fun w H2 pp2 => ?_⟩, q⟩
  obtain ⟨G2, fr2, d2, x2, r2, q2⟩ := pp2.frz x.src
  refine h2 x2.gh (r1.mono x2.gg) r2 q2 fun c qc => ?_
  obtain ⟨c', hc', qb⟩ := k _ _ G2 H2 (x.trans st.src x2) qc
  cases hc'
  exact ⟨c, rfl, qb⟩
theorem sd_cmp2 {op op' : CmpOp} {o o' : Cop} {a b c : Expr} {ea eb ec : Ex} {pos : Pos} (hu : X.A.units + 65 < cLine) (ho : CmpIs op o) (ho' : CmpIs op' o') (hm : lastMarks [op, op'] [b, c] = false) (ha : PE X a (tE X C E ea)) (hb : PE X b (tE X C E eb)) (hc : PE X c (tE X C E ec)) :
    PE X (.Compare a [op, op'] [b, c] pos) (tE X C E (.cmp2 o o' ea eb ec)) := by
  obtain ⟨r, h1, h2⟩ := cmpr (X := X) hu ho
  obtain ⟨r', h1', h2'⟩ := cmpr (X := X) hu ho'
  refine PE.imp (pe_chain h1 h1' ha hb hc hm) fun σ H Qh ⟨S, G, env, Ep, Q, p, h⟩ => ?_
  exact p.use (fun i hi => by simp [Ex.vs]; exact .inl hi) (by simpa only [Ex.rd] using h) fun v G1 H1 f x p1 x1 r1 h1 =>
      p1.use (fun i hi => by simp [Ex.vs]; exact .inr (.inl hi)) h1 fun w G2 H2 f' y p2 x2 r2 h3 => h2 p2.sub (r1.mono x2.gg) r2 h3 fun c qc => by
        refine ⟨c, rfl, ?_⟩
        cases c with
        | true =>
          rw [if_pos rfl] at qc ⊢
          exact p2.use (fun i hi => by simp [Ex.vs]; exact .inr (.inr hi)) qc fun u G3 H3 f3 z p3 x3 r3 h4 => h2' p3.sub (r2.mono x3.gg) r3 h4 fun c qc => p3.done (.bl c) qc
        | false =>
          rw [if_neg Bool.false_ne_true] at qc ⊢
          exact p2.done (.bl _) qc
theorem st_cmp2 {op op' : CmpOp} {o o' : Cop} {a b c : Expr} {ea eb ec : Ex} {pos : Pos} (hu : X.A.units + 65 < cLine) (ho : CmpIs op o) (ho' : CmpIs op' o') (hm : lastMarks [op, op'] [b, c] = false) (ha : PE X a (tE X C E ea)) (hb : PE X b (tE X C E eb)) (hc : PE X c (tE X C E ec)) :
    PT X (.Compare a [op, op'] [b, c] pos) (tT X C E (.cmp2 o o' ea eb ec)) := by
  obtain ⟨r, h1, h2⟩ := cmpr (X := X) hu ho
  obtain ⟨r', h1', h2'⟩ := cmpr (X := X) hu ho'
  refine PT.imp (pt_chain h1 h1' ha hb hc hm) fun σ H Qb ⟨S, G, env, Ep, Q, st, rz, h, k⟩ => ?_
  refine ⟨S, G, env, Ep, _, ⟨st.less (fun i hi => by simp [Ex.vs]; exact .inl hi), rz, fun v H' pp => ?_⟩, by simpa only [Ex.rd] using h⟩
  obtain ⟨G', fr, d, x, r1, q⟩ := pp.frz st.src
  refine ⟨S, G', env, Ep, _, ⟨(st.ext x).less (fun i hi => by simp [Ex.vs]; exact .inr (.inl hi)), rz.ext x st.src, fun w H2 pp2 => ?_⟩, q⟩
  obtain ⟨G2, fr2, d2, x2, r2, q2⟩ := pp2.frz x.src
  have st2 := (st.ext x).ext x2
  have rz2 := (rz.ext x st.src).ext x2 x.src
  refine h2 x2.gh (r1.mono x2.gg) r2 q2 fun c qc => ⟨c, rfl, ?_⟩
  cases c with
  | true =>
    rw [if_pos rfl] at qc ⊢
    refine ⟨S, G2, env, Ep, _, ⟨st2.less (fun i hi => by simp [Ex.vs]; exact .inr (.inr hi)), rz2, fun u H3 pp3 => ?_⟩, qc⟩
    obtain ⟨G3, fr3, d3, x3, r3, q3⟩ := pp3.frz x2.src
    refine h2' x3.gh (r2.mono x3.gg) r3 q3 fun c qc => ?_
    obtain ⟨c', hc', qb⟩ := k _ _ G3 H3 ((x.trans st.src x2).trans st.src x3) qc
    cases hc'
    exact ⟨c, rfl, qb⟩
  | false =>
    rw [if_neg Bool.false_ne_true] at qc ⊢
    obtain ⟨c', hc', qb⟩ := k _ _ G2 H2 (x.trans st.src x2) qc
    cases hc'
    exact ⟨_, rfl, qb⟩
end
end DL
set_option Elab.async false
set_option linter.all false
set_option maxRecDepth 100000
set_option maxHeartbeats 2000000
/-! D4: displays, arguments, items, slices, booleans as values, built-ins. -/
namespace DL
open PySem PySem.Spec PyProof.Rows L2

section
variable {X : Cx} {C : Nat → Fs} {E : XK} {S : Sx} {G H G' H' : Hp} {σ : L2.St} {env : Env} {vs : List Nat} {Ep : Str → Prop} {Q : Bool → PyData → Prop} {Qh : VK}

/-! ### lists of expressions -/
def tA (X : Cx) (C : Nat → Fs) (E : XK) (es : Exs) : TA := fun σ H Qh => ∃ S G env Ep Q, StE X.K S G H σ env es.vs ∧ Rz X.mg S G H Ep E ∧ es.rd C Ep env Q ∧ ∀ ws G' H' ds, Ext S G H G' H' → RAll X.K G' ws ds → Q ds → Qh ws H'
theorem sa_nil : PA X [] (tA X C E .nil) := PA.imp pa_nil fun σ H Qh ⟨S, G, env, Ep, Q, st, rz, h, k⟩ => k [] G H [] st.refl .nil (by simpa only [Exs.rd] using h)
theorem star_of {e : Expr} {es : List Expr} {env : PySem.Env} (h : ∀ v p, e ≠ .Starred v p) : starEach (e :: es) env = (false, eval e env) :: starEach es env := by
  cases e <;> first | rfl | exact absurd rfl (h _ _)
theorem sa_cons {e : Expr} {es : List Expr} {x : Ex} {xs : Exs} (ha : PE X e (tE X C E x)) (hr : PA X es (tA X C E xs)) (ns : ∀ v p, e ≠ .Starred v p) : PA X (e :: es) (tA X C E (.cons x xs)) :=
  PA.imp (pa_cons ha hr (star_of ns)) fun σ H Qh ⟨S, G, env, Ep, Q, st, rz, h, k⟩ => by
    refine ⟨S, G, env, Ep, _, ⟨st.less (fun i hi => by simp [Exs.vs]; exact .inl hi), rz, fun v H' pp => ?_⟩, by simpa only [Exs.rd] using h⟩
    obtain ⟨G', fr, d, x1, r1, q⟩ := pp.frz st.src
    exact ⟨S, G', env, Ep, _, (st.ext x1).less (fun i hi => by simp [Exs.vs]; exact .inr hi), rz.ext x1 st.src, q, fun ws G2 H2 ds x2 r2 q2 => k (v :: ws) G2 H2 (d :: ds) (x1.trans st.src x2) (.cons (r1.mono x2.gg) r2) q2⟩
theorem sd_tup {es : List Expr} {xs : Exs} {k : Nat} {pos : Pos} (h : PA X es (tA X C E xs)) : PE X (.Tuple es k pos) (tE X C E (.tup xs)) :=
  PE.imp (pe_tupF h) fun σ H Qh ⟨S, G, env, Ep, Q, p, h⟩ =>
    ⟨S, G, env, Ep, fun ds => ds.length ≤ lim ∧ Q false (.tuple ds), p.st, p.rz, by simpa only [Ex.rd] using h, fun ws G' H' ds x r q => ⟨by rw [r.length]; exact lim_size q.1, fun a o n hd => (p.go x).newT n hd r q.2⟩⟩
theorem sd_lst {es : List Expr} {xs : Exs} {pos : Pos} (h : PA X es (tA X C E xs)) : PE X (.List es pos) (tE X C E (.lst xs)) :=
  PE.imp (pe_lst h) fun σ H Qh ⟨S, G, env, Ep, Q, p, h⟩ =>
    ⟨S, G, env, Ep, fun ds => ds.length ≤ lim ∧ Q true (.list ds), p.st, p.rz, by simpa only [Ex.rd] using h, fun ws G' H' ds x r q => ⟨by rw [r.length]; exact lim_size q.1, fun a n => (p.go x).newL n r q.2⟩⟩

/-! ### booleans as values -/
theorem sd_ite {t a b : Expr} {et ea eb : Ex} {pos : Pos} (ht : PT X t (tT X C E et)) (ha : PE X a (tE X C E ea)) (hb : PE X b (tE X C E eb)) : PE X (.IfExp t a b pos) (tE X C E (.ite et ea eb)) :=
  PE.imp (pe_ifExp ht ha hb) fun σ H Qh ⟨S, G, env, Ep, Q, p, h⟩ =>
    ⟨S, G, env, Ep, fun _ x => ∃ c, truth x = some c ∧ if c = true then ea.rd C Ep env Q else eb.rd C Ep env Q, p.st.less (fun i hi => by simp [Ex.vs]; exact .inl hi), p.rz, by simpa only [Ex.rd] using h, fun fr d G' H' x ⟨c, hc, q⟩ => by
      refine ⟨c, hc, ?_⟩
      cases c with
      | true => rw [if_pos rfl] at q ⊢; exact (p.go x).tail (fun i hi => by simp [Ex.vs]; exact .inr (.inl hi)) q
      | false => rw [if_neg Bool.false_ne_true] at q ⊢; exact (p.go x).tail (fun i hi => by simp [Ex.vs]; exact .inr (.inr hi)) q⟩
theorem sd_not {a : Expr} {ea : Ex} {pos : Pos} (ha : PE X a (tE X C E ea)) : PE X (.UnaryOp .Not a pos) (tE X C E (.not_ ea)) :=
  PE.imp (pe_notT ha) fun σ H Qh ⟨S, G, env, Ep, Q, p, h⟩ =>
    p.use (Qa := fun _ x => ∃ c, truth x = some c ∧ Q false (.bool !c)) (fun i hi => by simpa [Ex.vs] using hi) (by simpa only [Ex.rd] using h) fun v G1 H1 f x p1 x1 r1 ⟨c, hc, q⟩ => ⟨c, truth_tru p1.sub r1 hc, p1.done (.bl _) q⟩
theorem sd_and {a b : Expr} {rest : List Expr} {ea eb : Ex} {pos : Pos} (ha : PE X a (tE X C E ea)) (hb : PE X (.BoolOp .And (b :: rest) pos) (tE X C E eb)) : PE X (.BoolOp .And (a :: b :: rest) pos) (tE X C E (.and_ ea eb)) :=
  PE.imp (pe_andT ha hb) fun σ H Qh ⟨S, G, env, Ep, Q, p, h⟩ => by
    refine ⟨S, G, env, Ep, fun f x => ∃ c, truth x = some c ∧ if c = true then eb.rd C Ep env Q else Q f x, ⟨p.st.less (fun i hi => by simp [Ex.vs]; exact .inl hi), p.rz, fun v H' pp => ?_⟩, by simpa only [Ex.rd] using h⟩
    obtain ⟨G', fr, d, x, r, c, hc, q⟩ := pp
    have pp' : Post X.K S G H (fun f' d' => f' = fr ∧ d' = d) v H' := ⟨G', fr, d, x, r, rfl, rfl⟩
    obtain ⟨G2, fr2, d2, x2, r2, e1, e2⟩ := pp'.frz p.st.src
    subst e1 e2
    refine ⟨c, truth_tru x2.gh r2 hc, ?_⟩
    cases c with
    | true => rw [if_pos rfl] at q ⊢; exact (p.go x).tail (fun i hi => by simp [Ex.vs]; exact .inr hi) q
    | false => rw [if_neg Bool.false_ne_true] at q ⊢; exact p.fin _ _ ⟨G', _, _, x, r, q⟩
theorem sd_or {a b : Expr} {rest : List Expr} {ea eb : Ex} {pos : Pos} (ha : PE X a (tE X C E ea)) (hb : PE X (.BoolOp .Or (b :: rest) pos) (tE X C E eb)) : PE X (.BoolOp .Or (a :: b :: rest) pos) (tE X C E (.or_ ea eb)) :=
  PE.imp (pe_orT ha hb) fun σ H Qh ⟨S, G, env, Ep, Q, p, h⟩ => by
    refine ⟨S, G, env, Ep, fun f x => ∃ c, truth x = some c ∧ if c = true then Q f x else eb.rd C Ep env Q, ⟨p.st.less (fun i hi => by simp [Ex.vs]; exact .inl hi), p.rz, fun v H' pp => ?_⟩, by simpa only [Ex.rd] using h⟩
    obtain ⟨G', fr, d, x, r, c, hc, q⟩ := pp
    have pp' : Post X.K S G H (fun f' d' => f' = fr ∧ d' = d) v H' := ⟨G', fr, d, x, r, rfl, rfl⟩
    obtain ⟨G2, fr2, d2, x2, r2, e1, e2⟩ := pp'.frz p.st.src
    subst e1 e2
    refine ⟨c, truth_tru x2.gh r2 hc, ?_⟩
    cases c with
    | false => rw [if_neg Bool.false_ne_true] at q ⊢; exact (p.go x).tail (fun i hi => by simp [Ex.vs]; exact .inr hi) q
    | true => rw [if_pos rfl] at q ⊢; exact p.fin _ _ ⟨G', _, _, x, r, q⟩
theorem sd_one {a : Expr} {ea : Ex} {op : BoolOp} {pos : Pos} (ha : PE X a (tE X C E ea)) : PE X (.BoolOp op [a] pos) (tE X C E ea) := pe_one ha

/-! ### items, slices -/
theorem sd_ix {a b : Expr} {ea eb : Ex} {pos : Pos} (hu : X.A.units + 65 < cLine) (hs : PlainIx b) (ha : PE X a (tE X C E ea)) (hb : PE X b (tE X C E eb)) : PE X (.Subscript a b pos) (tE X C E (.ix ea eb)) :=
  PE.imp (pe_ix ((ix_list.or ix_tup).or (ix_dict hu)) ha hb hs) fun σ H Qh ⟨S, G, env, Ep, Q, p, h⟩ =>
    p.use (fun i hi => by simp [Ex.vs]; exact .inl hi) (by simpa only [Ex.rd] using h) fun v G1 H1 f x p1 x1 r1 h1 =>
      p1.use (fun i hi => by simp [Ex.vs]; exact .inr hi) h1 fun w G2 H2 f' y p2 x2 r2 h2 => by
        have r1' := r1.mono x2.gg
        cases x with
        | dict kvs =>
          have h2' : keyFor kvs y = true ∧ ∃ d, lookD kvs y = some d ∧ Q false d := by cases y <;> exact h2
          obtain ⟨hk, d, e, q⟩ := h2'
          obtain ⟨a, o, rfl, g, m⟩ := dic_get p2.sub r1' r2 hk
          cases o with
          | none => rw [show lookD kvs y = none from m] at e; cases e
          | some u =>
            obtain ⟨d', e', ru⟩ := m
            rw [e] at e'; cases e'
            exact .inr ⟨a, u, rfl, g, p2.done ru q⟩
        | _ =>
        cases y <;> first
          | exact False.elim h2
          | (obtain ⟨a, xs, rfl, h1, q1⟩ := r1'.lst'
             rw [r2.int']
             obtain ⟨d, e, q⟩ := h2
             obtain ⟨v, e', r⟩ := ixD q1 e
             exact .inl (.inl ⟨a, xs, _, v, rfl, rfl, SqL.of (p2.sub _ _ h1), e', p2.done r q⟩))
          | (obtain ⟨a, xs, rfl, h1, q1⟩ := r1'.tup'
             rw [r2.int']
             obtain ⟨d, e, q⟩ := h2
             obtain ⟨v, e', r⟩ := ixD q1 e
             exact .inl (.inr ⟨a, xs, _, v, rfl, rfl, p2.sub.t h1, e', p2.done r q⟩))
def tO (X : Cx) (C : Nat → Fs) (E : XK) (e : Exo) : TO := fun σ H Qh => ∃ S G env Ep Q, StE X.K S G H σ env e.vs ∧ Rz X.mg S G H Ep E ∧ e.rd C Ep env Q ∧ ∀ o G' H', Ext S G H G' H' → Q o → Qh o H'
theorem PO.imp {e : Option Expr} {t t' : TO} (h : PO X e t) (k : ∀ σ H Q, t' σ H Q → t σ H Q) : PO X e t' := by
  obtain ⟨h⟩ := h
  exact ⟨fun pins s σ H Q I q => h pins s σ H Q I (k σ H Q q)⟩
theorem so_no : PO X none (tO X C E .no) := PO.imp po_none fun σ H Qh ⟨S, G, env, Ep, Q, st, rz, h, k⟩ => k none G H st.refl (by simpa only [Exo.rd] using h)
theorem so_so {e : Expr} {x : Ex} (h : PE X e (tE X C E x)) : PO X (some e) (tO X C E (.so x)) := PO.imp (po_some h) fun σ H Qh ⟨S, G, env, Ep, Q, st, rz, h, k⟩ => by
  refine ⟨S, G, env, Ep, _, ⟨st.less (fun i hi => by simpa [Exo.vs] using hi), rz, fun v H' pp => ?_⟩, by simpa only [Exo.rd] using h⟩
  obtain ⟨G', fr, d, x1, r1, q⟩ := pp.frz st.src
  obtain ⟨i, rfl, q⟩ := isInt_iff q
  rw [r1.int']
  exact ⟨i, rfl, k _ _ _ x1 q⟩
theorem cutD_all {xs : List PyData} {lo hi : Option Int} (h : HT.sIx xs.length 0 lo = 0 ∧ HT.sIx xs.length xs.length hi = xs.length) : cutD xs lo hi = xs := by
  unfold cutD
  rw [h.1, h.2, List.drop_zero, Nat.sub_zero, List.take_length]
theorem sd_slc {a : Expr} {lo hi : Option Expr} {ea : Ex} {el eh : Exo} {p2 pos : Pos} (ha : PE X a (tE X C E ea)) (hl : PO X lo (tO X C E el)) (hh : PO X hi (tO X C E eh)) : PE X (.Subscript a (.Slice lo hi none p2) pos) (tE X C E (.slc ea el eh)) :=
  PE.imp (pe_slice (sl_list.or sl_tupF) ha hl hh) fun σ H Qh ⟨S, G, env, Ep, Q, p, h⟩ =>
    p.use (fun i hi => by simp [Ex.vs]; exact .inl hi) (by simpa only [Ex.rd] using h) fun v G1 H1 f x p1 x1 r1 h1 =>
      ⟨S, G1, env, Ep, _, p1.st.less (fun i hi => by simp [Ex.vs]; exact .inr (.inl hi)), p1.rz, h1, fun o1 G2 H2 x2 h2 =>
        ⟨S, G2, env, Ep, _, (p1.go x2).st.less (fun i hi => by simp [Ex.vs]; exact .inr (.inr hi)), (p1.go x2).rz, h2, fun o2 G3 H3 x3 h3 => by
          have p3 := (p1.go x2).go x3
          have r3 := (r1.mono x2.gg).mono x3.gg
          cases x <;> first
            | exact False.elim h3
            | (obtain ⟨a, xs, rfl, h1, q1⟩ := r3.lst'
               exact .inl ⟨a, xs, rfl, SqL.of (p3.sub _ _ h1), fun l hl => p3.newL hl (cutR q1 _ _) h3⟩)
            | (obtain ⟨a, xs, rfl, h1, q1⟩ := r3.tup'
               refine .inr ⟨a, xs, rfl, p3.sub.t h1, fun e => ?_, fun l o hl hd => p3.newT hl hd (cutR q1 _ _) h3⟩
               rw [q1.length] at e
               have h4 : Q false (.tuple (cutD _ o1 o2)) := h3
               rw [cutD_all e] at h4
               exact p3.done r3 h4)⟩⟩

/-! ### built-ins -/
theorem sd_bi0 {e : Expr} {b : Bi} {es : Exs} {r : List V → Hp → VK → Prop} (h : PE X e (tCB r (tA X C E es)))
    (k : ∀ {S : Sx} {G H : Hp} {σ : L2.St} {env : Env} {vs : List Nat} {Ep : Str → Prop} {Q : Bool → PyData → Prop} {Qh : VK} {ws : List V} {ds : List PyData}, Pt X E S G H σ env vs Ep Q Qh → RAll X.K G ws ds → BiP b ds Q → r ws H Qh) : PE X e (tE X C E (.bi b es)) :=
  PE.imp h fun σ H Qh ⟨S, G, env, Ep, Q, p, h⟩ =>
    ⟨S, G, env, Ep, _, p.st, p.rz, by simpa only [Ex.rd] using h, fun ws G' H' ds x r q => k (p.go x) r q⟩
theorem RAll.one' {K : PySem.W.Frag} {ws : List V} {d : PyData} (h : RAll K G ws [d]) : ∃ v, ws = [v] ∧ R K G v d := by
  cases h with
  | cons h t => cases t; exact ⟨_, rfl, h⟩
theorem RAll.two' {K : PySem.W.Frag} {ws : List V} {d e : PyData} (h : RAll K G ws [d, e]) : ∃ v w, ws = [v, w] ∧ R K G v d ∧ R K G w e := by
  cases h with
  | cons h t => obtain ⟨w, rfl, r⟩ := RAll.one' t; exact ⟨_, _, rfl, h, r⟩
theorem bi_len {ds : List PyData} {Q : Bool → PyData → Prop} (h : BiP .len ds Q) : ∃ d n, ds = [d] ∧ Q false (.int (n : Nat)) ∧ ((∃ xs, d = .list xs ∧ n = xs.length) ∨ (∃ xs, d = .tuple xs ∧ n = xs.length) ∨ ∃ x, d = .str x ∧ x.length ≤ lim ∧ n = x.length) := by
  match ds, h with
  | [.list xs], h => exact ⟨_, _, rfl, h, .inl ⟨_, rfl, rfl⟩⟩
  | [.tuple xs], h => exact ⟨_, _, rfl, h, .inr (.inl ⟨_, rfl, rfl⟩)⟩
  | [.str x], h => exact ⟨_, _, rfl, h.2, .inr (.inr ⟨_, rfl, h.1, rfl⟩)⟩
theorem sd_len {x : Str} {e : Expr} {es : List Expr} {xs : Exs} {p pos : Pos} (hx : x = "len") (hg : Gl X x) (hm : X.mg x = none) (ha : PA X (e :: es) (tA X C E xs)) (ns : ∀ v p, e ≠ .Starred v p) (hpl : (backTo pos (starEach es X.env)).any (·.1) = false) : PE X (.Call (.Name x p) (e :: es) [] pos) (tE X C E (.bi .len xs)) := by
  subst hx
  refine sd_bi0 (pe_callB call_len hg hm boot_len ha (by decide) (by decide) (star_of ns) hpl) fun {S G H σ env vs Ep Q Qh ws ds} p r0 h => ?_
  obtain ⟨d, n, rfl, q, k⟩ := bi_len h
  obtain ⟨v, rfl, r⟩ := r0.one'
  refine ⟨v, n, rfl, ?_, p.done (.int _) q⟩
  rcases k with ⟨xs, rfl, rfl⟩ | ⟨xs, rfl, rfl⟩ | ⟨x, rfl, hz, rfl⟩
  · obtain ⟨a, ys, rfl, h1, q1⟩ := r.lst'
    exact .inl ⟨ys, SqL.of (p.sub _ _ h1), q1.length.symm⟩
  · obtain ⟨a, ys, rfl, h1, q1⟩ := r.tup'
    exact .inr ⟨ys, p.sub.t h1, q1.length.symm⟩
  · rw [r.str']; exact ⟨lim_size hz, rfl⟩
end
end DL
set_option Elab.async false
set_option linter.all false
set_option maxRecDepth 100000
set_option maxHeartbeats 2000000
/-! D5: more built-ins, calls of defs, what is walked, comprehensions. -/
namespace DL
open PySem PySem.Spec PyProof.Rows L2

section
variable {X : Cx} {C : Nat → Fs} {E : XK} {S : Sx} {G H G' H' : Hp} {σ : L2.St} {env : Env} {vs : List Nat} {Ep : Str → Prop} {Q : Bool → PyData → Prop} {Qh : VK}
variable {x : Str} {e : Expr} {es : List Expr} {xs : Exs} {p pos : Pos}
theorem sd_abs (hx : x = "abs") (hg : Gl X x) (hm : X.mg x = none) (ha : PA X (e :: es) (tA X C E xs)) (ns : ∀ v p, e ≠ .Starred v p) (hpl : (backTo pos (starEach es X.env)).any (·.1) = false) : PE X (.Call (.Name x p) (e :: es) [] pos) (tE X C E (.bi .abs xs)) := by
  subst hx
  refine sd_bi0 (pe_callB call_abs hg hm (by decide +kernel) ha (by decide) (by decide) (star_of ns) hpl) fun {S G H σ env vs Ep Q Qh ws ds} p r0 h => ?_
  match ds, h, r0 with
  | [.int i], h, r0 =>
    obtain ⟨v, rfl, r⟩ := r0.one'
    rw [r.int']
    exact ⟨i, rfl, p.done (.int _) h⟩
theorem sd_int (hx : x = "int") (hg : Gl X x) (hm : X.mg x = none) (ha : PA X (e :: es) (tA X C E xs)) (ns : ∀ v p, e ≠ .Starred v p) (hpl : (backTo pos (starEach es X.env)).any (·.1) = false) : PE X (.Call (.Name x p) (e :: es) [] pos) (tE X C E (.bi .int xs)) := by
  subst hx
  refine sd_bi0 (pe_callTy call_int1 hg hm (by decide +kernel) ha (by decide) (by decide) (star_of ns) hpl) fun {S G H σ env vs Ep Q Qh ws ds} p r0 h => ?_
  match ds, h, r0 with
  | [.int i], h, r0 =>
    obtain ⟨v, rfl, r⟩ := r0.one'
    rw [r.int']
    exact .inl ⟨i, rfl, p.done (.int _) h⟩
  | [.bool i], h, r0 =>
    obtain ⟨v, rfl, r⟩ := r0.one'
    rw [r.bl']
    exact .inr ⟨i, rfl, p.done (.int _) h⟩
theorem sd_tupleOf (hx : x = "tuple") (hg : Gl X x) (hm : X.mg x = none) (ha : PA X (e :: es) (tA X C E xs)) (ns : ∀ v p, e ≠ .Starred v p) (hpl : (backTo pos (starEach es X.env)).any (·.1) = false) : PE X (.Call (.Name x p) (e :: es) [] pos) (tE X C E (.bi .tuple xs)) := by
  subst hx
  refine sd_bi0 (pe_callTy call_tupF hg hm (by decide +kernel) ha (by decide) (by decide) (star_of ns) hpl) fun {S G H σ env vs Ep Q Qh ws ds} p r0 h => ?_
  match ds, h, r0 with
  | [.list l], h, r0 =>
    obtain ⟨v, rfl, r⟩ := r0.one'
    obtain ⟨a, ys, rfl, h1, q1⟩ := r.lst'
    exact ⟨a, ys, rfl, .inl ⟨SqL.of (p.sub _ _ h1), fun b o hb hd => p.newT hb hd q1 h⟩⟩
  | [.tuple l], h, r0 =>
    obtain ⟨v, rfl, r⟩ := r0.one'
    obtain ⟨a, ys, rfl, h1, q1⟩ := r.tup'
    exact ⟨a, ys, rfl, .inr ⟨p.sub.t h1, p.done r h⟩⟩
theorem sd_listOf (hx : x = "list") (hg : Gl X x) (hm : X.mg x = none) (ha : PA X (e :: es) (tA X C E xs)) (ns : ∀ v p, e ≠ .Starred v p) (hpl : (backTo pos (starEach es X.env)).any (·.1) = false) : PE X (.Call (.Name x p) (e :: es) [] pos) (tE X C E (.bi .list xs)) := by
  subst hx
  refine sd_bi0 (pe_callTy call_list_of hg hm (by decide +kernel) ha (by decide) (by decide) (star_of ns) hpl) fun {S G H σ env vs Ep Q Qh ws ds} p r0 h => ?_
  match ds, h, r0 with
  | [.list l], h, r0 =>
    obtain ⟨v, rfl, r⟩ := r0.one'
    obtain ⟨a, ys, rfl, h1, q1⟩ := r.lst'
    exact ⟨a, ys, rfl, .inl (SqL.of (p.sub _ _ h1)), fun b hb => p.newL hb q1 h⟩
  | [.tuple l], h, r0 =>
    obtain ⟨v, rfl, r⟩ := r0.one'
    obtain ⟨a, ys, rfl, h1, q1⟩ := r.tup'
    exact ⟨a, ys, rfl, .inr (p.sub.t h1), fun b hb => p.newL hb q1 h⟩
theorem allInts_eq : ∀ {ds : List PyData} {ns : List Int}, allInts ds = some ns → ds = ns.map PyData.int
  | [], ns, h => by cases h; rfl
  | .int i :: r, ns, h => by
    simp only [allInts, Option.map_eq_some_iff] at h
    obtain ⟨ms, h1, rfl⟩ := h
    rw [allInts_eq h1]; rfl
  | .none :: r, ns, h => by cases h
  | .bool _ :: r, ns, h => by cases h
  | .str _ :: r, ns, h => by cases h
  | .list _ :: r, ns, h => by cases h
  | .tuple _ :: r, ns, h => by cases h
  | .dict _ :: r, ns, h => by cases h
/-- the sum of a list or of a tuple -/
def rSumLT (K : PySem.W.Frag) : List V → Hp → VK → Prop := fun vs H Q => ∃ (a : Addr) (ns : List Int), vs = [V.ref a] ∧ (SqL K H a (ns.map V.int) ∨ SqT K H a (ns.map V.int)) ∧ Q (.int ns.sum) H
theorem call_sumLT (hc : X.calm = true) : CallR X (.builtin "sum") (rSumLT X.K) := by
  intro pins s σ H vs us Q I r h
  obtain ⟨a, ns, rfl, hs, q⟩ := h
  rw [Vals.ref1 r]
  rcases hs with hs | hs
  · obtain ⟨its, rv, hl, _⟩ := I.list hs
    exact sum_raw (I.ok.hd hc) hl.isList rv.ints fun h' tk t' hk => ⟨.int _, H, I.kept hk, ⟨_, rfl⟩, q⟩
  · obtain ⟨its, rv, hl, _⟩ := I.tuple hs
    obtain ⟨xs, e⟩ := rv.ints.allInts.items
    have hn : numsOf (intItems xs).toList = ns := by rw [← e]; exact rv.ints.numsOf
    rw [nums_intItems] at hn
    rw [e] at hl
    refine PySem.W.ktm_sumG (I.ok.hd hc) hl fun h' tk t' hk => ?_
    rw [preSum_eq, List.take_of_length_le (by simp), hn]
    exact ⟨.int _, H, I.kept hk, ⟨_, rfl⟩, q⟩
theorem sd_sum (hc : X.calm = true) (hx : x = "sum") (hg : Gl X x) (hm : X.mg x = none) (ha : PA X (e :: es) (tA X C E xs)) (ns : ∀ v p, e ≠ .Starred v p) (hpl : (backTo pos (starEach es X.env)).any (·.1) = false) : PE X (.Call (.Name x p) (e :: es) [] pos) (tE X C E (.bi .sum xs)) := by
  subst hx
  refine sd_bi0 (pe_callB (call_sumLT hc) hg hm (by decide +kernel) ha (by decide) (by decide) (star_of ns) hpl) fun {S G H σ env vs Ep Q Qh ws ds} p r0 h => ?_
  match ds, h, r0 with
  | [.list l], ⟨ns, hn, h⟩, r0 =>
    obtain ⟨v, rfl, r⟩ := r0.one'
    obtain ⟨a, ys, rfl, h1, q1⟩ := r.lst'
    have e := allInts_eq hn
    subst e
    rw [q1.ints] at h1
    exact ⟨a, ns, rfl, .inl (SqL.of (p.sub _ _ h1)), p.done (.int _) h⟩
  | [.tuple l], ⟨ns, hn, h⟩, r0 =>
    obtain ⟨v, rfl, r⟩ := r0.one'
    obtain ⟨a, ys, rfl, h1, q1⟩ := r.tup'
    have e := allInts_eq hn
    subst e
    rw [q1.ints] at h1
    exact ⟨a, ns, rfl, .inr (p.sub.t h1), p.done (.int _) h⟩
theorem sd_bits {o : Expr} {eo : Ex} {apos : Pos} (ho : PE X o (tE X C E eo)) (hb : attributeBase o "bit_length" X.env (eval o X.env) = eval o X.env) (hl : (apos.endLine == pos.line) = true) : PE X (.Call (.Attribute o "bit_length" apos) [] [] pos) (tE X C E (.mth .bits eo .nil)) :=
  PE.imp (pe_bits ho hb hl) fun σ H Qh ⟨S, G, env, Ep, Q, p, h⟩ =>
    p.use (fun i hi => by simp [Ex.vs]; exact .inl hi) (by simpa only [Ex.rd] using h) fun v G1 H1 f x p1 x1 r1 h1 => by
      obtain ⟨_, h1⟩ := h1
      simp only [Exs.rd] at h1
      cases x <;> first
        | exact False.elim h1
        | (rw [r1.int']; exact ⟨_, rfl, p1.done (.int _) h1⟩)

/-! ### calls of defs -/
def ArgOk (K : PySem.W.Frag) (S : Sx) (G : Hp) (v : V) : Sl → Prop
  | .sh d => R K G v d
  | .src => ∃ sa ca, S = some (sa, ca) ∧ v = .ref sa
  | _ => False
theorem ArgOk.mono {K : PySem.W.Frag} {v : V} (s : Sub G G') : ∀ {l : Sl}, ArgOk K S G v l → ArgOk K S G' v l
  | .sh _, h => R.mono s h
  | .src, h => h
def tAa (X : Cx) (C : Nat → Fs) (E : XK) (es : Exs) : TA := fun σ H Qh => ∃ S G env Ep Q, StE X.K S G H σ env es.vs ∧ Rz X.mg S G H Ep E ∧ es.rda C Ep env Q ∧ ∀ ws G' H' sl, Ext S G H G' H' → Paired (ArgOk X.K S G') ws sl → Q sl → Qh ws H'
theorem saa_nil : PA X [] (tAa X C E .nil) := PA.imp pa_nil fun σ H Qh ⟨S, G, env, Ep, Q, st, rz, h, k⟩ => k [] G H [] st.refl .nil (by simpa only [Exs.rda] using h)
theorem paired_mono {K : PySem.W.Frag} (s : Sub G G') : ∀ {ws : List V} {sl : List Sl}, Paired (ArgOk K S G) ws sl → Paired (ArgOk K S G') ws sl
  | _, _, .nil => .nil
  | _, _, .cons h t => .cons (h.mono s) (paired_mono s t)
theorem saa_var {i : Nat} {xs : Exs} (ha : PE X e (tVar i)) (hr : PA X es (tAa X C E xs)) (ns : ∀ v p, e ≠ .Starred v p) : PA X (e :: es) (tAa X C E (.cons (.var i) xs)) :=
  PA.imp (pa_cons ha hr (star_of ns)) fun σ H Qh ⟨S, G, env, Ep, Q, st, rz, h, k⟩ => by
    have s := st.at_ i (by simp [Exs.vs, Ex.vs])
    simp only [Exs.rda] at h
    cases e1 : env[i]? with
    | none => rw [e1] at h; exact h.elim
    | some l =>
      have s := s l e1
      rw [e1] at h
      cases l with
      | un => exact h.elim
      | src =>
        obtain ⟨sa, ca, hs, hv⟩ := s
        exact ⟨_, hv, S, G, env, Ep, _, st.less (fun i hi => by simp [Exs.vs]; exact .inr hi), rz, h, fun ws G2 H2 sl x2 r2 q2 => k (.ref sa :: ws) G2 H2 (.src :: sl) x2 (.cons ⟨sa, ca, hs, rfl⟩ r2) q2⟩
      | sh d =>
        obtain ⟨v, hv, r⟩ := s
        exact ⟨v, hv, S, G, env, Ep, _, st.less (fun i hi => by simp [Exs.vs]; exact .inr hi), rz, h, fun ws G2 H2 sl x2 r2 q2 => k (v :: ws) G2 H2 (.sh d :: sl) x2 (.cons (r.mono x2.gg) r2) q2⟩
      | ow d =>
        obtain ⟨v, hv, r⟩ := s
        exact ⟨v, hv, S, G, env, Ep, _, st.less (fun i hi => by simp [Exs.vs]; exact .inr hi), rz, h, fun ws G2 H2 sl x2 r2 q2 => k (v :: ws) G2 H2 (.sh d :: sl) x2 (.cons (r.mono x2.gg) r2) q2⟩
theorem saa_cons {y : Ex} {xs : Exs} (ha : PE X e (tE X C E y)) (hy : ∀ i, y ≠ .var i) (hr : PA X es (tAa X C E xs)) (ns : ∀ v p, e ≠ .Starred v p) : PA X (e :: es) (tAa X C E (.cons y xs)) :=
  PA.imp (pa_cons ha hr (star_of ns)) fun σ H Qh ⟨S, G, env, Ep, Q, st, rz, h, k⟩ => by
    have h' : y.rd C Ep env fun _ d => xs.rda C Ep env fun ds => Q (.sh d :: ds) := by
      cases y <;> first | exact absurd rfl (hy _) | simpa only [Exs.rda] using h
    refine ⟨S, G, env, Ep, _, ⟨st.less (fun i hi => by simp [Exs.vs]; exact .inl hi), rz, fun v H' pp => ?_⟩, h'⟩
    obtain ⟨G', fr, d, x1, r1, q⟩ := pp.frz st.src
    exact ⟨S, G', env, Ep, _, (st.ext x1).less (fun i hi => by simp [Exs.vs]; exact .inr hi), rz.ext x1 st.src, q, fun ws G2 H2 ds x2 r2 q2 => k (v :: ws) G2 H2 (.sh d :: ds) (x1.trans st.src x2) (.cons (R.mono x2.gg r1) r2) q2⟩
/-- the promise of a def by its worth -/
def SpOf (K : PySem.W.Frag) (mg : Str → Option Value) (c : Fs) : Sp := fun ws H Q E => ∃ S G sl Qp Ep, Sub G H ∧ SrcOk S G H ∧ Paired (ArgOk K S G) ws sl ∧ c sl Qp Ep ∧ Rz mg S G H Ep E ∧ ∀ v H', Post K S G H Qp v H' → Q v H'
/-- the def called x keeps it -/
def FnAt (X : Cx) (lv : Nat) (x : Str) (c : Fs) : Prop := ∃ f fd ps, X.mg x = some (.ref f) ∧ PySem.W.keepIn X.K (.ref f) = true ∧ Binds X.K fd ps [] ∧ FnG X.prog X.w X.K X.mg X.base lv f fd ps (SpOf X.K X.mg c)
theorem sd_call {lv j : Nat} (hr : Room lv X.A) (hcl : Calm X.A) (F : FnAt X lv x (C j)) (hg : Gl X x) (hx : Passes (L2.CX X.prog X.w) X E) (ha : PA X (e :: es) (tAa X C E xs)) (ns : ∀ v p, e ≠ .Starred v p) (hpl : (backTo pos (starEach es X.env)).any (·.1) = false) (hdb : (x == ("__debug__" : Str)) = false) :
    PE X (.Call (.Name x p) (e :: es) [] pos) (tE X C E (.call j xs)) := by
  obtain ⟨f, fd, ps, hm, hk, hb, ok⟩ := F
  refine PE.imp (pe_callG (E := E) ok hr hcl hg hm hk hb hx ha hdb (star_of ns) hpl) fun σ H Qh ⟨S, G, env, Ep, Q, p, h⟩ => ?_
  refine ⟨S, G, env, Ep, _, p.st, p.rz, by simpa only [Ex.rd] using h, fun ws G' H' sl x1 r1 q1 => ?_⟩
  have p1 := p.go x1
  show SpOf X.K X.mg (C j) (ws ++ []) H' Qh E
  rw [List.append_nil]
  exact ⟨S, G', sl, Q, Ep, p1.sub, p1.st.src, r1, q1, p1.rz, p1.fin⟩

/-! ### what is walked -/
/-- an item: read, or a tuple that is unpacked at once -/
def RW (wk : Bool) (K : PySem.W.Frag) (G : Hp) (v : V) (d : PyData) : Prop := R K G v d ∨ (wk = true ∧ ∃ a xs ds, v = .ref a ∧ d = .tuple ds ∧ SqT K G a xs ∧ RAll K G xs ds)
def It.wk : It → Bool
  | .enum _ => true | .zip _ _ => true | .zips _ _ => true | _ => false
/-- J goes over the items xs, of which G knows -/
def Walks (wk : Bool) (K : PySem.W.Frag) (S : Sx) (J : L2.It) (xs : List PyData) (G : Hp) : Prop := ∀ G2 H2, Sub G G2 → Sub G2 H2 → SrcOk S G2 H2 →
  (∀ i d, xs[i]? = some d → J.go i H2 ∧ ∀ v H3, J.yld i H2 v H3 → ∃ G3, Ext S G2 H2 G3 H3 ∧ RW wk K G3 v d) ∧ J.stop xs.length H2
/-- what a list or a dict is -/
def LD (o : HO) : Prop := (∃ xs, o = .lst xs) ∨ ∃ ps, DO o ps
/-- G'' is G' but for lists and dicts that G had -/
def Thin (G G' G'' : Hp) : Prop := Sub G'' G' ∧ ∀ a o, G' a = some o → G'' a = some o ∨ (LD o ∧ G a = some o)
theorem not_LD_tup {xs : List V} : ¬ LD (.tup xs) := by
  rintro (⟨ys, h⟩ | ⟨ps, kvs, h, _⟩) <;> cases h
theorem not_LD_frz {o : Obj} {u : HO} : ¬ LD (.frz o u) := by
  rintro (⟨ys, h⟩ | ⟨ps, kvs, h, _⟩) <;> cases h
theorem Thin.t {G G' G'' : Hp} {K : PySem.W.Frag} {a : Addr} {xs : List V} (t : Thin G G' G'') (h : SqT K G' a xs) : SqT K G'' a xs := by
  rcases h with (h | ⟨o, h⟩) | h
  · exact .inl (.inl ((t.2 _ _ h).resolve_right fun z => not_LD_tup z.1))
  · exact .inl (.inr ⟨o, (t.2 _ _ h).resolve_right fun z => not_LD_frz z.1⟩)
  · exact .inr h
mutual
theorem R.thin {G G' G'' : Hp} {K : PySem.W.Frag} (t : Thin G G' G'') : ∀ {v : V} {d : PyData}, R K G' v d → flat d = true → R K G'' v d
  | _, _, .non, _ => .non
  | _, _, .bl b, _ => .bl b
  | _, _, .int i, _ => .int i
  | _, _, .str x, _ => .str x
  | _, _, .lst h r, e => by simp [flat] at e
  | _, _, .tup h hd r, e => .tup ((t.2 _ _ h).resolve_right fun z => not_LD_frz z.1) hd (RAll.thin t r (by simpa [flat] using e))
  | _, _, .dic h o r, e => by simp [flat] at e
theorem RAll.thin {G G' G'' : Hp} {K : PySem.W.Frag} (t : Thin G G' G'') : ∀ {vs : List V} {ds : List PyData}, RAll K G' vs ds → flats ds = true → RAll K G'' vs ds
  | _, _, .nil, _ => .nil
  | _, _, .cons h r, e => by
    simp only [flats, Bool.and_eq_true] at e
    exact .cons (R.thin t h e.1) (RAll.thin t r e.2)
end
def tI (X : Cx) (C : Nat → Fs) (E : XK) (it : It) : TI := fun σ H Rh => ∃ S G env Ep Q, StE X.K S G H σ env it.vs ∧ Rz X.mg S G H Ep E ∧ it.rd C Ep env Q ∧ ∀ J lf xs G' H', Ext S G H G' H' → (∀ G'', (G'' = G' ∨ (lf = true ∧ Thin G G' G'')) → Walks it.wk X.K S J xs G'') → Q lf xs → Rh J H'
theorem isSeq_iff {d : PyData} {Q : List PyData → Prop} (h : isSeq d Q) : ∃ xs, (d = .list xs ∨ d = .tuple xs) ∧ Q xs := by
  cases d <;> first | exact ⟨_, .inl rfl, h⟩ | exact ⟨_, .inr rfl, h⟩ | cases h
theorem walks_l {K : PySem.W.Frag} {a : Addr} {ws : List V} {xs : List PyData} (h : G a = some (.lst ws)) (r : RAll K G ws xs) : Walks false K S (Itl K a) xs G := fun G2 H2 s1 s2 so => by
  have hl : SqL K H2 a ws := SqL.of (s2 _ _ (s1 _ _ h))
  refine ⟨fun i d e => ?_, ⟨ws, hl, by rw [r.length]; exact Nat.le_refl _⟩⟩
  obtain ⟨v, ev, rv⟩ := r.get i e
  refine ⟨⟨ws, v, hl, ev⟩, fun v' H3 ⟨e3, y⟩ => ?_⟩
  subst e3
  have e4 := y ws hl
  rw [ev] at e4
  cases e4
  exact ⟨G2, .refl s2 so, .inl (rv.mono s1)⟩
theorem walks_t {K : PySem.W.Frag} {a : Addr} {ws : List V} {xs : List PyData} (h : SqT K G a ws) (r : RAll K G ws xs) : Walks false K S (Itt K a) xs G := fun G2 H2 s1 s2 so => by
  have hl : SqT K H2 a ws := s2.t (s1.t h)
  refine ⟨fun i d e => ?_, ⟨ws, hl, by rw [r.length]; exact Nat.le_refl _⟩⟩
  obtain ⟨v, ev, rv⟩ := r.get i e
  refine ⟨⟨ws, v, hl, ev⟩, fun v' H3 ⟨e3, y⟩ => ?_⟩
  subst e3
  have e4 := y ws hl
  rw [ev] at e4
  cases e4
  exact ⟨G2, .refl s2 so, .inl (rv.mono s1)⟩
theorem intsD_get {a : Int} {n i : Nat} {d : PyData} (h : (intsD a n)[i]? = some d) : i < n ∧ d = .int (a + (i : Nat)) := by
  obtain ⟨h1, e⟩ := List.getElem?_eq_some_iff.mp h
  have h2 : i < n := by simpa [intsD] using h1
  refine ⟨h2, ?_⟩
  rw [← e]
  simp [intsD]
theorem intsD_length {a : Int} {n : Nat} : (intsD a n).length = n := by simp [intsD]
theorem downD_get {a : Int} {n i : Nat} {d : PyData} (h : (downD a n)[i]? = some d) : i < n ∧ d = .int (a + (i : Nat) * (-1)) := by
  obtain ⟨h1, e⟩ := List.getElem?_eq_some_iff.mp h
  have h2 : i < n := by simpa [downD] using h1
  refine ⟨h2, ?_⟩
  rw [← e]
  simp [downD]
theorem downD_length {a : Int} {n : Nat} : (downD a n).length = n := by simp [downD]
theorem walks_d {K : PySem.W.Frag} {lo : Int} {n : Nat} : Walks false K S (Itc lo (-1) n) (downD lo n) G := fun G2 H2 s1 s2 so => by
  refine ⟨fun i d e => ?_, by rw [downD_length]; exact Nat.le_refl _⟩
  obtain ⟨hi, rfl⟩ := downD_get e
  exact ⟨hi, fun v' H3 ⟨e3, y⟩ => by subst e3 y; exact ⟨G2, .refl s2 so, .inl (.int _)⟩⟩
theorem walks_r {K : PySem.W.Frag} {lo : Int} {n : Nat} : Walks false K S (Itr lo n) (intsD lo n) G := fun G2 H2 s1 s2 so => by
  refine ⟨fun i d e => ?_, by rw [intsD_length]; exact Nat.le_refl _⟩
  obtain ⟨hi, rfl⟩ := intsD_get e
  exact ⟨hi, fun v' H3 ⟨e3, y⟩ => by subst e3 y; exact ⟨G2, .refl s2 so, .inl (.int _)⟩⟩
/-- a list or a tuple is walked -/
theorem pi_both {tg l : Expr} {tl : TE} (hl : PE X l tl) : PI X tg l (fun σ H Rh => tl σ H fun x H1 => ∃ a, x = .ref a ∧ (((∃ xs, SqL X.K H1 a xs) ∧ Rh (Itl X.K a) H1) ∨ ((∃ xs, SqT X.K H1 a xs) ∧ Rh (Itt X.K a) H1))) := by
  refine ⟨fun pins s σ H Rh I h => thn (hl.run pins s σ H _ I h) fun v s1 ⟨x, H1, I1, r1, a, e, q1⟩ => ?_⟩
  subst e
  cases r1
  have fp : ∀ b ∈ [s1.heap.objs.size], FpOk X pins H1 b := fun b hb => by
    rw [List.mem_singleton.mp hb]
    exact I1.fpOk (Nat.le_refl _) (I1.hok.fresh (Nat.le_refl _))
  rcases q1 with ⟨⟨xs, hq⟩, q⟩ | ⟨⟨xs, hq⟩, q⟩
  · obtain ⟨its, _, p, _⟩ := I1.list hq
    exact wpAny_pyIter_list p.isList ⟨_, _, _, Itl X.K a, H1, rfl, I1.kept (t' := s1.toks) (fun b o => Heap.get?_push_of_some _), turn_list a _, ⟨_, Heap.get?_push_size _ rfl, rfl, rfl⟩, fp, q⟩
  · obtain ⟨its, _, p, _⟩ := I1.tuple hq
    exact wpAny_pyIter_tuple p ⟨_, _, _, Itt X.K a, H1, rfl, I1.kept (t' := s1.toks) (fun b o => Heap.get?_push_of_some _), turn_tuple a _, ⟨_, Heap.get?_push_size _ rfl, rfl, rfl⟩, fp, q⟩
/-- what is walked, frozen: its list, not of G, or flat -/
theorem post_leaf {K : PySem.W.Frag} {Q : Bool → PyData → Prop} {v : V} (h : Post K S G H Q v H') (s0 : Sub G H) (so : SrcOk S G H) : ∃ G' fr d, Ext S G H G' H' ∧ R K G' v d ∧ Q fr d ∧ (leafy fr d = true → ∀ G'', Thin G G' G'' → R K G'' v d) := by
  obtain ⟨G1, fr, d, x, r, q⟩ := h
  cases fr with
  | false =>
    have r' : R K G1 v d := by simpa [RF] using r
    exact ⟨G1, _, d, x, r', q, fun lf G'' t => R.thin t r' (by simpa [leafy] using lf)⟩
  | true =>
    simp only [RF, if_true] at r
    obtain ⟨r, n⟩ := r
    obtain ⟨a, o, e, ho, hg, k⟩ := r.at
    refine ⟨upd G1 a o, _, d, x.freeze so (n a e) ho hg, k _ (.nw hg) upd_same, q, fun lf G'' t => ?_⟩
    have ga : G a = none := by
      cases z : G a with
      | none => rfl
      | some u => have := n a e; rw [s0 _ _ z] at this; cases this
    have keep : G'' a = some o := (t.2 a o upd_same).resolve_right fun z => by rw [ga] at z; cases z.2
    cases d with
    | list ds =>
      obtain ⟨a', xs, e', h1, h2, ra⟩ := r
      have ea : a' = a := by rw [e] at e'; cases e'; rfl
      subst ea
      rw [h1] at ho; cases ho
      rw [e]
      exact .lst keep (RAll.thin t (ra.mono (.nw hg)) (by simpa [leafy, flat] using lf))
    | dict kvs => simp [leafy, flat] at lf
    | none => cases r
    | bool b => cases r
    | int i => cases r
    | str x => cases r
    | tuple xs => cases r
theorem si_seq {tg : Expr} {y : Ex} (h : PE X e (tE X C E y)) : PI X tg e (tI X C E (.seq y)) :=
  PI.imp (pi_both h) fun σ H Rh ⟨S, G, env, Ep, Q, st, rz, h, k⟩ => by
    refine ⟨S, G, env, Ep, _, ⟨st.less (fun i hi => by simpa [It.vs] using hi), rz, fun v H' pp => ?_⟩, by simpa only [It.rd] using h⟩
    obtain ⟨G', fr, d, x1, r1, q, thin⟩ := post_leaf pp st.sub st.src
    obtain ⟨xs, hd, q⟩ := isSeq_iff q
    have all : ∀ G'', (G'' = G' ∨ (leafy fr d = true ∧ Thin G G' G'')) → R X.K G'' v d := fun G'' hg => by
      rcases hg with rfl | ⟨lf, t⟩
      · exact r1
      · exact thin lf G'' t
    rcases hd with rfl | rfl
    · obtain ⟨a, ys, rfl, h1, q1⟩ := r1.lst'
      refine ⟨a, rfl, .inl ⟨⟨ys, SqL.of (x1.gh _ _ h1)⟩, k _ _ _ _ _ x1 (fun G'' hg => ?_) q⟩⟩
      obtain ⟨a', ys', e', h1', q1'⟩ := (all G'' hg).lst'
      cases e'
      exact walks_l h1' q1'
    · obtain ⟨a, ys, rfl, h1, q1⟩ := r1.tup'
      refine ⟨a, rfl, .inr ⟨⟨ys, x1.gh.t h1⟩, k _ _ _ _ _ x1 (fun G'' hg => ?_) q⟩⟩
      obtain ⟨a', ys', e', h1', q1'⟩ := (all G'' hg).tup'
      cases e'
      exact walks_t h1' q1'
theorem si_range1 {tg : Expr} {a : Expr} {y : Ex} (hg : Gl X "range") (hm : X.mg "range" = none) (h : PE X a (tE X C E y)) (ns : ∀ v p, a ≠ .Starred v p) : PI X tg (.Call (.Name "range" p) [a] [] pos) (tI X C E (.range1 y)) :=
  PI.imp (pi_range1 hg hm (sa_cons h sa_nil ns) (star_of ns)) fun σ H Rh ⟨S, G, env, Ep, Q, st, rz, h, k⟩ => by
    refine ⟨S, G, env, Ep, fun ds => match ds with
      | [d] => isInt d fun n => -(2 ^ 60) ≤ n ∧ n ≤ 2 ^ 60 ∧ Q true (intsD 0 n.toNat)
      | _ => False, st.less (fun i hi => by simpa [It.vs, Exs.vs] using hi), rz, by simp only [Exs.rd]; simpa only [It.rd] using h, fun ws G' H' ds x r0 q => ?_⟩
    match ds, r0, q with
    | [d], r0, q =>
      obtain ⟨i, rfl, h1, h2, q⟩ := isInt_iff q
      obtain ⟨v, rfl, r⟩ := r0.one'
      rw [r.int']
      exact ⟨i, rfl, by omega, by omega, k _ _ _ _ _ x (fun _ _ => walks_r) q⟩
theorem si_range2 {tg : Expr} {a b : Expr} {y z : Ex} (hg : Gl X "range") (hm : X.mg "range" = none) (h : PE X a (tE X C E y)) (hb : PE X b (tE X C E z)) (ns : ∀ v p, a ≠ .Starred v p) (ns2 : ∀ v p, b ≠ .Starred v p) : PI X tg (.Call (.Name "range" p) [a, b] [] pos) (tI X C E (.range2 y z)) :=
  PI.imp (pi_range2 hg hm (sa_cons h (sa_cons hb sa_nil ns2) ns) (by rw [star_of ns, star_of ns2]; rfl) (by rw [star_of ns2]; rfl)) fun σ H Rh ⟨S, G, env, Ep, Q, st, rz, h, k⟩ => by
    refine ⟨S, G, env, Ep, fun ds => match ds with
      | [d, d'] => isInt d fun m => isInt d' fun n => -(2 ^ 60) ≤ m ∧ m ≤ 2 ^ 60 ∧ -(2 ^ 60) ≤ n ∧ n ≤ 2 ^ 60 ∧ Q true (intsD m (n - m).toNat)
      | _ => False, st.less (fun i hi => by simpa [It.vs, Exs.vs] using hi), rz, by simp only [Exs.rd]; simpa only [It.rd] using h, fun ws G' H' ds x r0 q => ?_⟩
    match ds, r0, q with
    | [d, d'], r0, q =>
      obtain ⟨i, e1, q1⟩ := isInt_iff (d := d) q
      obtain ⟨j, e2, h1, h2, h3, h4, q2⟩ := isInt_iff (d := d') q1
      subst e1 e2
      obtain ⟨v, w, rfl, r, r'⟩ := r0.two'
      rw [r.int', r'.int']
      exact ⟨i, j, rfl, ⟨by omega, by omega, by omega, by omega⟩, k _ _ _ _ _ x (fun _ _ => walks_r) q2⟩
theorem si_rangd {tg : Expr} {a b c : Expr} {y z : Ex} (hg : Gl X "range") (hm : X.mg "range" = none) (h : PE X a (tE X C E y)) (hb : PE X b (tE X C E z)) (hc : PE X c (tE X C E (.neg (.lit (.int 1))))) (ns : ∀ v p, a ≠ .Starred v p) (ns2 : ∀ v p, b ≠ .Starred v p) (ns3 : ∀ v p, c ≠ .Starred v p) : PI X tg (.Call (.Name "range" p) [a, b, c] [] pos) (tI X C E (.rangd y z)) :=
  PI.imp (pi_range3 hg hm (sa_cons h (sa_cons hb (sa_cons hc sa_nil ns3) ns2) ns) (by rw [star_of ns, star_of ns2]) (by rw [star_of ns2, star_of ns3]; rfl)) fun σ H Rh ⟨S, G, env, Ep, Q, st, rz, h, k⟩ => by
    refine ⟨S, G, env, Ep, fun ds => match ds with
      | [d, d', e] => e = .int (-1) ∧ isInt d fun m => isInt d' fun n => -(2 ^ 60) ≤ m ∧ m ≤ 2 ^ 60 ∧ -(2 ^ 60) ≤ n ∧ n ≤ 2 ^ 60 ∧ Q true (downD m (m - n).toNat)
      | _ => False, st.less (fun i hi => by simpa [It.vs, Exs.vs, Ex.vs] using hi), rz, ?_, fun ws G' H' ds x r0 q => ?_⟩
    · have ii : ∀ (i : Int) (R : Int → Prop), isInt (.int i) R = R i := fun _ _ => rfl
      simp only [Exs.rd, Ex.rd, ii]
      simpa only [It.rd, true_and] using h
    · match ds, r0, q with
      | [d, d', e], r0, q =>
        obtain ⟨e0, q⟩ := q
        subst e0
        obtain ⟨i, e1, q1⟩ := isInt_iff (d := d) q
        obtain ⟨j, e2, h1, h2, h3, h4, q2⟩ := isInt_iff (d := d') q1
        subst e1 e2
        cases r0 with
        | cons ra r0 =>
          cases r0 with
          | cons rb r0 =>
            cases r0 with
            | cons rc r0 =>
              cases r0
              rw [ra.int', rb.int', rc.int']
              exact ⟨i, j, -1, _, rfl, RgC.neg (by omega) (by omega) (by omega) (by omega), k _ _ _ _ _ x (fun _ _ => walks_d) q2⟩
end
end DL
set_option Elab.async false
set_option linter.all false
set_option maxRecDepth 100000
set_option maxHeartbeats 2000000
/-! Db: what is read off the part G is read off the heap; built-ins over data. -/
namespace DL
open PySem PySem.Spec PyProof.Rows L2

section
variable {X : Cx} {pins : List (Addr × Obj)} {σ : L2.St} {G H : Hp} {s : Shared}
mutual
theorem R.reads (I : Inv X pins σ H s) (sy : SysD X.base) (sub : Sub G H) : ∀ {v : V} {d : PyData}, R X.K G v d → ∀ {u : Value}, L2.RelV v u → ∃ as, Reads s.heap u d as ∧ sysModules ∉ as
  | _, _, .non, u, r => by cases r; exact ⟨[], .none, by simp⟩
  | _, _, .bl b, u, r => by cases r; exact ⟨[], .bool b, by simp⟩
  | _, _, .int i, u, ⟨t, e⟩ => by subst e; exact ⟨[], .int i t, by simp⟩
  | _, _, .str x, u, ⟨t, e⟩ => by subst e; exact ⟨[], .str x t, by simp⟩
  | _, _, .lst (a := a) h q, u, r => by
    cases r
    obtain ⟨its, vr, ⟨o, n, ho, hc, -, hd⟩, -⟩ := I.list (SqL.of (sub _ _ h))
    obtain ⟨as, q1, q2⟩ := RAll.reads I sy sub q vr
    refine ⟨a :: as, .list ho hc hd (by simpa using q1), ?_⟩
    intro z
    rcases List.mem_cons.mp z with z | z
    · obtain ⟨os, _, _, s1, s2, _⟩ := sy
      have e := I.bk _ _ s1
      rw [z, ho] at e
      cases e
      exact absurd (hc.symm.trans s2) (by decide)
    · exact q2 z
  | _, _, .tup h _ q, u, r => by
    cases r
    obtain ⟨its, vr, ⟨o, ho, hc, n, hd⟩, -⟩ := I.tuple (SqT.frz (sub _ _ h))
    obtain ⟨as, q1, q2⟩ := RAll.reads I sy sub q vr
    exact ⟨as, .tuple ho hc hd (by simpa using q1), q2⟩
  | _, _, .dic (a := a) h dp q, u, r => by
    cases r
    obtain ⟨kvs0, rfl, e⟩ := dp
    obtain ⟨-, hsm, vs, kv, o, es, ep, ho, hx, hd, -, pr, -⟩ := dk_rd I.hok (sub.rd h)
    obtain ⟨as, bs, k1, k2, n1, n2⟩ := RKV.reads I sy sub q e kv pr
    refine ⟨a :: as ++ bs, .dict ho hx.1 hd k1 k2, ?_⟩
    intro z
    rcases List.mem_append.mp z with z | z
    · rcases List.mem_cons.mp z with z | z
      · exact absurd z.symm (by simpa using hsm)
      · exact n1 z
    · exact n2 z
theorem RAll.reads (I : Inv X pins σ H s) (sy : SysD X.base) (sub : Sub G H) : ∀ {vs : List V} {ds : List PyData}, RAll X.K G vs ds → ∀ {us : List Value}, Vals vs us → ∃ as, ReadsAll s.heap us ds as ∧ sysModules ∉ as
  | _, _, .nil, us, r => by cases r; exact ⟨[], .nil, by simp⟩
  | _, _, .cons h t, us, r0 => by
    cases r0
    rename_i r rr
    obtain ⟨as, q1, n1⟩ := R.reads I sy sub h r
    obtain ⟨bs, q2, n2⟩ := RAll.reads I sy sub t rr
    exact ⟨as ++ bs, .cons q1 q2, by simp [n1, n2]⟩
theorem RKV.reads (I : Inv X pins σ H s) (sy : SysD X.base) (sub : Sub G H) : ∀ {ps : List (PyData × V)} {kvs : List (PyData × PyData)}, RKV X.K G ps kvs → ∀ {kvs0 : List (Key × V)} {vs : List (Key × Value)} {es : List DictEntry},
    ps = kvs0.map (fun p => (kD p.1, p.2)) → KV kvs0 vs → Pairs (mixKind X.prog X.w) es vs → ∃ as bs, ReadsAll s.heap (es.map (·.key)) (kvs.map (·.1)) as ∧ ReadsAll s.heap (es.map (·.val)) (kvs.map (·.2)) bs ∧ sysModules ∉ as ∧ sysModules ∉ bs
  | _, _, .nil, kvs0, vs, es, e, kv, pr => by
    cases kvs0 with
    | nil => cases kv; cases pr; exact ⟨[], [], .nil, .nil, by simp, by simp⟩
    | cons _ _ => cases e
  | _, _, .cons (k := k) hv t, kvs0, vs, es, e, kv, pr => by
    cases kvs0 with
    | nil => cases e
    | cons p0 r0 =>
      simp only [List.map_cons, List.cons.injEq, Prod.mk.injEq] at e
      obtain ⟨⟨e1, e2⟩, e3⟩ := e
      cases kv with
      | cons z zz =>
        cases pr with
        | @cons e0 _ es1 _ p1 p2 pp =>
          obtain ⟨z1, z2⟩ := z
          obtain ⟨as, bs, q1, q2, n1, n2⟩ := RKV.reads I sy sub t e3 zz pp
          rw [← e2] at z2
          obtain ⟨bs1, q3, n3⟩ := R.reads I sy sub hv z2
          rw [← p2] at q3
          have kq : Reads s.heap e0.key k [] := by
            rcases keyIs_shape p1 with ⟨i, tk, y1, y2⟩ | ⟨i, tk, y1, y2⟩
            · rw [z1, y1] at e1
              subst e1
              rw [y2]
              exact .int i tk
            · rw [z1, y1] at e1
              subst e1
              rw [y2]
              exact .str i tk
          exact ⟨[] ++ as, bs1 ++ bs, .cons kq q1, .cons q3 q2, by simpa using n1, by simp [n2, n3]⟩
end
theorem R.reads1 (I : Inv X pins σ H s) (sy : SysD X.base) (sub : Sub G H) {v : V} {d : PyData} (r : R X.K G v d) {u : Value} (h : L2.RelV v u) : ∃ as, Reads s.heap u d as := let ⟨as, q, _⟩ := r.reads I sy sub h; ⟨as, q⟩
end
end DL

namespace DL
open PySem PySem.Spec PyProof.Rows L2
section
variable {X : Cx} {C : Nat → Fs} {E : XK} {S : Sx} {G H : Hp} {σ : L2.St} {env : Env} {Q : Bool → PyData → Prop} {Qh : VK}
theorem CallR.or {f : Value} {r1 r2 : List V → Hp → VK → Prop} (h1 : CallR X f r1) (h2 : CallR X f r2) : CallR X f (fun ws H Qh => r1 ws H Qh ∨ r2 ws H Qh) := fun pins s σ H xs us Q I r h => by
  rcases h with h | h
  · exact h1 pins s σ H xs us Q I r h
  · exact h2 pins s σ H xs us Q I r h
theorem un1 {v : V} {us : List Value} (r : Vals [v] us) : ∃ u, us = [u] ∧ L2.RelV v u := by
  cases r with
  | cons h t => cases t; exact ⟨_, rfl, h⟩
theorem un2 {v v' : V} {us : List Value} (r : Vals [v, v'] us) : ∃ u u', us = [u, u'] ∧ L2.RelV v u ∧ L2.RelV v' u' := by
  cases r with
  | cons h t => obtain ⟨u', rfl, h'⟩ := un1 t; exact ⟨_, _, rfl, h, h'⟩
def tyN : Ty → String
  | .tup => "tuple" | .int => "int" | .bool => "bool" | .str => "str" | .list => "list" | .dict => "dict"
def rIsaD (X : Cx) (T : Ty) : List V → Hp → VK → Prop := fun ws H Qh => ∃ G v d, Sub G H ∧ R X.K G v d ∧ ws = [v, .ty (tyN T)] ∧ Qh (.bl (isaD T d)) H
theorem call_isaD (sy : SysD X.base) (T : Ty) : CallR X (.builtin "isinstance") (rIsaD X T) := by
  rintro pins s σ H xs us Q I vr ⟨G, v, d, sub, r, rfl, q⟩
  obtain ⟨u, u', rfl, h1, h2⟩ := un2 vr
  obtain ⟨as, rd⟩ := r.reads1 I sy sub h1
  have e : u' = .type (tyN T) := h2
  subst e
  have fin : ∀ b tk, s.toks ≤ tk → Q (.bl b) H → EP X pins σ Q (.bool b) { s with toks := tk } := fun b tk _ q => ⟨.bl b, H, I.tok _, rfl, q⟩
  cases T
  · exact PySem.W.isinstance_tuple_data rd fun tk h => fin _ tk h q
  · exact PySem.W.isinstance_int_data rd fun tk h => fin _ tk h q
  · exact PySem.W.isinstance_bool_data rd fun tk h => fin _ tk h q
  · exact PySem.W.isinstance_str_data rd fun tk h => fin _ tk h q
  · exact PySem.W.isinstance_list_data rd fun tk h => fin _ tk h q
  · exact PySem.W.isinstance_dict_data rd fun tk h => fin _ tk h q
def rReprD (X : Cx) : List V → Hp → VK → Prop := fun ws H Qh => ∃ G v d, Sub G H ∧ R X.K G v d ∧ okR d ∧ ws = [v] ∧ Qh (.str d.shown) H
theorem call_reprD (sy : SysD X.base) (hc : Calm X.A) (hu : X.A.units + 65 < cLine) : CallR X (.builtin "repr") (rReprD X) := by
  rintro pins s σ H xs us Q I vr ⟨G, v, d, sub, r, ⟨k1, k2, k3⟩, rfl, q⟩
  obtain ⟨u, rfl, h1⟩ := un1 vr
  obtain ⟨as, rd, hn⟩ := r.reads I sy sub h1
  have refs : ∀ a, u = .ref a → wpAny (model X.prog X.w) X.A (call (.builtin "repr") [.ref a]) (EP X pins σ Q) X.xe s := fun a e => by
    subst e
    exact repr_of_reads' rd k1 (fun _ => hn) hc (by omega) (fun _ _ e => e) (fun h' t tk hk => ⟨.str d.shown, H, I.kept (t' := tk) hk, ⟨_, rfl⟩, q⟩) k2
  cases r with
  | non => cases h1; exact P.repr_of_none ⟨.str _, H, I.tok _, ⟨_, rfl⟩, q⟩
  | bl b => cases h1; exact P.repr_of_bool ⟨.str _, H, I.tok _, ⟨_, rfl⟩, q⟩
  | int i =>
    obtain ⟨t, rfl⟩ := h1
    exact P.repr_of_int (by simpa [PyData.showable] using k1) ⟨.str _, H, I.tok _, ⟨_, rfl⟩, q⟩
  | str x =>
    obtain ⟨t, rfl⟩ := h1
    exact P.repr_of_str (hsz := k2) ⟨.str _, H, I.tok _, ⟨_, rfl⟩, q⟩
  | lst _ _ => cases h1; exact refs _ rfl
  | tup _ _ => cases h1; exact refs _ rfl
  | dic _ _ _ => cases h1; exact refs _ rfl
theorem alikeB_ok {xs : List PyData} (h : alikeB xs = true) : PySem.W.AllAlike xs ∧ PySem.W.AlikeAll xs := by
  unfold alikeB at h
  rw [Bool.and_eq_true] at h
  have a : PySem.W.AllAlike xs := fun d hd e he => List.all_eq_true.mp (List.all_eq_true.mp h.1 d hd) e he
  exact ⟨a, a, fun x hx e => by subst e; exact absurd (List.all_eq_true.mp h.2 _ hx) (by decide)⟩
theorem vals_get : ∀ {vs : List V} {us : List Value}, Vals vs us → ∀ {i : Nat} {u : Value}, us[i]? = some u → ∃ v, vs[i]? = some v ∧ L2.RelV v u
  | _, _, .nil, i, u, e => by simp at e
  | _, _, .cons h t, 0, u, e => by simp at e; subst e; exact ⟨_, rfl, h⟩
  | _, _, .cons h t, i + 1, u, e => by
    obtain ⟨v, e', r⟩ := vals_get t (i := i) (u := u) (by simpa using e)
    exact ⟨v, by simpa using e', r⟩
theorem fold_mem {f : PyData → PyData → Bool} : ∀ {xs : List PyData} {x : PyData}, xs.foldl (fun a y => if f a y then y else a) x ∈ x :: xs
  | [], x => by simp
  | y :: ys, x => by
    rw [List.foldl_cons]
    have h := fold_mem (f := f) (xs := ys) (x := if f x y then y else x)
    rcases List.mem_cons.mp h with h | h
    · rw [h]; split <;> simp
    · exact List.mem_cons_of_mem _ (List.mem_cons_of_mem _ h)
def rBest (X : Cx) (f : PyData → List PyData → PyData) : List V → Hp → VK → Prop := fun ws H Qh => ∃ G v x xs, Sub G H ∧ (R X.K G v (.list (x :: xs)) ∨ R X.K G v (.tuple (x :: xs))) ∧ okM (x :: xs) ∧ ws = [v] ∧ ∀ u, R X.K G u (f x xs) → Qh u H
theorem best_end {pins : List (Addr × Obj)} {s : Shared} {f : PyData → List PyData → PyData} {x : PyData} {xs : List PyData} {ys : List V} {its : List Value} (hf : f x xs ∈ x :: xs) (I : Inv X pins σ H s) (sy : SysD X.base) (sub : Sub G H) (al : PySem.W.AllAlike (x :: xs))
    (q1 : RAll X.K G ys (x :: xs)) (vr : Vals ys its) (k : ∀ u, R X.K G u (f x xs) → Qh u H) : ∀ (i : Nat) v h' tk bs, its.toArray[i]? = some v → Reads h' v (f x xs) bs → (∀ b o, s.heap.get? b = some o → h'.get? b = some o) → EP X pins σ Qh v { s with heap := h', toks := tk } := by
  intro i u h' tk bs e rd hk
  obtain ⟨v, e1, rv⟩ := vals_get vr (i := i) (u := u) (by simpa using e)
  obtain ⟨d, e2, r⟩ := q1.getV i e1
  have I2 : Inv X pins σ H { s with heap := h', toks := tk } := I.kept (t' := tk) hk
  obtain ⟨as, rd2⟩ := r.reads1 I2 sy sub rv
  have e3 : d = f x xs := PySem.W.alike_unique _ _ _ _ _ (al _ (List.mem_of_getElem? e2) _ hf) rd2 rd
  subst e3
  exact ⟨v, H, I2, rv, k v r⟩
theorem call_maxD (sy : SysD X.base) (hc : X.calm = true) (hu : X.A.units + 65 < cLine) : CallR X (.builtin "max") (rBest X PySem.W.maxD) := by
  rintro pins s σ H xs us Q I vr ⟨G, v, x, ds, sub, r, ⟨k1, k2⟩, rfl, q⟩
  obtain ⟨u, rfl, h1⟩ := un1 vr
  obtain ⟨al, al2⟩ := alikeB_ok k1
  have hm : PySem.W.maxD x ds ∈ x :: ds := fold_mem (f := fun a y => PySem.W.dataLt a y)
  rcases r with r | r
  · obtain ⟨a, ys, rfl, h, q1⟩ := r.lst'
    cases h1
    obtain ⟨its, vr, p, -⟩ := I.list (SqL.of (sub _ _ h))
    obtain ⟨as, rd, -⟩ := q1.reads I sy sub vr
    exact PySem.W.max_list_data (I.ok.hd hc) p.isList (by simpa using rd) al2 (by omega) (best_end hm I sy sub al q1 vr q)
  · obtain ⟨a, ys, rfl, h, q1⟩ := r.tup'
    cases h1
    obtain ⟨its, vr, p, -⟩ := I.tuple (sub.t h)
    obtain ⟨as, rd, -⟩ := q1.reads I sy sub vr
    exact PySem.W.max_tuple_data (I.ok.hd hc) p (by simpa using rd) al2 (by omega) (best_end hm I sy sub al q1 vr q)
theorem call_minD (sy : SysD X.base) (hc : X.calm = true) (hu : X.A.units + 65 < cLine) : CallR X (.builtin "min") (rBest X PySem.W.minD) := by
  rintro pins s σ H xs us Q I vr ⟨G, v, x, ds, sub, r, ⟨k1, k2⟩, rfl, q⟩
  obtain ⟨u, rfl, h1⟩ := un1 vr
  obtain ⟨al, al2⟩ := alikeB_ok k1
  have hm : PySem.W.minD x ds ∈ x :: ds := fold_mem (f := fun a y => PySem.W.dataLt y a)
  rcases r with r | r
  · obtain ⟨a, ys, rfl, h, q1⟩ := r.lst'
    cases h1
    obtain ⟨its, vr, p, -⟩ := I.list (SqL.of (sub _ _ h))
    obtain ⟨as, rd, -⟩ := q1.reads I sy sub vr
    exact PySem.W.min_list_data (I.ok.hd hc) p.isList (by simpa using rd) al2 (by omega) (best_end hm I sy sub al q1 vr q)
  · obtain ⟨a, ys, rfl, h, q1⟩ := r.tup'
    cases h1
    obtain ⟨its, vr, p, -⟩ := I.tuple (sub.t h)
    obtain ⟨as, rd, -⟩ := q1.reads I sy sub vr
    exact PySem.W.min_tuple_data (I.ok.hd hc) p (by simpa using rd) al2 (by omega) (best_end hm I sy sub al q1 vr q)
/-! sorted -/
theorem okS_ok {xs : List PyData} (h : okS xs) : PySem.W.AllAlike xs ∧ (PySem.W.Sortable xs ∨ xs.length ≤ 1) ∧ PyData.depthAll xs ≤ 60 ∧ ∀ d ∈ xs, d ≠ .none := by
  obtain ⟨⟨a, b⟩, c⟩ := h
  have nn : ∀ d ∈ xs, d ≠ .none := fun d hd z => by
    unfold alikeB at a
    rw [Bool.and_eq_true] at a
    subst z
    exact absurd (List.all_eq_true.mp a.2 _ hd) (by decide)
  refine ⟨(alikeB_ok a).1, ?_, b, nn⟩
  rw [Bool.or_eq_true, Bool.or_eq_true] at c
  rcases c with (c | c) | c
  · refine .inl (.inl fun d hd => ?_)
    have e := List.all_eq_true.mp c d hd
    match d, e with
    | .tuple (x :: r), _ => exact ⟨x, r, rfl⟩
  · refine .inl (.inr fun d hd => ?_)
    have e := List.all_eq_true.mp c d hd
    refine ⟨fun z => ?_, fun ys z => ?_⟩ <;> (subst z; cases e)
  · exact .inr (of_decide_eq_true c)
/-- data that can be sorted, and one thing alone -/
theorem sorts_data {prog : Program} {w : World} {A : Around} {s : Shared} {vs : List Value} {ds : List PyData} (e : PySem.W.EachIs (fun v d => ∃ as, Reads s.heap v d as) vs ds) (hal : PySem.W.AllAlike ds) (hk : PySem.W.Sortable ds ∨ ds.length ≤ 1) (hn : ∀ d ∈ ds, d ≠ .none) (hu : ∀ d, d ∈ ds → A.units + d.depth < cLine) : PySem.W.SortsAt prog w A s (PySem.W.dataKind s.heap ds) vs := by
  rcases hk with hk | hk
  · exact PySem.W.SortsAt.data e hal hk hu
  · refine ⟨fun v hv => ?_, general', ?_, fun h2 => ?_⟩
    · obtain ⟨d, hd, as, r⟩ := e.left v hv
      exact ⟨_, PySem.W.dataKind_some hal hd r⟩
    · intro E x y a b Q ha hb hq
      obtain ⟨d, as, hd, ra, rfl⟩ := PySem.W.dataKind_inv ha
      obtain ⟨d', as', hd', rb, rfl⟩ := PySem.W.dataKind_inv hb
      show wpAny _ _ (oneLt' false x y) Q E s
      exact PySem.W.oneLt_alike (fun h => nomatch h) ra rb (hal d hd d' hd') (hn d hd) (Nat.lt_of_le_of_lt (Nat.add_le_add_left (Nat.min_le_left _ _) _) (hu d hd)) hq
    · have := e.length
      omega
theorem depth_mem : ∀ {xs : List PyData} {x : PyData}, x ∈ xs → x.depth ≤ PyData.depthAll xs
  | y :: ys, x, h => by
    simp only [PyData.depthAll]
    rcases List.mem_cons.mp h with h | h
    · subst h; omega
    · have := depth_mem h; omega
def Ru (K : PySem.W.Frag) (G : Hp) (h : Heap) (u : Value) (d : PyData) : Prop := ∃ v, L2.RelV v u ∧ R K G v d
theorem ru_each {K : PySem.W.Frag} {h : Heap} : ∀ {vs : List V} {us : List Value} {ds : List PyData}, Vals vs us → RAll K G vs ds → PySem.W.EachIs (Ru K G h) us ds
  | _, _, _, .nil, .nil => .nil
  | _, _, _, .cons h t, .cons r rr => .cons ⟨_, h, r⟩ (ru_each t rr)
theorem each_ru {K : PySem.W.Frag} {h : Heap} : ∀ {us : List Value} {ds : List PyData}, PySem.W.EachIs (Ru K G h) us ds → ∃ vs, Vals vs us ∧ RAll K G vs ds
  | _, _, .nil => ⟨[], .nil, .nil⟩
  | _, _, .cons ⟨v, h, r⟩ t => by
    obtain ⟨vs, q1, q2⟩ := each_ru t
    exact ⟨v :: vs, .cons h q1, .cons r q2⟩
theorem each_read {h : Heap} : ∀ {us : List Value} {ds : List PyData} {as : List Addr}, ReadsAll h us ds as → PySem.W.EachIs (fun v d => ∃ as, Reads h v (_root_.id d) as) us ds
  | _, _, _, .nil => .nil
  | _, _, _, .cons h t => .cons ⟨_, h⟩ (each_read t)
def rSortD (X : Cx) : List V → Hp → VK → Prop := fun ws H Qh => ∃ G v xs, Sub G H ∧ R X.K G v (.list xs) ∧ okS xs ∧ xs.length ≤ lim ∧ ws = [v] ∧ ∀ p ys, H p = none → RAll X.K G ys (sortD xs) → Qh (.ref p) (upd H p (.lst ys))
theorem call_sortD (sy : SysD X.base) (hu : X.A.units + 65 < cLine) : CallR X (.builtin "sorted") (rSortD X) := by
  rintro pins s σ H xs us Q I vr ⟨G, v, ds, sub, r, k1, k2, rfl, q⟩
  obtain ⟨u, rfl, h1⟩ := un1 vr
  obtain ⟨al, so, dp, hn⟩ := okS_ok k1
  obtain ⟨a, ys, rfl, h, q1⟩ := r.lst'
  cases h1
  obtain ⟨its, vr, p, hz⟩ := I.list (SqL.of (sub _ _ h))
  obtain ⟨as, rd, -⟩ := q1.reads I sy sub vr
  have hl : its.length = ds.length := by rw [← vr.length, q1.length]
  have each0 := each_read rd
  have later : PySem.W.EachIs (fun v d => ∃ as, Reads (PySem.W.sortingHeap (PySem.W.copyHeap s.heap its) (s.heap.objs.size + 1) its) v d as) its ds := each0.mono fun _ _ ⟨as, r⟩ => ⟨as, PyProof.Rows.Reads.keeps (fun _ _ => PySem.W.sorting_copy_old) r⟩
  have deep : ∀ d ∈ ds, X.A.in1.in1.units + d.depth < cLine := fun b hb => by
    have := depth_mem hb
    show X.A.units + 2 + b.depth < cLine
    omega
  have al' : PySem.W.AllAlike (ds.map _root_.id) := by rwa [List.map_id]
  refine PySem.W.sorted_vals p.isList (sorts_data (s := { s with heap := PySem.W.sortingHeap (PySem.W.copyHeap s.heap its) (s.heap.objs.size + 1) its }) later al so hn deep) (by rw [hl]; exact lim_size k2) ?_
  have ho : (PySem.W.sortVals (PySem.W.dataKind (PySem.W.sortingHeap (PySem.W.copyHeap s.heap its) (s.heap.objs.size + 1) its) ds) false its its).length = ds.length := by rw [PySem.W.sortVals_length false rfl, hl]
  have eo := PySem.W.sortVals_data (enc := _root_.id) (bs := ds) false (ru_each (h := s.heap) vr q1) later al'
  rw [List.map_id] at eo
  generalize PySem.W.sortVals (PySem.W.dataKind (PySem.W.sortingHeap (PySem.W.copyHeap s.heap its) (s.heap.objs.size + 1) its) ds) false its its = out at ho eo ⊢
  · obtain ⟨vs, v1, v2⟩ := each_ru eo
    obtain ⟨c, hat⟩ := sortedAll_at s.heap its out.toArray
    have el : vs.length = ds.length := by rw [v1.length]; exact ho
    exact ⟨.ref _, _, I.laid (t' := s.toks) (a := s.heap.objs.size + 1) (o := .lst vs) (fun _ _ => sortedAll_old) (by omega) ⟨by rw [el]; exact lim_size k2, out, c, v1, hat⟩, rfl, q _ _ (I.hok.fresh (by omega)) v2⟩
end
end DL
set_option Elab.async false
set_option linter.all false
set_option maxRecDepth 100000
set_option maxHeartbeats 2000000
/-! Dz: zip(a, b, strict=True) of two lists or tuples of one length. -/
namespace DL
open PySem PySem.Spec PyProof.Rows L2
open PySem.Sem (wp)

/-- the strict zip's own object -/
abbrev ZO (h : Heap) (z TI TO : Addr) (f0 : Value) : Prop := h.get? z = some { cls := .type "zip", dict := none, data := .fields #[f0, .bool false, .bool true, .ref TI, .ref TO], slots := #[] }
/-- a list's (a tuple's) iterator -/
def ItAt (ta : Bool) (h : Heap) (i l : Addr) (k : Nat) : Prop := if ta = true then h.IsTupleIter i l k else h.IsListIter i l k
def SqAt (ta : Bool) (h : Heap) (l : Addr) (vs : Array Value) : Prop := if ta = true then h.IsTuple l vs else h.IsList l vs
section
variable {prog : Program} {w : World} {A : Around} {E : Value → Shared → Prop} {s : Shared} {ta : Bool}
theorem ItAt.objAt {h : Heap} {i l : Addr} {k : Nat} (x : ItAt ta h i l k) : ∃ o, h.get? i = some o ∧ ∀ v, o.data ≠ .cell v := by
  cases ta
  · obtain ⟨o, e, _, d⟩ : h.IsListIter i l k := x
    exact ⟨o, e, fun v q => by rw [d] at q; cases q⟩
  · obtain ⟨o, e, _, d⟩ : h.IsTupleIter i l k := x
    exact ⟨o, e, fun v q => by rw [d] at q; cases q⟩
theorem ItAt.lt {h : Heap} {i l : Addr} {k : Nat} (x : ItAt ta h i l k) : i < h.objs.size := let ⟨_, e, _⟩ := x.objAt; Heap.lt_size e
theorem ItAt.to {h h' : Heap} {i l : Addr} {k : Nat} (x : ItAt ta h i l k) (e : ∀ o, h.get? i = some o → h'.get? i = some o) : ItAt ta h' i l k := by
  cases ta
  · exact Heap.IsListIter.at x fun o q => e o q
  · exact Heap.IsTupleIter.at x fun o q => e o q
theorem SqAt.to {h h' : Heap} {l : Addr} {vs : Array Value} (x : SqAt ta h l vs) (e : ∀ o, h.get? l = some o → h'.get? l = some o) : SqAt ta h' l vs := by
  cases ta
  · exact Heap.IsList.at x fun o q => e o q
  · exact Heap.IsTuple.at x fun o q => e o q
theorem draw_one {i l : Addr} {vs : Array Value} {k : Nat} {x : Value} {Q : Option Value → Shared → Prop} (f : ItAt ta s.heap i l k) (hl : SqAt ta s.heap l vs) (hx : vs[k]? = some x)
    (h : ∀ h', ItAt ta h' i l (k + 1) → Heap.SameBut i s.heap h' → Q (some x) { s with heap := h' }) : wpAny (model prog w) A (Builtin.SmallTypes.nextOrEnd (.ref i)) Q E s := by
  unfold Builtin.SmallTypes.nextOrEnd
  refine wpAny_bind (wpAny_attempt ?_)
  cases ta
  · exact wpAny_nextOf_list_item f hl hx fun h' f' sb => wpAny_pure (h h' f' sb)
  · exact RZ.nextOf_tuple_item f hl hx fun h' f' sb => wpAny_pure (h h' f' sb)
theorem draw_end {i l : Addr} {vs : Array Value} {k : Nat} {Q : Option Value → Shared → Prop} (hh : A.handled = none) (f : ItAt ta s.heap i l k) (hl : SqAt ta s.heap l vs) (hx : vs[k]? = none)
    (h : ∀ h', Heap.ExtBut i s.heap h' → Q none { s with heap := h' }) : wpAny (model prog w) A (Builtin.SmallTypes.nextOrEnd (.ref i)) Q E s := by
  unfold Builtin.SmallTypes.nextOrEnd
  have stop : ∀ h' e, Heap.ExtBut i s.heap h' → (∃ o, h'.get? e = some o ∧ o.cls = .type "StopIteration") → wpAny (model prog w) A (do if ← isInstance (.ref e) (.type "StopIteration") then pure none else throw (.ref e)) Q E { s with heap := h' } := fun h' e x ⟨o, ho, hc⟩ =>
    wpAny_bind (wpAny_isInstance (T := "StopIteration") (b := true) ⟨o, ho, hc⟩ isSubtype_stop (wpAny_pure (h h' x)))
  refine wpAny_bind (wpAny_attempt ?_)
  cases ta
  · exact wpAny_nextOf_list_end hh f hl hx stop
  · exact RZ.nextOf_tuple_end hh f hl hx stop
end
end DL

namespace DL
open PySem PySem.Spec PyProof.Rows L2
open PySem.Sem (wp)
section
variable {prog : Program} {w : World} {A : Around} {E : Value → Shared → Prop} {s : Shared} {ta tb : Bool} {z TI TO i1 i2 l1 l2 : Addr} {k1 k2 : Nat} {xs ys : Array Value} {x y a b : Value}
theorem szip_item {Q : Value → Shared → Prop} (D : ZipApart z TI TO i1 i2 l1 l2) (hz : ZO s.heap z TI TO .none) (hTI : IsPair s.heap TI (.ref i1) (.ref i2)) (hTO : IsPair s.heap TO a b)
    (f1 : ItAt ta s.heap i1 l1 k1) (f2 : ItAt tb s.heap i2 l2 k2) (s1 : SqAt ta s.heap l1 xs) (s2 : SqAt tb s.heap l2 ys) (hx : xs[k1]? = some x) (hy : ys[k2]? = some y)
    (fin : ∀ h', ZO h' z TI TO (rawInt s.heap.objs.size) → IsPair h' TO x y → ItAt ta h' i1 l1 (k1 + 1) → ItAt tb h' i2 l2 (k2 + 1) → IsPair h' s.heap.objs.size x y →
      (∀ c o, c ≠ z → c ≠ TO → c ≠ i1 → c ≠ i2 → s.heap.get? c = some o → h'.get? c = some o) → Q (.ref s.heap.objs.size) { s with heap := h' }) :
    wpAny (model prog w) A (Builtin.«zip.__next__» ⟨[.ref z], []⟩) (fun out t => ∃ v, out = .done (.ret v) ∧ Q v t) E s := by
  show wpAny _ _ (field (.ref z) 2 >>= _) _ _ s
  refine wpAny_bind (wpAny_field hz rfl (x := .bool true) rfl ?_)
  show wpAny _ _ (field (.ref z) 3 >>= _) _ _ s
  refine wpAny_bind (wpAny_field hz rfl (x := .ref TI) rfl (wpAny_bind (wpAny_seqItems hTI rfl ?_)))
  show wpAny _ _ (Builtin.SmallTypes.ownedTupleIsFree (.ref z) >>= _) _ _ s
  unfold Builtin.SmallTypes.ownedTupleIsFree
  refine wpAny_bind (wpAny_bind (wpAny_field hz rfl (x := .none) rfl (wpAny_pure ?_)))
  simp only [if_true]
  refine wpAny_bind (wpAny_rule (wpAny_bind (wpAny_field hz rfl (x := .ref TO) rfl (wpAny_bind (wpAny_setField_rec hz (by simp) ?_)))))
  intro g1 z1 b1
  replace z1 : ZO g1 z TI TO .ellipsis := z1
  refine wpAny_bind ?_
  simp only [List.zipIdx_cons, List.zipIdx_nil, List.forIn_cons, List.forIn_nil]
  have up1 : ∀ c o, c ≠ z → s.heap.get? c = some o → g1.get? c = some o := fun c o n e => b1.extBut _ _ n e
  refine wpAny_bind (wpAny_bind (wpAny_onRaise ?_))
  show wpAny _ _ (Builtin.SmallTypes.nextOrEnd (.ref i1)) _ _ _
  refine draw_one (s := { s with heap := g1 }) (f1.to fun o => up1 _ o D.i1z) (s1.to fun o => up1 _ o D.l1z) hx ?_
  intro g2 f12 b2
  have up2 : ∀ c o, c ≠ z → c ≠ i1 → s.heap.get? c = some o → g2.get? c = some o := fun c o n m e => b2.extBut _ _ m (up1 c o n e)
  have t2 : IsPair g2 TO a b := up2 _ _ D.TOz D.TOi1 hTO
  refine wpAny_bind (wpAny_seqItems t2 rfl (wpAny_bind (wpAny_updateSeq_pair (s := { s with heap := g2 }) t2 ?_)))
  intro g3 t3 b3
  replace t3 : IsPair g3 TO x b := t3
  have up3 : ∀ c o, c ≠ z → c ≠ i1 → c ≠ TO → s.heap.get? c = some o → g3.get? c = some o := fun c o n m k e => b3.extBut _ _ k (up2 c o n m e)
  refine wpAny_bind (wpAny_letGo (wpAny_pure (wpAny_bind (wpAny_bind (wpAny_onRaise ?_)))))
  show wpAny _ _ (Builtin.SmallTypes.nextOrEnd (.ref i2)) _ _ _
  refine draw_one (s := { s with heap := g3 }) (f2.to fun o => up3 _ o D.i2z D.i12.symm D.TOi2.symm) (s2.to fun o => up3 _ o D.l2z D.l2i1 D.l2TO) hy ?_
  intro g4 f24 b4
  have t4 : IsPair g4 TO x b := b4.extBut _ _ D.TOi2 t3
  refine wpAny_bind (wpAny_seqItems t4 rfl (wpAny_bind (wpAny_updateSeq_pair (s := { s with heap := g4 }) t4 ?_)))
  intro g5 t5 b5
  replace t5 : IsPair g5 TO x y := t5
  refine wpAny_bind (wpAny_letGo (wpAny_pure (wpAny_pure ?_)))
  have up5 : ∀ c o, c ≠ z → c ≠ TO → c ≠ i1 → c ≠ i2 → s.heap.get? c = some o → g5.get? c = some o := fun c o n1 n2 n3 n4 e => b5.extBut _ _ n2 (b4.extBut _ _ n4 (up3 c o n1 n3 n2 e))
  have z5 : ZO g5 z TI TO .ellipsis := b5.extBut _ _ D.TOz.symm (b4.extBut _ _ D.i2z.symm (b3.extBut _ _ D.TOz.symm (b2.extBut _ _ D.i1z.symm z1)))
  have f15 : ItAt ta g5 i1 l1 (k1 + 1) := f12.to fun o e => b5.extBut _ _ D.TOi1.symm (b4.extBut _ _ D.i12 (b3.extBut _ _ D.TOi1.symm e))
  have f25 : ItAt tb g5 i2 l2 (k2 + 1) := f24.to fun o e => b5.extBut _ _ D.TOi2.symm e
  have sz : g5.objs.size = s.heap.objs.size := by rw [b5.1, b4.1, b3.1, b2.1, b1.1]
  refine wpAny_bind (wpAny_seqItems t5 rfl (wpAny_bind (wpAny_newTuple ?_)))
  show wpAny _ _ (Builtin.SmallTypes.ownedTupleHandOut (.ref z) (.ref g5.objs.size) >>= _) _ _ _
  unfold Builtin.SmallTypes.ownedTupleHandOut
  have z6 : ZO (g5.push { cls := .type "tuple", data := .seq #[x, y] }) z TI TO .ellipsis := Heap.get?_push_of_some _ z5
  refine wpAny_bind (wpAny_bind (wpAny_setField_rec z6 (by simp) ?_))
  intro g7 z7 b7
  replace z7 : ZO g7 z TI TO (rawInt g5.objs.size) := z7
  refine wpAny_setField_rec z7 (by simp) ?_
  intro g8 z8 b8
  replace z8 : ZO g8 z TI TO (rawInt g5.objs.size) := z8
  have lz : z < g5.objs.size := Heap.lt_size z5
  have up8 : ∀ c o, c ≠ z → g5.get? c = some o → g8.get? c = some o := fun c o n e => b8.extBut _ _ n (b7.extBut _ _ n (Heap.get?_push_of_some _ e))
  have t8 : IsPair g8 g5.objs.size x y := b8.extBut _ _ (Nat.ne_of_gt lz) (b7.extBut _ _ (Nat.ne_of_gt lz) (Heap.get?_push_size _ rfl))
  rw [sz] at z8 t8
  refine wpAny_pure ⟨_, rfl, ?_⟩
  show Q (.ref g5.objs.size) _
  rw [sz]
  exact fin g8 z8 (up8 _ _ D.TOz t5) (f15.to fun o => up8 _ o D.i1z) (f25.to fun o => up8 _ o D.i2z) t8 fun c o n1 n2 n3 n4 e => up8 c o n1 (up5 c o n1 n2 n3 n4 e)
theorem szip_end {Q : Fin → Shared → Prop} (hh : A.handled = none) (D : ZipApart z TI TO i1 i2 l1 l2) (hz : ZO s.heap z TI TO .none) (hTI : IsPair s.heap TI (.ref i1) (.ref i2)) (hTO : IsPair s.heap TO a b)
    (f1 : ItAt ta s.heap i1 l1 k1) (f2 : ItAt tb s.heap i2 l2 k2) (s1 : SqAt ta s.heap l1 xs) (s2 : SqAt tb s.heap l2 ys) (hx : xs[k1]? = none) (hy : ys[k2]? = none)
    (fin : ∀ h' e, (∀ c o, c ≠ z → c ≠ TO → c ≠ i1 → c ≠ i2 → s.heap.get? c = some o → h'.get? c = some o) → (∃ o, h'.get? e = some o ∧ o.cls = .type "StopIteration") → E (.ref e) { s with heap := h' }) :
    wpAny (model prog w) A (Builtin.«zip.__next__» ⟨[.ref z], []⟩) Q E s := by
  show wpAny _ _ (field (.ref z) 2 >>= _) _ _ s
  refine wpAny_bind (wpAny_field hz rfl (x := .bool true) rfl ?_)
  show wpAny _ _ (field (.ref z) 3 >>= _) _ _ s
  refine wpAny_bind (wpAny_field hz rfl (x := .ref TI) rfl (wpAny_bind (wpAny_seqItems hTI rfl ?_)))
  show wpAny _ _ (Builtin.SmallTypes.ownedTupleIsFree (.ref z) >>= _) _ _ s
  unfold Builtin.SmallTypes.ownedTupleIsFree
  refine wpAny_bind (wpAny_bind (wpAny_field hz rfl (x := .none) rfl (wpAny_pure ?_)))
  simp only [if_true]
  refine wpAny_bind (wpAny_rule (wpAny_bind (wpAny_field hz rfl (x := .ref TO) rfl (wpAny_bind (wpAny_setField_rec hz (by simp) ?_)))))
  intro g1 z1 b1
  replace z1 : ZO g1 z TI TO .ellipsis := z1
  refine wpAny_bind ?_
  simp only [List.zipIdx_cons, List.zipIdx_nil, List.forIn_cons, List.forIn_nil]
  have up1 : ∀ c o, c ≠ z → s.heap.get? c = some o → g1.get? c = some o := fun c o n e => b1.extBut _ _ n e
  refine wpAny_bind (wpAny_bind (wpAny_onRaise ?_))
  show wpAny _ _ (Builtin.SmallTypes.nextOrEnd (.ref i1)) _ _ _
  refine draw_end (s := { s with heap := g1 }) hh (f1.to fun o => up1 _ o D.i1z) (s1.to fun o => up1 _ o D.l1z) hx ?_
  intro g2 b2
  have z2 : ZO g2 z TI TO .ellipsis := b2 _ _ D.i1z.symm z1
  refine wpAny_bind (wpAny_setField_rec (s := { s with heap := g2 }) z2 (by simp) ?_)
  intro g3 z3 b3
  have up3 : ∀ c o, c ≠ z → c ≠ i1 → s.heap.get? c = some o → g3.get? c = some o := fun c o n m e => b3.extBut _ _ n (b2 _ _ m (up1 c o n e))
  refine wpAny_bind (wpAny_bind ?_)
  simp only [List.drop_succ_cons, List.drop_zero, List.zipIdx_cons, List.zipIdx_nil, List.forIn_cons, List.forIn_nil]
  refine wpAny_bind (wpAny_bind ?_)
  refine draw_end (s := { s with heap := g3 }) hh (f2.to fun o => up3 _ o D.i2z D.i12.symm) (s2.to fun o => up3 _ o D.l2z D.l2i1) hy ?_
  intro g4 b4
  refine wpAny_pure (wpAny_pure (wpAny_bind (wpAny_rule ?_)))
  have up4 : ∀ c o, c ≠ z → c ≠ TO → c ≠ i1 → c ≠ i2 → s.heap.get? c = some o → g4.get? c = some o := fun c o n1 _ n3 n4 e => b4 _ _ n4 (up3 c o n1 n3 e)
  unfold Builtin.SmallTypes.stopIteration newExc
  simp only [newTuple]
  refine wpAny_bind (wpAny_bind (wpAny_newObj_type ?_ (by size_fits)))
  refine wpAny_bind (m := firstArgMember _ _) (wpAny_of_eq (a := Value.none) (by first | rfl | (simp only [firstArgMember]; rfl)) ?_)
  refine wpAny_newObj_type ?_ (by size_fits)
  simp only [raiseNew]
  refine wpAny_bind (wpAny_handled ?_)
  rw [hh]
  refine wpAny_bind (wpAny_pure (wpAny_throw ?_))
  exact fin _ _ (fun c o n1 n2 n3 n4 e => Heap.get?_push_of_some _ (Heap.get?_push_of_some _ (up4 c o n1 n2 n3 n4 e))) ⟨_, Heap.get?_push_size _ rfl, rfl⟩
theorem next_szip {Q : Option Value → Shared → Prop} (D : ZipApart z TI TO i1 i2 l1 l2) (hz : ZO s.heap z TI TO .none) (hTI : IsPair s.heap TI (.ref i1) (.ref i2)) (hTO : IsPair s.heap TO a b)
    (f1 : ItAt ta s.heap i1 l1 k1) (f2 : ItAt tb s.heap i2 l2 k2) (s1 : SqAt ta s.heap l1 xs) (s2 : SqAt tb s.heap l2 ys) (hx : xs[k1]? = some x) (hy : ys[k2]? = some y)
    (fin : ∀ h', ZO h' z TI TO (rawInt s.heap.objs.size) → IsPair h' TO x y → ItAt ta h' i1 l1 (k1 + 1) → ItAt tb h' i2 l2 (k2 + 1) → IsPair h' s.heap.objs.size x y →
      (∀ c o, c ≠ z → c ≠ TO → c ≠ i1 → c ≠ i2 → s.heap.get? c = some o → h'.get? c = some o) → Q (some (.ref s.heap.objs.size)) { s with heap := h' }) : wpAny (model prog w) A (pyNext (.ref z)) Q E s := by
  have hT : s.TypeIs (.ref z) "zip" := ⟨_, hz, rfl⟩
  unfold pyNext
  refine wpAny_bind (wpAny_attempt (wpAny_callSpecial?_slot (name := Str.ofString "__next__") hT F.slot_zip_next (wpAny_call_entry F.slot_zip_next hT F.entry_zip_next ?_ (F.args_zip_next_1 _))))
  exact szip_item D hz hTI hTO f1 f2 s1 s2 hx hy fun h' a1 a2 a3 a4 a5 a6 => wpAny_pure (fin h' a1 a2 a3 a4 a5 a6)
theorem done_szip {Q : Option Value → Shared → Prop} (hh : A.handled = none) (D : ZipApart z TI TO i1 i2 l1 l2) (hz : ZO s.heap z TI TO .none) (hTI : IsPair s.heap TI (.ref i1) (.ref i2)) (hTO : IsPair s.heap TO a b)
    (f1 : ItAt ta s.heap i1 l1 k1) (f2 : ItAt tb s.heap i2 l2 k2) (s1 : SqAt ta s.heap l1 xs) (s2 : SqAt tb s.heap l2 ys) (hx : xs[k1]? = none) (hy : ys[k2]? = none)
    (fin : ∀ h', (∀ c o, c ≠ z → c ≠ TO → c ≠ i1 → c ≠ i2 → s.heap.get? c = some o → h'.get? c = some o) → Q none { s with heap := h' }) : wpAny (model prog w) A (pyNext (.ref z)) Q E s := by
  have hT : s.TypeIs (.ref z) "zip" := ⟨_, hz, rfl⟩
  unfold pyNext
  refine wpAny_bind (wpAny_attempt (wpAny_callSpecial?_slot (name := Str.ofString "__next__") hT F.slot_zip_next (wpAny_call_entry F.slot_zip_next hT F.entry_zip_next ?_ (F.args_zip_next_1 _))))
  refine szip_end hh D hz hTI hTO f1 f2 s1 s2 hx hy ?_
  rintro h' e keep ⟨o, ho, hc⟩
  exact wpAny_bind (wpAny_isInstance (T := "StopIteration") (b := true) ⟨o, ho, hc⟩ isSubtype_stop (wpAny_pure (fin _ keep)))
theorem self_szip {f0 : Value} {Q : Value → Shared → Prop} (hz : ZO s.heap z TI TO f0) (h : Q (.ref z) s) : wpAny (model prog w) A (pyIter (.ref z)) Q E s := by
  have ty : s.TypeIs (.ref z) "zip" := ⟨_, hz, rfl⟩
  refine wpAny_pyIter_slot ty F.slot_zip_iter (wpAny_call_entry F.slot_zip_iter ty F.entry_zip_iter (show wpAny _ _ (ret (.ref z)) _ _ s from ?_) (F.args_zip_iter_1 _))
  exact wpAny_pure ⟨_, rfl, "zip", _, ty, F.slot_zip_next.lookup, h⟩
theorem go_szip {elts : List Expr} {q : Nat} {pos : Pos} {T : Addr} {Q : Unit → Shared → Prop} (hz : ZO s.heap z TI TO (rawInt T))
    (h : ∀ h', ZO h' z TI TO .none → Heap.SameBut z s.heap h' → Q () { s with heap := h' }) : wpAny (model prog w) A (letOwnedTupleGo (.Tuple elts q pos) (.ref z) (.ref T)) Q E s := by
  unfold letOwnedTupleGo
  refine wpAny_bind (wpAny_load hz ?_)
  have yes : (["enumerate", "zip", "dict_itemiterator", "dict_reverseitemiterator", "odict_iterator", "itertools.zip_longest", "itertools.pairwise"].contains "zip" && (#[rawInt T, .bool false, .bool true, .ref TI, .ref TO] : Array Value)[0]? == some (rawInt T)) = true := by simp
  refine (show wpAny _ _ (if (["enumerate", "zip", "dict_itemiterator", "dict_reverseitemiterator", "odict_iterator", "itertools.zip_longest", "itertools.pairwise"].contains "zip" && (#[rawInt T, .bool false, .bool true, .ref TI, .ref TO] : Array Value)[0]? == some (rawInt T)) = true then _ else _) Q E s from ?_)
  rw [if_pos yes]
  refine wpAny_bind (wpAny_rule (show wpAny _ _ (setField (.ref z) 0 .none) Q E s from ?_))
  exact wpAny_setField_rec hz (by simp) h
/-! the new zip -/
def itO (ta : Bool) (l : Addr) : Obj := if ta = true then { cls := .type "tuple_iterator", data := .fields #[.ref l, .int 0 0] } else { cls := .type "list_iterator", data := .fields #[.ref l, .int 0 0] }
theorem itO_at {h : Heap} {i l : Addr} (e : h.get? i = some (itO ta l)) : ItAt ta h i l 0 := by
  cases ta
  · exact (⟨_, e, rfl, rfl⟩ : h.IsListIter i l 0)
  · exact (⟨_, e, rfl, rfl⟩ : h.IsTupleIter i l 0)
theorem itO_get (h : Heap) (l : Addr) : (h.push (itO ta l)).get? h.objs.size = some (itO ta l) := by
  cases ta <;> exact Heap.get?_push_size _ rfl
theorem iter_sq {l : Addr} {vs : Array Value} {Q : Value → Shared → Prop} (x : SqAt ta s.heap l vs) (h : Q (.ref s.heap.objs.size) { s with heap := s.heap.push (itO ta l) }) : wpAny (model prog w) A (pyIter (.ref l)) Q E s := by
  cases ta
  · exact wpAny_pyIter_list x h
  · exact wpAny_pyIter_tuple x h
abbrev zA (ta : Bool) (h : Heap) (l1 : Addr) : Heap := h.push (itO ta l1)
abbrev zB (ta tb : Bool) (h : Heap) (l1 l2 : Addr) : Heap := (zA ta h l1).push (itO tb l2)
abbrev zC (ta tb : Bool) (h : Heap) (l1 l2 : Addr) : Heap := (zB ta tb h l1 l2).push { cls := .type "tuple", data := .seq #[.ref h.objs.size, .ref (zA ta h l1).objs.size] }
abbrev zD (ta tb : Bool) (h : Heap) (l1 l2 : Addr) : Heap := (zC ta tb h l1 l2).push { cls := .type "tuple", data := .seq #[.none, .none] }
abbrev zE (ta tb : Bool) (h : Heap) (l1 l2 : Addr) : Heap := (zD ta tb h l1 l2).push { cls := .type "zip", data := .fields #[.none, .bool false, .bool true, .ref (zB ta tb h l1 l2).objs.size, .ref (zC ta tb h l1 l2).objs.size] }
def kwStrict : List (Str × Value) := [(Str.ofString "strict", .bool true)]
theorem meets_szip (l1 l2 : Addr) (xs ys : Array Value) : Meets (Builtin.«zip.__new__» ⟨[.type "zip", .ref l1, .ref l2], kwStrict⟩) (fun _ R s => SqAt ta s.heap l1 xs ∧ SqAt tb s.heap l2 ys ∧
    R (.ok (.ret (.ref (zD ta tb s.heap l1 l2).objs.size))) { s with heap := zE ta tb s.heap l1 l2 }) :=
  .of_wp fun prog w A R s h => by
    obtain ⟨hp, g, d, tk, os⟩ := s
    obtain ⟨q1, q2, h⟩ := h
    have hsub := sub_zip
    have r1 : SqAt ta (Shared.heap ⟨hp, g, d, tk, os⟩) l1 xs := q1
    have r2 : SqAt tb (Shared.heap ⟨hp.push (itO ta l1), g, d, tk, os⟩) l2 ys := q2.to fun o e => Heap.get?_push_of_some _ e
    unfold kwStrict
    wp_walk using iter_sq r1, iter_sq r2
    exact ⟨_, rfl, h⟩
theorem typeCall_szip (a b : Value) : checkTypeCall "zip" ⟨[a, b], kwStrict⟩ = pure () := by kernel_rfl
theorem newCall_szip (a b : Value) : checkBuiltinCall "zip.__new__" ⟨[.type "zip", a, b], kwStrict⟩ = pure () := by kernel_rfl
theorem args_szip (o a b : Value) : argsOk "object.__init__" ⟨[o, a, b], kwStrict⟩ := by unfold argsOk; kernel_rfl
end
end DL
set_option Elab.async false
set_option linter.all false
set_option maxRecDepth 100000
set_option maxHeartbeats 2000000
/-! Dy: the strict zip as an iterable. -/
namespace DL
open PySem PySem.Spec PyProof.Rows L2
section
variable {prog : Program} {w : World} {A : Around} {E : Value → Shared → Prop} {s : Shared} {ta tb : Bool} {z TI TO i1 i2 l1 l2 : Addr} {xs ys : Array Value}
theorem call_szip {Q : Value → Shared → Prop} (s1 : SqAt ta s.heap l1 xs) (s2 : SqAt tb s.heap l2 ys)
    (h : ∀ h', ZO h' (s.heap.objs.size + 4) (s.heap.objs.size + 2) (s.heap.objs.size + 3) .none → IsPair h' (s.heap.objs.size + 2) (.ref s.heap.objs.size) (.ref (s.heap.objs.size + 1)) →
      IsPair h' (s.heap.objs.size + 3) .none .none → ItAt ta h' s.heap.objs.size l1 0 → ItAt tb h' (s.heap.objs.size + 1) l2 0 →
      (∀ c o, s.heap.get? c = some o → h'.get? c = some o) → Q (.ref (s.heap.objs.size + 4)) { s with heap := h' }) :
    wpAny (model prog w) A (call (.type "zip") [.ref l1, .ref l2] kwStrict) Q E s := by
  refine callType_newKw F.called_zip (by decide) (typeCall_szip _ _) (newCall_szip _ _) (fun o => args_szip o _ _) F.entry_zip_new (meets_szip (ta := ta) (tb := tb) l1 l2 xs ys) ⟨s1, s2, ?_⟩
  have eA : (zA ta s.heap l1).objs.size = s.heap.objs.size + 1 := by cases ta <;> exact Heap.size_push ..
  have eB : (zB ta tb s.heap l1 l2).objs.size = s.heap.objs.size + 2 := by
    have : (zB ta tb s.heap l1 l2).objs.size = (zA ta s.heap l1).objs.size + 1 := by cases tb <;> exact Heap.size_push ..
    rw [this, eA]
  have eC : (zC ta tb s.heap l1 l2).objs.size = s.heap.objs.size + 3 := by rw [Heap.size_push, eB]
  have eD : (zD ta tb s.heap l1 l2).objs.size = s.heap.objs.size + 4 := by rw [Heap.size_push, eC]
  have g5 : (zE ta tb s.heap l1 l2).get? (zD ta tb s.heap l1 l2).objs.size = some _ := Heap.get?_push_size _ rfl
  have g4 : (zE ta tb s.heap l1 l2).get? (zC ta tb s.heap l1 l2).objs.size = some _ := Heap.get?_push_of_some _ (Heap.get?_push_size _ rfl)
  have g3 : (zE ta tb s.heap l1 l2).get? (zB ta tb s.heap l1 l2).objs.size = some _ := Heap.get?_push_of_some _ (Heap.get?_push_of_some _ (Heap.get?_push_size _ rfl))
  have g2 : (zE ta tb s.heap l1 l2).get? (zA ta s.heap l1).objs.size = some (itO tb l2) := Heap.get?_push_of_some _ (Heap.get?_push_of_some _ (Heap.get?_push_of_some _ (itO_get _ _)))
  have g1 : (zE ta tb s.heap l1 l2).get? s.heap.objs.size = some (itO ta l1) := Heap.get?_push_of_some _ (Heap.get?_push_of_some _ (Heap.get?_push_of_some _ (Heap.get?_push_of_some _ (itO_get _ _))))
  have up : ∀ c o, s.heap.get? c = some o → (zE ta tb s.heap l1 l2).get? c = some o := fun c o e =>
    Heap.get?_push_of_some _ (Heap.get?_push_of_some _ (Heap.get?_push_of_some _ (Heap.get?_push_of_some _ (Heap.get?_push_of_some _ e))))
  show _ ∧ _
  rw [eB, eC, eD] at g5
  rw [eA, eB] at g3
  rw [eC] at g4
  rw [eA] at g2
  rw [eD]
  exact ⟨⟨_, g5, rfl⟩, h _ g5 g3 g4 (itO_at g1) (itO_at g2) up⟩
end
def SqB (ta : Bool) (K : PySem.W.Frag) (H : Hp) (a : Addr) (xs : List V) : Prop := if ta = true then SqT K H a xs else SqL K H a xs
theorem SqB.at {X : Cx} {pins : List (Addr × Obj)} {σ : L2.St} {H : Hp} {s : Shared} {ta : Bool} {a : Addr} {xs : List V} (I : Inv X pins σ H s) (h : SqB ta X.K H a xs) : ∃ its : List Value, Vals xs its ∧ SqAt ta s.heap a its.toArray ∧ a < s.heap.objs.size := by
  cases ta
  · obtain ⟨its, r, p, _⟩ := I.list (show SqL X.K H a xs from h)
    exact ⟨its, r, p.isList, p.lt⟩
  · obtain ⟨its, r, p, _⟩ := I.tuple (show SqT X.K H a xs from h)
    obtain ⟨o, ho, q⟩ := id p
    exact ⟨its, r, p, Heap.lt_size ho⟩
theorem SqB.inj {X : Cx} {pins : List (Addr × Obj)} {σ : L2.St} {H : Hp} {s : Shared} {ta : Bool} {a : Addr} {xs ys : List V} (I : Inv X pins σ H s) (h : SqB ta X.K H a xs) (h' : SqB ta X.K H a ys) : xs = ys := by
  cases ta
  · exact I.list_inj (show SqL X.K H a xs from h) (show SqL X.K H a ys from h')
  · exact I.tuple_inj (show SqT X.K H a xs from h) (show SqT X.K H a ys from h')
def ItzS (ta tb : Bool) (K : PySem.W.Frag) (a b : Addr) : L2.It :=
  ⟨fun i H => ∃ (xs ys : List V) (x y : V), SqB ta K H a xs ∧ SqB tb K H b ys ∧ xs[i]? = some x ∧ ys[i]? = some y,
    fun i H v H' => ∃ T x y, v = .ref T ∧ H T = none ∧ H' = upd H T (.tup [x, y]) ∧ (∀ xs, SqB ta K H a xs → xs[i]? = some x) ∧ ∀ ys, SqB tb K H b ys → ys[i]? = some y,
    fun i H => ∃ xs ys : List V, SqB ta K H a xs ∧ SqB tb K H b ys ∧ xs.length ≤ i ∧ ys.length ≤ i⟩
theorem turn_szip {P : Program} {w : World} {K : PySem.W.Frag} {elts : List Expr} {kk : Nat} {tpos : Pos} {ta tb : Bool} {a b z TI TO i1 i2 : Addr} (D : ZipApart z TI TO i1 i2 a b) :
    Turn P w K (.Tuple elts kk tpos) (ItzS ta tb K a b) [z, TI, TO, i1, i2] z (fun i h => ZO h z TI TO .none ∧ IsPair h TI (.ref i1) (.ref i2) ∧ (∃ x y, IsPair h TO x y) ∧ ItAt ta h i1 a i ∧ ItAt tb h i2 b i) where
  mem := by simp
  obj := fun i h st c hc => by
    obtain ⟨hz, hTI, ⟨x, y, hTO⟩, f1, f2⟩ := st
    simp only [List.mem_cons, List.not_mem_nil, or_false] at hc
    rcases hc with rfl | rfl | rfl | rfl | rfl
    · exact ⟨_, hz, fun v q => nomatch q⟩
    · exact ⟨_, hTI, fun v q => nomatch q⟩
    · exact ⟨_, hTO, fun v q => nomatch q⟩
    · exact f1.objAt
    · exact f2.objAt
  keep := fun i h h' st k => by
    obtain ⟨hz, hTI, ⟨x, y, hTO⟩, f1, f2⟩ := st
    exact ⟨k z (by simp) _ hz, k TI (by simp) _ hTI, ⟨x, y, k TO (by simp) _ hTO⟩, f1.to (k i1 (by simp)), f2.to (k i2 (by simp))⟩
  item := by
    intro X hP hw hK hc i pins s σ H E I hf st hg
    subst hP hw hK
    obtain ⟨hz, hTI, ⟨x0, y0, hTO⟩, f1, f2⟩ := st
    obtain ⟨xs, ys, x, y, qx, qy, ex, ey⟩ := hg
    obtain ⟨us, rx, p1, _⟩ := qx.at I
    obtain ⟨ws, ry, p2, _⟩ := qy.at I
    obtain ⟨u, hu, ru⟩ := rx.get ex
    obtain ⟨v, hv, rv⟩ := ry.get ey
    have lz : z < s.heap.objs.size := Heap.lt_size hz
    refine next_szip D hz hTI hTO f1 f2 p1 p2 (x := u) (y := v) (by simpa using hu) (by simpa using hv) ?_
    intro h' z' t' g1 g2 hT hk
    refine ⟨_, rfl, go_szip (s := { s with heap := h' }) z' ?_⟩
    intro h'' z'' sb
    have hT2 : h''.get? s.heap.objs.size = some { cls := .type "tuple", data := .seq #[u, v] } := (sb.2 _ (Nat.ne_of_gt lz)).trans hT
    have new : ObjOk X.prog X.w (upd H s.heap.objs.size (.tup [x, y])) h'' s.heap.objs.size (.tup [x, y]) := ⟨by show 2 ≤ sizeLine; decide, [u, v], .cons ru (.cons rv .nil), ⟨_, hT2, rfl, _, rfl⟩⟩
    have keep : ∀ c o, c ∉ [z, TI, TO, i1, i2] → s.heap.get? c = some o → h''.get? c = some o := fun c o n e => by
      simp only [List.mem_cons, List.not_mem_nil, or_false, not_or] at n
      exact (sb.2 c n.1).trans (hk c o n.1 n.2.2.1 n.2.2.2.1 n.2.2.2.2 e)
    have I1 : Inv X pins σ (upd H s.heap.objs.size (.tup [x, y])) { s with heap := h'' } := I.turnedNew (t' := s.toks) (ch := [z, TI, TO, i1, i2]) keep hf (Nat.le_refl _) new
    refine ⟨.ref s.heap.objs.size, _, I1, rfl, ⟨_, x, y, rfl, I.hok.fresh (Nat.le_refl _), rfl, fun l hl => by rw [hl.inj I qx]; exact ex, fun l hl => by rw [hl.inj I qy]; exact ey⟩, ⟨z'', ?_, ⟨u, v, (sb.2 _ D.TOz).trans t'⟩, g1.to fun o q => (sb.2 _ D.i1z).trans q, g2.to fun o q => (sb.2 _ D.i2z).trans q⟩, fun c hcm => ?_⟩
    · exact (sb.2 _ D.TIz).trans (hk _ _ D.TIz D.TITO D.TIi1 D.TIi2 hTI)
    · have lt : c < s.heap.objs.size := by
        have hcm' := hcm
        simp only [List.mem_cons, List.not_mem_nil, or_false] at hcm'
        rcases hcm' with rfl | rfl | rfl | rfl | rfl
        · exact lz
        · exact Heap.lt_size hTI
        · exact Heap.lt_size hTO
        · exact f1.lt
        · exact f2.lt
      rw [upd_ne (Nat.ne_of_lt lt)]
      exact (hf c hcm).1
  done := by
    intro X hP hw hK hc i pins s σ H E I hf st hg
    subst hP hw hK
    obtain ⟨hz, hTI, ⟨x0, y0, hTO⟩, f1, f2⟩ := st
    obtain ⟨xs, ys, qx, qy, n1, n2⟩ := hg
    obtain ⟨us, rx, p1, _⟩ := qx.at I
    obtain ⟨ws, ry, p2, _⟩ := qy.at I
    have e1 := rx.length
    have e2 := ry.length
    refine done_szip (I.ok.hd hc) D hz hTI hTO f1 f2 p1 p2 (by simp; omega) (by simp; omega) ?_
    intro h' hk
    refine ⟨rfl, I.turnedL (t' := s.toks) (ch := [z, TI, TO, i1, i2]) (fun c o n e => ?_) hf⟩
    simp only [List.mem_cons, List.not_mem_nil, or_false, not_or] at n
    exact hk c o n.1 n.2.2.1 n.2.2.2.1 n.2.2.2.2 e
  self := fun A i s Q E st h => self_szip st.1 h
def iZipS (K : PySem.W.Frag) (t : TA) : TI := fun σ H Rh => t σ H fun vs H1 => ∃ ta tb a b xs ys, vs = [.ref a, .ref b] ∧ SqB ta K H1 a xs ∧ SqB tb K H1 b ys ∧ Rh (ItzS ta tb K a b) H1
theorem callWith_tyKw {M : Model} {A : Around} {E : Value → Shared → Prop} {s : Shared} {env : PySem.Env} {pos : Pos} {T : String} {e : Expr} {rest : List Expr} {kws : List Keyword} {Q : Value → Shared → Prop}
    (h : wpAny M A (spliced (backTo pos (starEach (e :: rest) env))) (fun vs s1 => wpAny M A (evalAll ((backToKw pos (keywordEach kws env)).map (·.2)))
      (fun ks s2 => wpAny M A (call (.type T) vs (((backToKw pos (keywordEach kws env)).filterMap (·.1)).zip ks)) Q E s2) E s1) E s)
    (he : backTo pos (starEach (e :: rest) env) = (false, eval e env) :: backTo pos (starEach rest env)) (hpl : (backTo pos (starEach (e :: rest) env)).any (·.1) = false)
    (hall : (backToKw pos (keywordEach kws env)).all (·.1.isSome) = true) (hno : (backToKw pos (keywordEach kws env)).any (·.1.isNone) = false) :
    wpAny M A (callWith pos (.type T) [] (backTo pos (starEach (e :: rest) env)) (backToKw pos (keywordEach kws env))) Q E s := by
  have ev : wpAny M A (evalArgs (.type T) true (backTo pos (starEach (e :: rest) env)) (backToKw pos (keywordEach kws env))) (fun a s1 => wpAny M A (call (.type T) ([] ++ a.pos) a.kw) Q E s1) E s := by
    rw [he] at h ⊢
    exact evalArgs_kwB hall h
  unfold callWith
  refine wpAny_bind (wpAny_holding (wpAny_mono ev ?_ fun _ _ x => x))
  intro a s1 h1
  refine wpAny_bind (wpAny_standAt ?_)
  simp only [hpl, hno, Bool.or_false]
  refine wpAny_bind (wpAny_pure (wpAny_bind (wpAny_mono h1 ?_ fun _ _ x => x)))
  exact fun r s2 hr => wpAny_bind (wpAny_holding (wpAny_point (wpAny_pure hr)))
theorem pi_szip {X : Cx} {e e2 : Expr} {t : TA} {p pos tpos kpos cpos : Pos} {cj : Nat} {elts : List Expr} {kk : Nat} (hg : Gl X "zip") (hm : X.mg "zip" = none) (ha : PA X [e, e2] t)
    (hs : starEach [e, e2] X.env = (false, eval e X.env) :: starEach [e2] X.env) (hpl : (backTo pos (starEach [e2] X.env)).any (·.1) = false) :
    PI X (.Tuple elts kk tpos) (.Call (.Name "zip" p) [e, e2] [⟨some "strict", .Constant (.bool true) cj cpos, kpos⟩] pos) (iZipS X.K t) := by
  constructor
  intro pins s σ H Rh I h
  have hk : PK X [⟨some "strict", .Constant (.bool true) cj cpos, kpos⟩] (tCons (tC (.bl true)) tNil) := pk_cons pe_bl pk_nil
  refine wpAny_Call_Name_kw (ld_blt I hg hm PyProof.Rows.boot_zip ?_)
  refine callWith_tyKw (thn (ha.run pos pins s σ H _ I h) ?_) (by rw [hs]; rfl) (by rw [hs]; exact hpl) rfl rfl
  rintro us s1 ⟨vs, H1, I1, r1, ta, tb, a, b, xs, ys, ev, qx, qy, q⟩
  refine thn (hk.run pos pins s1 σ H1 (fun zs G => zs = [V.bl true] ∧ G = H1) I1 ⟨rfl, rfl⟩) ?_
  rintro ks s2 ⟨zs, H2, I2, r2, e2, e3⟩
  subst e2 e3 ev
  cases r1 with
  | cons z zz =>
  cases zz with
  | cons z' zz =>
  cases zz
  cases z
  cases z'
  cases r2 with
  | cons y yy =>
  cases yy
  cases y
  obtain ⟨its1, v1, p1, l1⟩ := qx.at I2
  obtain ⟨its2, v2, p2, l2⟩ := qy.at I2
  show wpAny _ _ (call (.type "zip") [.ref a, .ref b] kwStrict) _ _ s2
  refine call_szip p1 p2 ?_
  intro h' hz hTI hTO f1 f2 hk
  refine self_szip hz ?_
  have I3 : Inv X pins σ H2 { s2 with heap := h' } := I2.kept (t' := s2.toks) hk
  refine ⟨s2.heap.objs.size + 4, [s2.heap.objs.size + 4, s2.heap.objs.size + 2, s2.heap.objs.size + 3, s2.heap.objs.size, s2.heap.objs.size + 1], _, _, H2, rfl, I3, turn_szip (PySem.W.ktu_apart s2.heap.objs.size a b l1 l2), ⟨hz, hTI, ⟨_, _, hTO⟩, f1, f2⟩, ?_, q⟩
  intro c hc
  have le : s2.heap.objs.size ≤ c := by
    simp only [List.mem_cons, List.not_mem_nil, or_false] at hc
    rcases hc with rfl | rfl | rfl | rfl | rfl <;> omega
  exact I2.fpOk le (I2.hok.fresh le)
end DL
set_option Elab.async false
set_option linter.all false
set_option maxRecDepth 100000
set_option maxHeartbeats 2000000
/-! Du: enumerate of a tuple. -/
namespace DL
open PySem PySem.Spec PyProof.Rows L2
abbrev tupIt (t : Addr) : Obj := { cls := .type "tuple_iterator", data := .fields #[.ref t, .int 0 0] }
abbrev enuO (i : Addr) : Obj := { cls := .type "enumerate", data := .fields #[.none, .bool false, .ref i, rawInt 0, .none, .none] }
theorem meets_enumT (l : Addr) (items : Array Value) : Meets (Builtin.«enumerate.__new__» ⟨[.type "enumerate", .ref l], []⟩) (fun _ R s => s.heap.IsTuple l items ∧
      R (.ok (.ret (.ref (s.heap.push (tupIt l)).objs.size))) { s with heap := (s.heap.push (tupIt l)).push (enuO s.heap.objs.size) }) :=
  .of_wp fun prog w A R s h => by
    obtain ⟨hp, g, d, tk, os⟩ := s
    obtain ⟨hl, h⟩ := h
    have hsub := sub_enumerate
    wp_walk
    refine wpAny_stack_any fun st => wpAny_pure ?_
    split
    · rename_i c _ _ _ _ _
      cases (c == Value.type "enumerate")
      · wp_walk using wpAny_pyIter_tuple hl
        exact ⟨_, rfl, h⟩
      · wp_walk using wpAny_pyIter_tuple hl
        exact ⟨_, rfl, h⟩
    · wp_walk using wpAny_pyIter_tuple hl
      exact ⟨_, rfl, h⟩
theorem call_enumT {prog : Program} {w : World} {A : Around} {E : Value → Shared → Prop} {s : Shared} {l : Addr} {items : Array Value} {Q : Value → Shared → Prop} (hL : s.heap.IsTuple l items)
    (h : ∀ h', IsEnum h' (s.heap.objs.size + 1) s.heap.objs.size 0 .none → h'.IsTupleIter s.heap.objs.size l 0 → (∀ b o, s.heap.get? b = some o → h'.get? b = some o) → Q (.ref (s.heap.objs.size + 1)) { s with heap := h' }) :
    wpAny (model prog w) A (call (.type "enumerate") [.ref l]) Q E s := by
  refine callType_new F.called_enumerate (by decide) (F.typeCall_enumerate_1 _) (F.newCall_enumerate_1 _) (fun obj => F.args_object_init_2 obj _) F.entry_enumerate_new (meets_enumT l items) ⟨hL, ?_⟩
  have sz : (s.heap.push (tupIt l)).objs.size = s.heap.objs.size + 1 := Heap.size_push ..
  show _ ∧ _
  rw [sz]
  have he := Heap.get?_push_size (s.heap.push (tupIt l)) (o := enuO s.heap.objs.size) rfl
  rw [sz] at he
  refine ⟨⟨_, he, rfl⟩, h _ he ⟨_, Heap.get?_push_of_some _ (Heap.get?_push_size _ rfl), rfl, rfl⟩ fun b o x => Heap.get?_push_of_some _ (Heap.get?_push_of_some _ x)⟩
/-- the tuple at a, each item in a new pair behind its number -/
def IteT (K : PySem.W.Frag) (a : Addr) : L2.It :=
  ⟨fun i H => ∃ (xs : List V) (x : V), SqT K H a xs ∧ xs[i]? = some x,
    fun i H v H' => ∃ T x, v = .ref T ∧ H T = none ∧ H' = upd H T (.tup [.int (i : Nat), x]) ∧ ∀ xs, SqT K H a xs → xs[i]? = some x,
    fun i H => ∃ xs : List V, SqT K H a xs ∧ xs.length ≤ i⟩
theorem turn_enumT {P : Program} {w : World} {K : PySem.W.Frag} {elts : List Expr} {kk : Nat} {tpos : Pos} {a e it : Addr} (hne : e ≠ it) (ha : a ≠ it) (hae : a ≠ e) :
    Turn P w K (.Tuple elts kk tpos) (IteT K a) [e, it] e (fun i h => (∃ old, IsEnum h e it ((i : Nat) : Int) old) ∧ h.IsTupleIter it a i) where
  mem := by simp
  obj := fun i h st b hb => by
    obtain ⟨⟨old, he⟩, o, ho, hc, hd⟩ := st
    rcases List.mem_cons.mp hb with z | z
    · have he2 := he
      unfold IsEnum at he2
      rw [z]
      exact ⟨_, he2, fun v q => nomatch q⟩
    · rw [List.mem_singleton.mp z]
      exact ⟨o, ho, fun v q => by rw [hd] at q; cases q⟩
  keep := fun i h h' st k => let ⟨⟨old, he⟩, hi⟩ := st; ⟨⟨old, k e (by simp) _ he⟩, hi.at fun o q => k it (by simp) o q⟩
  item := by
    intro X hP hw hK hc i pins s σ H E I hf st hg
    subst hP hw hK
    obtain ⟨⟨old, he⟩, hit⟩ := st
    obtain ⟨xs, x, hq, hx⟩ := hg
    obtain ⟨us, rv, p, hz⟩ := I.tuple hq
    obtain ⟨u, hu, ru⟩ := rv.get hx
    have lt : i < us.toArray.size := by
      obtain ⟨z, _⟩ := List.getElem?_eq_some_iff.mp hu
      simpa using z
    have hel : e < s.heap.objs.size := Heap.lt_size he
    have hil : it < s.heap.objs.size := by obtain ⟨_, q, _⟩ := hit; exact Heap.lt_size q
    have D : Draws X.prog X.w X.A.in1 it [it, a] us.toArray.size (fun i v => us.toArray[i]? = some v) (fun i h => h.IsTupleIter it a i ∧ h.IsTuple a us.toArray) := Draws.tuple (show X.A.in1.handled = none from I.ok.hd hc) it a ha us.toArray
    refine wpAny_pyNext_enum_itemD D he ⟨hit, p⟩ lt hne ?_ ?_
    · simp only [List.mem_cons, List.not_mem_nil, or_false, not_or]
      exact ⟨hne, Ne.symm hae⟩
    intro y h' tk hy ho hst hT hsz hk
    have ey : y = u := by
      have z : us[i]? = some y := by simpa using hy
      rw [hu] at z
      exact (Option.some.inj z).symm
    subst ey
    refine ⟨_, rfl, wpAny_letOwnedTupleGo_enum (s := { s with heap := h', toks := tk + 1 }) ho fun h'' he' sb => ?_⟩
    have hT2 := (sb.2 _ (Nat.ne_of_gt hel)).trans hT
    have pair : ObjOk X.prog X.w (upd H s.heap.objs.size (.tup [.int (i : Nat), x])) h'' s.heap.objs.size (.tup [.int (i : Nat), x]) :=
      ⟨by show 2 ≤ sizeLine; rw [sizeLine_eq]; decide, [.int i tk, y], .cons ⟨_, rfl⟩ (.cons ru .nil), ⟨_, hT2, rfl, _, rfl⟩⟩
    have I1 : Inv X pins σ (upd H s.heap.objs.size (.tup [.int (i : Nat), x])) { s with heap := h'', toks := tk + 1 } := by
      refine I.turnedNew (ch := [e, it]) (fun b ob hb q => ?_) hf (Nat.le_refl _) pair
      have b1 : b ≠ e := fun z => hb (by simp [z])
      have b2 : b ≠ it := fun z => hb (by simp [z])
      exact (sb.2 b b1).trans (hk b ob b1 b2 q)
    refine ⟨.ref s.heap.objs.size, _, I1, rfl, ⟨_, x, rfl, I.hok.fresh (Nat.le_refl _), rfl, fun ys hy => by rw [I.tuple_inj hy hq]; exact hx⟩, ⟨⟨y, ?_⟩, hst.1.at fun o q => (sb.2 it (Ne.symm hne)).trans q⟩, fun b hb => ?_⟩
    · rw [show ((i + 1 : Nat) : Int) = (i : Int) + 1 by omega]
      exact he'
    · have small : b < s.heap.objs.size := by
        rcases List.mem_cons.mp hb with z | z
        · rw [z]; exact hel
        · rw [List.mem_singleton.mp z]; exact hil
      rw [upd_ne (Nat.ne_of_lt small)]
      exact (hf b hb).1
  done := by
    intro X hP hw hK hc i pins s σ H E I hf st hg
    subst hP hw hK
    obtain ⟨⟨old, he⟩, hit⟩ := st
    obtain ⟨xs, hq, hx⟩ := hg
    obtain ⟨us, rv, p, hz⟩ := I.tuple hq
    obtain ⟨f0, f1, f2, f3, f4, f5⟩ := hf it (by simp)
    have hl := rv.length
    have gone : us.toArray[i]? = none := by
      rw [Array.getElem?_eq_none]
      simp
      omega
    have fin : ∀ h', Heap.ExtBut it s.heap h' → (none : Option Value) = none ∧ Inv X pins σ H { s with heap := h' } := fun h' eb => ⟨rfl, I.turned (t' := s.toks) (fun b o hb q => eb b o hb q) f0 f1 f3 f4 f5⟩
    have hT : s.TypeIs (.ref e) "enumerate" := ⟨_, he, rfl⟩
    unfold pyNext
    refine wpAny_bind (wpAny_attempt (wpAny_callSpecial?_slot (name := Str.ofString "__next__") hT F.slot_enumerate_next (wpAny_call_entry F.slot_enumerate_next hT F.entry_enumerate_next ?_ (F.args_enumerate_next_1 _))))
    refine (show wpAny _ _ (field (.ref e) 2 >>= _) _ _ _ from wpAny_bind (wpAny_field he rfl (x := .ref it) rfl ?_))
    refine wpAny_bind (wpAny_nextOf_tuple_end (show X.A.in1.handled = none from I.ok.hd hc) hit p gone ?_)
    rintro h' x he' ⟨o, ho, hc'⟩
    refine wpAny_bind (wpAny_isInstance (T := "StopIteration") (b := true) ⟨o, ho, hc'⟩ isSubtype_stop ?_)
    exact wpAny_pure (fin _ he')
  self := fun A i s Q E st h => let ⟨⟨_, he⟩, _⟩ := st; wpAny_pyIter_enum he h
def iEnumT (K : PySem.W.Frag) (ta : TA) : TI := fun σ H R => ta σ H fun vs H1 => ∃ a xs, vs = [.ref a] ∧ ((SqL K H1 a xs ∧ R (Ite K a) H1) ∨ (SqT K H1 a xs ∧ R (IteT K a) H1))
theorem pi_enumT {X : Cx} {e : Expr} {ta : TA} {p pos tpos : Pos} {elts : List Expr} {kk : Nat} (hg : Gl X "enumerate") (hm : X.mg "enumerate" = none) (ha : PA X [e] ta) (hs : starEach [e] X.env = [(false, eval e X.env)]) :
    PI X (.Tuple elts kk tpos) (.Call (.Name "enumerate" p) [e] [] pos) (iEnumT X.K ta) := by
  constructor
  intro pins s σ H R I h
  refine Call_ (ld_blt I hg hm boot_enumerate (PyProof.Rows.callWith_type1 (thn (ha.run pos pins s σ H _ I h) ?_) hs rfl))
  rintro ws s1 ⟨vs, H1, I1, r1, a, xs, rfl, q⟩
  obtain ⟨u, rfl, r⟩ := vals1 r1
  cases r
  have two : ∀ b ∈ [s1.heap.objs.size + 1, s1.heap.objs.size], FpOk X pins H1 b := fun b hb => by
    have le : s1.heap.objs.size ≤ b := by
      rcases List.mem_cons.mp hb with z | z
      · omega
      · rw [List.mem_singleton.mp z]; exact Nat.le_refl _
    exact I1.fpOk le (I1.hok.fresh le)
  rcases q with ⟨hq, q⟩ | ⟨hq, q⟩
  · obtain ⟨us, rv, p', hz⟩ := I1.list hq
    refine call_enumerate_list p'.isList fun h' he hit hsz hk => wpAny_pyIter_enum he ?_
    exact ⟨s1.heap.objs.size + 1, [s1.heap.objs.size + 1, s1.heap.objs.size], _, _, H1, rfl, I1.kept (t' := s1.toks) hk, turn_enum a (s1.heap.objs.size + 1) s1.heap.objs.size, ⟨⟨.none, he⟩, hit, Nat.succ_ne_self _⟩, two, q⟩
  · obtain ⟨us, rv, p', hz⟩ := I1.tuple hq
    have lt : a < s1.heap.objs.size := p'.lt
    refine call_enumT p' fun h' he hit hk => wpAny_pyIter_enum he ?_
    exact ⟨s1.heap.objs.size + 1, [s1.heap.objs.size + 1, s1.heap.objs.size], _, _, H1, rfl, I1.kept (t' := s1.toks) hk, turn_enumT (Nat.succ_ne_self _) (Nat.ne_of_lt lt) (Nat.ne_of_lt (Nat.lt_succ_of_lt lt)), ⟨⟨.none, he⟩, hit⟩, two, q⟩
end DL
set_option Elab.async false
set_option linter.all false
set_option maxRecDepth 100000
set_option maxHeartbeats 2000000
/-! Dx: zip(a, b) of two lists or tuples, mixed. -/
namespace DL
open PySem PySem.Spec PyProof.Rows L2
open PySem.Sem (wp)
/-- the zip's own object -/
abbrev ZM (h : Heap) (z TI TO : Addr) (f0 : Value) : Prop := h.get? z = some { cls := .type "zip", dict := none, data := .fields #[f0, .bool false, .bool false, .ref TI, .ref TO], slots := #[] }
section
variable {prog : Program} {w : World} {A : Around} {E : Value → Shared → Prop} {s : Shared} {ta tb : Bool} {z TI TO i1 i2 l1 l2 : Addr} {k1 k2 : Nat} {xs ys : Array Value} {x y a b : Value}
theorem take_one {i l : Addr} {vs : Array Value} {k : Nat} {x : Value} {Q : Value → Shared → Prop} (f : ItAt ta s.heap i l k) (hl : SqAt ta s.heap l vs) (hx : vs[k]? = some x)
    (h : ∀ h', ItAt ta h' i l (k + 1) → Heap.SameBut i s.heap h' → Q x { s with heap := h' }) : wpAny (model prog w) A (Builtin.SmallTypes.nextOf (.ref i)) Q E s := by
  cases ta
  · exact wpAny_nextOf_list_item f hl hx fun h' f' sb => h h' f' sb
  · exact RZ.nextOf_tuple_item f hl hx fun h' f' sb => h h' f' sb
theorem take_end {i l : Addr} {vs : Array Value} {k : Nat} {Q : Value → Shared → Prop} (hh : A.handled = none) (f : ItAt ta s.heap i l k) (hl : SqAt ta s.heap l vs) (hx : vs[k]? = none)
    (h : ∀ h' e, Heap.ExtBut i s.heap h' → (∃ o, h'.get? e = some o ∧ o.cls = .type "StopIteration") → E (.ref e) { s with heap := h' }) : wpAny (model prog w) A (Builtin.SmallTypes.nextOf (.ref i)) Q E s := by
  cases ta
  · exact wpAny_nextOf_list_end hh f hl hx h
  · exact RZ.nextOf_tuple_end hh f hl hx h
theorem mzip_item {Q : Value → Shared → Prop} (D : ZipApart z TI TO i1 i2 l1 l2) (hz : ZM s.heap z TI TO .none) (hTI : IsPair s.heap TI (.ref i1) (.ref i2)) (hTO : IsPair s.heap TO a b)
    (f1 : ItAt ta s.heap i1 l1 k1) (f2 : ItAt tb s.heap i2 l2 k2) (s1 : SqAt ta s.heap l1 xs) (s2 : SqAt tb s.heap l2 ys) (hx : xs[k1]? = some x) (hy : ys[k2]? = some y)
    (fin : ∀ h', ZM h' z TI TO (rawInt s.heap.objs.size) → IsPair h' TO x y → ItAt ta h' i1 l1 (k1 + 1) → ItAt tb h' i2 l2 (k2 + 1) → IsPair h' s.heap.objs.size x y →
      (∀ c o, c ≠ z → c ≠ TO → c ≠ i1 → c ≠ i2 → s.heap.get? c = some o → h'.get? c = some o) → Q (.ref s.heap.objs.size) { s with heap := h' }) :
    wpAny (model prog w) A (Builtin.«zip.__next__» ⟨[.ref z], []⟩) (fun out t => ∃ v, out = .done (.ret v) ∧ Q v t) E s := by
  show wpAny _ _ (field (.ref z) 2 >>= _) _ _ s
  refine wpAny_bind (wpAny_field hz rfl (x := .bool false) rfl ?_)
  show wpAny _ _ (field (.ref z) 3 >>= _) _ _ s
  refine wpAny_bind (wpAny_field hz rfl (x := .ref TI) rfl (wpAny_bind (wpAny_seqItems hTI rfl ?_)))
  show wpAny _ _ (Builtin.SmallTypes.ownedTupleIsFree (.ref z) >>= _) _ _ s
  unfold Builtin.SmallTypes.ownedTupleIsFree
  refine wpAny_bind (wpAny_bind (wpAny_field hz rfl (x := .none) rfl (wpAny_pure ?_)))
  simp only [if_true]
  refine wpAny_bind (wpAny_rule (wpAny_bind (wpAny_field hz rfl (x := .ref TO) rfl (wpAny_bind (wpAny_setField_rec hz (by simp) ?_)))))
  intro g1 z1 b1
  replace z1 : ZM g1 z TI TO .ellipsis := z1
  refine wpAny_bind ?_
  simp only [List.zipIdx_cons, List.zipIdx_nil, List.forIn_cons, List.forIn_nil]
  have up1 : ∀ c o, c ≠ z → s.heap.get? c = some o → g1.get? c = some o := fun c o n e => b1.extBut _ _ n e
  refine wpAny_bind (wpAny_bind (wpAny_onRaise ?_))
  show wpAny _ _ (Builtin.SmallTypes.nextOf (.ref i1) >>= _) _ _ _
  refine wpAny_bind (take_one (s := { s with heap := g1 }) (f1.to fun o => up1 _ o D.i1z) (s1.to fun o => up1 _ o D.l1z) hx fun g2 f12 b2 => wpAny_pure ?_)
  have up2 : ∀ c o, c ≠ z → c ≠ i1 → s.heap.get? c = some o → g2.get? c = some o := fun c o n m e => b2.extBut _ _ m (up1 c o n e)
  have t2 : IsPair g2 TO a b := up2 _ _ D.TOz D.TOi1 hTO
  refine wpAny_bind (wpAny_seqItems t2 rfl (wpAny_bind (wpAny_updateSeq_pair (s := { s with heap := g2 }) t2 ?_)))
  intro g3 t3 b3
  replace t3 : IsPair g3 TO x b := t3
  have up3 : ∀ c o, c ≠ z → c ≠ i1 → c ≠ TO → s.heap.get? c = some o → g3.get? c = some o := fun c o n m k e => b3.extBut _ _ k (up2 c o n m e)
  refine wpAny_bind (wpAny_letGo (wpAny_pure (wpAny_bind (wpAny_bind (wpAny_onRaise ?_)))))
  show wpAny _ _ (Builtin.SmallTypes.nextOf (.ref i2) >>= _) _ _ _
  refine wpAny_bind (take_one (s := { s with heap := g3 }) (f2.to fun o => up3 _ o D.i2z D.i12.symm D.TOi2.symm) (s2.to fun o => up3 _ o D.l2z D.l2i1 D.l2TO) hy fun g4 f24 b4 => wpAny_pure ?_)
  have t4 : IsPair g4 TO x b := b4.extBut _ _ D.TOi2 t3
  refine wpAny_bind (wpAny_seqItems t4 rfl (wpAny_bind (wpAny_updateSeq_pair (s := { s with heap := g4 }) t4 ?_)))
  intro g5 t5 b5
  replace t5 : IsPair g5 TO x y := t5
  refine wpAny_bind (wpAny_letGo (wpAny_pure (wpAny_pure ?_)))
  have up5 : ∀ c o, c ≠ z → c ≠ TO → c ≠ i1 → c ≠ i2 → s.heap.get? c = some o → g5.get? c = some o := fun c o n1 n2 n3 n4 e => b5.extBut _ _ n2 (b4.extBut _ _ n4 (up3 c o n1 n3 n2 e))
  have z5 : ZM g5 z TI TO .ellipsis := b5.extBut _ _ D.TOz.symm (b4.extBut _ _ D.i2z.symm (b3.extBut _ _ D.TOz.symm (b2.extBut _ _ D.i1z.symm z1)))
  have f15 : ItAt ta g5 i1 l1 (k1 + 1) := f12.to fun o e => b5.extBut _ _ D.TOi1.symm (b4.extBut _ _ D.i12 (b3.extBut _ _ D.TOi1.symm e))
  have f25 : ItAt tb g5 i2 l2 (k2 + 1) := f24.to fun o e => b5.extBut _ _ D.TOi2.symm e
  have sz : g5.objs.size = s.heap.objs.size := by rw [b5.1, b4.1, b3.1, b2.1, b1.1]
  refine wpAny_bind (wpAny_seqItems t5 rfl (wpAny_bind (wpAny_newTuple ?_)))
  show wpAny _ _ (Builtin.SmallTypes.ownedTupleHandOut (.ref z) (.ref g5.objs.size) >>= _) _ _ _
  unfold Builtin.SmallTypes.ownedTupleHandOut
  have z6 : ZM (g5.push { cls := .type "tuple", data := .seq #[x, y] }) z TI TO .ellipsis := Heap.get?_push_of_some _ z5
  refine wpAny_bind (wpAny_bind (wpAny_setField_rec z6 (by simp) ?_))
  intro g7 z7 b7
  replace z7 : ZM g7 z TI TO (rawInt g5.objs.size) := z7
  refine wpAny_setField_rec z7 (by simp) ?_
  intro g8 z8 b8
  replace z8 : ZM g8 z TI TO (rawInt g5.objs.size) := z8
  have lz : z < g5.objs.size := Heap.lt_size z5
  have up8 : ∀ c o, c ≠ z → g5.get? c = some o → g8.get? c = some o := fun c o n e => b8.extBut _ _ n (b7.extBut _ _ n (Heap.get?_push_of_some _ e))
  have t8 : IsPair g8 g5.objs.size x y := b8.extBut _ _ (Nat.ne_of_gt lz) (b7.extBut _ _ (Nat.ne_of_gt lz) (Heap.get?_push_size _ rfl))
  rw [sz] at z8 t8
  refine wpAny_pure ⟨_, rfl, ?_⟩
  show Q (.ref g5.objs.size) _
  rw [sz]
  exact fin g8 z8 (up8 _ _ D.TOz t5) (f15.to fun o => up8 _ o D.i1z) (f25.to fun o => up8 _ o D.i2z) t8 fun c o n1 n2 n3 n4 e => up8 c o n1 (up5 c o n1 n2 n3 n4 e)
theorem mzip_end {Q : Fin → Shared → Prop} (hh : A.handled = none) (D : ZipApart z TI TO i1 i2 l1 l2) (hz : ZM s.heap z TI TO .none) (hTI : IsPair s.heap TI (.ref i1) (.ref i2)) (hTO : IsPair s.heap TO a b)
    (f1 : ItAt ta s.heap i1 l1 k1) (f2 : ItAt tb s.heap i2 l2 k2) (s1 : SqAt ta s.heap l1 xs) (s2 : SqAt tb s.heap l2 ys) (hend : xs[k1]? = none ∨ ys[k2]? = none)
    (fin : ∀ h' e, (∀ c o, c ≠ z → c ≠ TO → c ≠ i1 → c ≠ i2 → s.heap.get? c = some o → h'.get? c = some o) → (∃ o, h'.get? e = some o ∧ o.cls = .type "StopIteration") → E (.ref e) { s with heap := h' }) :
    wpAny (model prog w) A (Builtin.«zip.__next__» ⟨[.ref z], []⟩) Q E s := by
  show wpAny _ _ (field (.ref z) 2 >>= _) _ _ s
  refine wpAny_bind (wpAny_field hz rfl (x := .bool false) rfl ?_)
  show wpAny _ _ (field (.ref z) 3 >>= _) _ _ s
  refine wpAny_bind (wpAny_field hz rfl (x := .ref TI) rfl (wpAny_bind (wpAny_seqItems hTI rfl ?_)))
  show wpAny _ _ (Builtin.SmallTypes.ownedTupleIsFree (.ref z) >>= _) _ _ s
  unfold Builtin.SmallTypes.ownedTupleIsFree
  refine wpAny_bind (wpAny_bind (wpAny_field hz rfl (x := .none) rfl (wpAny_pure ?_)))
  simp only [if_true]
  refine wpAny_bind (wpAny_rule (wpAny_bind (wpAny_field hz rfl (x := .ref TO) rfl (wpAny_bind (wpAny_setField_rec hz (by simp) ?_)))))
  intro g1 z1 b1
  replace z1 : ZM g1 z TI TO .ellipsis := z1
  refine wpAny_bind ?_
  simp only [List.zipIdx_cons, List.zipIdx_nil, List.forIn_cons, List.forIn_nil]
  have up1 : ∀ c o, c ≠ z → s.heap.get? c = some o → g1.get? c = some o := fun c o n e => b1.extBut _ _ n e
  refine wpAny_bind (wpAny_bind (wpAny_onRaise ?_))
  show wpAny _ _ (Builtin.SmallTypes.nextOf (.ref i1) >>= _) _ _ _
  cases hx : xs[k1]? with
  | none =>
    refine wpAny_bind (take_end (s := { s with heap := g1 }) hh (f1.to fun o => up1 _ o D.i1z) (s1.to fun o => up1 _ o D.l1z) hx ?_)
    rintro g2 e b2 ⟨oe, q1, q2⟩
    have z2 : ZM g2 z TI TO .ellipsis := b2 _ _ D.i1z.symm z1
    have ez : e ≠ z := fun q => by subst q; rw [z2] at q1; cases q1; simp at q2
    refine wpAny_setField_rec (s := { s with heap := g2 }) z2 (by simp) ?_
    intro g3 _ b3
    exact fin g3 e (fun c o n1 _ n3 _ q => b3.extBut _ _ n1 (b2 _ _ n3 (up1 c o n1 q))) ⟨oe, b3.extBut _ _ ez q1, q2⟩
  | some x =>
    have hy : ys[k2]? = none := by
      rcases hend with q | q
      · rw [hx] at q; cases q
      · exact q
    refine wpAny_bind (take_one (s := { s with heap := g1 }) (f1.to fun o => up1 _ o D.i1z) (s1.to fun o => up1 _ o D.l1z) hx fun g2 f12 b2 => wpAny_pure ?_)
    have up2 : ∀ c o, c ≠ z → c ≠ i1 → s.heap.get? c = some o → g2.get? c = some o := fun c o n m e => b2.extBut _ _ m (up1 c o n e)
    have t2 : IsPair g2 TO a b := up2 _ _ D.TOz D.TOi1 hTO
    refine wpAny_bind (wpAny_seqItems t2 rfl (wpAny_bind (wpAny_updateSeq_pair (s := { s with heap := g2 }) t2 ?_)))
    intro g3 t3 b3
    have up3 : ∀ c o, c ≠ z → c ≠ i1 → c ≠ TO → s.heap.get? c = some o → g3.get? c = some o := fun c o n m k e => b3.extBut _ _ k (up2 c o n m e)
    refine wpAny_bind (wpAny_letGo (wpAny_pure (wpAny_bind (wpAny_bind (wpAny_onRaise ?_)))))
    show wpAny _ _ (Builtin.SmallTypes.nextOf (.ref i2) >>= _) _ _ _
    refine wpAny_bind (take_end (s := { s with heap := g3 }) hh (f2.to fun o => up3 _ o D.i2z D.i12.symm D.TOi2.symm) (s2.to fun o => up3 _ o D.l2z D.l2i1 D.l2TO) hy ?_)
    rintro g4 e b4 ⟨oe, q1, q2⟩
    have z4 : ZM g4 z TI TO .ellipsis := b4 _ _ D.i2z.symm (b3.extBut _ _ D.TOz.symm (b2.extBut _ _ D.i1z.symm z1))
    have ez : e ≠ z := fun q => by subst q; rw [z4] at q1; cases q1; simp at q2
    refine wpAny_setField_rec (s := { s with heap := g4 }) z4 (by simp) ?_
    intro g5 _ b5
    exact fin g5 e (fun c o n1 n2 n3 n4 q => b5.extBut _ _ n1 (b4 _ _ n4 (up3 c o n1 n3 n2 q))) ⟨oe, b5.extBut _ _ ez q1, q2⟩
theorem next_mzip {Q : Option Value → Shared → Prop} (D : ZipApart z TI TO i1 i2 l1 l2) (hz : ZM s.heap z TI TO .none) (hTI : IsPair s.heap TI (.ref i1) (.ref i2)) (hTO : IsPair s.heap TO a b)
    (f1 : ItAt ta s.heap i1 l1 k1) (f2 : ItAt tb s.heap i2 l2 k2) (s1 : SqAt ta s.heap l1 xs) (s2 : SqAt tb s.heap l2 ys) (hx : xs[k1]? = some x) (hy : ys[k2]? = some y)
    (fin : ∀ h', ZM h' z TI TO (rawInt s.heap.objs.size) → IsPair h' TO x y → ItAt ta h' i1 l1 (k1 + 1) → ItAt tb h' i2 l2 (k2 + 1) → IsPair h' s.heap.objs.size x y →
      (∀ c o, c ≠ z → c ≠ TO → c ≠ i1 → c ≠ i2 → s.heap.get? c = some o → h'.get? c = some o) → Q (some (.ref s.heap.objs.size)) { s with heap := h' }) : wpAny (model prog w) A (pyNext (.ref z)) Q E s := by
  have hT : s.TypeIs (.ref z) "zip" := ⟨_, hz, rfl⟩
  unfold pyNext
  refine wpAny_bind (wpAny_attempt (wpAny_callSpecial?_slot (name := Str.ofString "__next__") hT F.slot_zip_next (wpAny_call_entry F.slot_zip_next hT F.entry_zip_next ?_ (F.args_zip_next_1 _))))
  exact mzip_item D hz hTI hTO f1 f2 s1 s2 hx hy fun h' a1 a2 a3 a4 a5 a6 => wpAny_pure (fin h' a1 a2 a3 a4 a5 a6)
theorem done_mzip {Q : Option Value → Shared → Prop} (hh : A.handled = none) (D : ZipApart z TI TO i1 i2 l1 l2) (hz : ZM s.heap z TI TO .none) (hTI : IsPair s.heap TI (.ref i1) (.ref i2)) (hTO : IsPair s.heap TO a b)
    (f1 : ItAt ta s.heap i1 l1 k1) (f2 : ItAt tb s.heap i2 l2 k2) (s1 : SqAt ta s.heap l1 xs) (s2 : SqAt tb s.heap l2 ys) (hend : xs[k1]? = none ∨ ys[k2]? = none)
    (fin : ∀ h', (∀ c o, c ≠ z → c ≠ TO → c ≠ i1 → c ≠ i2 → s.heap.get? c = some o → h'.get? c = some o) → Q none { s with heap := h' }) : wpAny (model prog w) A (pyNext (.ref z)) Q E s := by
  have hT : s.TypeIs (.ref z) "zip" := ⟨_, hz, rfl⟩
  unfold pyNext
  refine wpAny_bind (wpAny_attempt (wpAny_callSpecial?_slot (name := Str.ofString "__next__") hT F.slot_zip_next (wpAny_call_entry F.slot_zip_next hT F.entry_zip_next ?_ (F.args_zip_next_1 _))))
  refine mzip_end hh D hz hTI hTO f1 f2 s1 s2 hend ?_
  rintro h' e keep ⟨o, ho, hc⟩
  exact wpAny_bind (wpAny_isInstance (T := "StopIteration") (b := true) ⟨o, ho, hc⟩ isSubtype_stop (wpAny_pure (fin _ keep)))
theorem self_mzip {f0 : Value} {Q : Value → Shared → Prop} (hz : ZM s.heap z TI TO f0) (h : Q (.ref z) s) : wpAny (model prog w) A (pyIter (.ref z)) Q E s := by
  have ty : s.TypeIs (.ref z) "zip" := ⟨_, hz, rfl⟩
  refine wpAny_pyIter_slot ty F.slot_zip_iter (wpAny_call_entry F.slot_zip_iter ty F.entry_zip_iter (show wpAny _ _ (ret (.ref z)) _ _ s from ?_) (F.args_zip_iter_1 _))
  exact wpAny_pure ⟨_, rfl, "zip", _, ty, F.slot_zip_next.lookup, h⟩
theorem go_mzip {elts : List Expr} {q : Nat} {pos : Pos} {T : Addr} {Q : Unit → Shared → Prop} (hz : ZM s.heap z TI TO (rawInt T))
    (h : ∀ h', ZM h' z TI TO .none → Heap.SameBut z s.heap h' → Q () { s with heap := h' }) : wpAny (model prog w) A (letOwnedTupleGo (.Tuple elts q pos) (.ref z) (.ref T)) Q E s := by
  unfold letOwnedTupleGo
  refine wpAny_bind (wpAny_load hz ?_)
  have yes : (["enumerate", "zip", "dict_itemiterator", "dict_reverseitemiterator", "odict_iterator", "itertools.zip_longest", "itertools.pairwise"].contains "zip" && (#[rawInt T, .bool false, .bool false, .ref TI, .ref TO] : Array Value)[0]? == some (rawInt T)) = true := by simp
  refine (show wpAny _ _ (if (["enumerate", "zip", "dict_itemiterator", "dict_reverseitemiterator", "odict_iterator", "itertools.zip_longest", "itertools.pairwise"].contains "zip" && (#[rawInt T, .bool false, .bool false, .ref TI, .ref TO] : Array Value)[0]? == some (rawInt T)) = true then _ else _) Q E s from ?_)
  rw [if_pos yes]
  refine wpAny_bind (wpAny_rule (show wpAny _ _ (setField (.ref z) 0 .none) Q E s from ?_))
  exact wpAny_setField_rec hz (by simp) h
abbrev zM (ta tb : Bool) (h : Heap) (l1 l2 : Addr) : Heap := (zD ta tb h l1 l2).push { cls := .type "zip", data := .fields #[.none, .bool false, .bool false, .ref (zB ta tb h l1 l2).objs.size, .ref (zC ta tb h l1 l2).objs.size] }
theorem meets_mzip (l1 l2 : Addr) (xs ys : Array Value) : Meets (Builtin.«zip.__new__» ⟨[.type "zip", .ref l1, .ref l2], []⟩) (fun _ R s => SqAt ta s.heap l1 xs ∧ SqAt tb s.heap l2 ys ∧
    R (.ok (.ret (.ref (zD ta tb s.heap l1 l2).objs.size))) { s with heap := zM ta tb s.heap l1 l2 }) :=
  .of_wp fun prog w A R s h => by
    obtain ⟨hp, g, d, tk, os⟩ := s
    obtain ⟨q1, q2, h⟩ := h
    have hsub := sub_zip
    have r1 : SqAt ta (Shared.heap ⟨hp, g, d, tk, os⟩) l1 xs := q1
    have r2 : SqAt tb (Shared.heap ⟨hp.push (itO ta l1), g, d, tk, os⟩) l2 ys := q2.to fun o e => Heap.get?_push_of_some _ e
    wp_walk using iter_sq r1, iter_sq r2
    exact ⟨_, rfl, h⟩
theorem call_mzip {Q : Value → Shared → Prop} (s1 : SqAt ta s.heap l1 xs) (s2 : SqAt tb s.heap l2 ys)
    (h : ∀ h', ZM h' (s.heap.objs.size + 4) (s.heap.objs.size + 2) (s.heap.objs.size + 3) .none → IsPair h' (s.heap.objs.size + 2) (.ref s.heap.objs.size) (.ref (s.heap.objs.size + 1)) →
      IsPair h' (s.heap.objs.size + 3) .none .none → ItAt ta h' s.heap.objs.size l1 0 → ItAt tb h' (s.heap.objs.size + 1) l2 0 →
      (∀ c o, s.heap.get? c = some o → h'.get? c = some o) → Q (.ref (s.heap.objs.size + 4)) { s with heap := h' }) :
    wpAny (model prog w) A (call (.type "zip") [.ref l1, .ref l2]) Q E s := by
  refine callType_new F.called_zip (by decide) (F.typeCall_zip_2 _ _) (F.newCall_zip_2 _ _) (fun o => F.args_object_init_3 o _ _) F.entry_zip_new (meets_mzip (ta := ta) (tb := tb) l1 l2 xs ys) ⟨s1, s2, ?_⟩
  have eA : (zA ta s.heap l1).objs.size = s.heap.objs.size + 1 := by cases ta <;> exact Heap.size_push ..
  have eB : (zB ta tb s.heap l1 l2).objs.size = s.heap.objs.size + 2 := by
    have : (zB ta tb s.heap l1 l2).objs.size = (zA ta s.heap l1).objs.size + 1 := by cases tb <;> exact Heap.size_push ..
    rw [this, eA]
  have eC : (zC ta tb s.heap l1 l2).objs.size = s.heap.objs.size + 3 := by rw [Heap.size_push, eB]
  have eD : (zD ta tb s.heap l1 l2).objs.size = s.heap.objs.size + 4 := by rw [Heap.size_push, eC]
  have g5 : (zM ta tb s.heap l1 l2).get? (zD ta tb s.heap l1 l2).objs.size = some _ := Heap.get?_push_size _ rfl
  have g4 : (zM ta tb s.heap l1 l2).get? (zC ta tb s.heap l1 l2).objs.size = some _ := Heap.get?_push_of_some _ (Heap.get?_push_size _ rfl)
  have g3 : (zM ta tb s.heap l1 l2).get? (zB ta tb s.heap l1 l2).objs.size = some _ := Heap.get?_push_of_some _ (Heap.get?_push_of_some _ (Heap.get?_push_size _ rfl))
  have g2 : (zM ta tb s.heap l1 l2).get? (zA ta s.heap l1).objs.size = some (itO tb l2) := Heap.get?_push_of_some _ (Heap.get?_push_of_some _ (Heap.get?_push_of_some _ (itO_get _ _)))
  have g1 : (zM ta tb s.heap l1 l2).get? s.heap.objs.size = some (itO ta l1) := Heap.get?_push_of_some _ (Heap.get?_push_of_some _ (Heap.get?_push_of_some _ (Heap.get?_push_of_some _ (itO_get _ _))))
  have up : ∀ c o, s.heap.get? c = some o → (zM ta tb s.heap l1 l2).get? c = some o := fun c o e =>
    Heap.get?_push_of_some _ (Heap.get?_push_of_some _ (Heap.get?_push_of_some _ (Heap.get?_push_of_some _ (Heap.get?_push_of_some _ e))))
  show _ ∧ _
  rw [eB, eC, eD] at g5
  rw [eA, eB] at g3
  rw [eC] at g4
  rw [eA] at g2
  rw [eD]
  exact ⟨⟨_, g5, rfl⟩, h _ g5 g3 g4 (itO_at g1) (itO_at g2) up⟩
end
def ItzM (ta tb : Bool) (K : PySem.W.Frag) (a b : Addr) : L2.It :=
  ⟨fun i H => ∃ (xs ys : List V) (x y : V), SqB ta K H a xs ∧ SqB tb K H b ys ∧ xs[i]? = some x ∧ ys[i]? = some y,
    fun i H v H' => ∃ T x y, v = .ref T ∧ H T = none ∧ H' = upd H T (.tup [x, y]) ∧ (∀ xs, SqB ta K H a xs → xs[i]? = some x) ∧ ∀ ys, SqB tb K H b ys → ys[i]? = some y,
    fun i H => ∃ xs ys : List V, SqB ta K H a xs ∧ SqB tb K H b ys ∧ (xs.length ≤ i ∨ ys.length ≤ i)⟩
theorem turn_mzip {P : Program} {w : World} {K : PySem.W.Frag} {elts : List Expr} {kk : Nat} {tpos : Pos} {ta tb : Bool} {a b z TI TO i1 i2 : Addr} (D : ZipApart z TI TO i1 i2 a b) :
    Turn P w K (.Tuple elts kk tpos) (ItzM ta tb K a b) [z, TI, TO, i1, i2] z (fun i h => ZM h z TI TO .none ∧ IsPair h TI (.ref i1) (.ref i2) ∧ (∃ x y, IsPair h TO x y) ∧ ItAt ta h i1 a i ∧ ItAt tb h i2 b i) where
  mem := by simp
  obj := fun i h st c hc => by
    obtain ⟨hz, hTI, ⟨x, y, hTO⟩, f1, f2⟩ := st
    simp only [List.mem_cons, List.not_mem_nil, or_false] at hc
    rcases hc with rfl | rfl | rfl | rfl | rfl
    · exact ⟨_, hz, fun v q => nomatch q⟩
    · exact ⟨_, hTI, fun v q => nomatch q⟩
    · exact ⟨_, hTO, fun v q => nomatch q⟩
    · exact f1.objAt
    · exact f2.objAt
  keep := fun i h h' st k => by
    obtain ⟨hz, hTI, ⟨x, y, hTO⟩, f1, f2⟩ := st
    exact ⟨k z (by simp) _ hz, k TI (by simp) _ hTI, ⟨x, y, k TO (by simp) _ hTO⟩, f1.to (k i1 (by simp)), f2.to (k i2 (by simp))⟩
  item := by
    intro X hP hw hK hc i pins s σ H E I hf st hg
    subst hP hw hK
    obtain ⟨hz, hTI, ⟨x0, y0, hTO⟩, f1, f2⟩ := st
    obtain ⟨xs, ys, x, y, qx, qy, ex, ey⟩ := hg
    obtain ⟨us, rx, p1, _⟩ := qx.at I
    obtain ⟨ws, ry, p2, _⟩ := qy.at I
    obtain ⟨u, hu, ru⟩ := rx.get ex
    obtain ⟨v, hv, rv⟩ := ry.get ey
    have lz : z < s.heap.objs.size := Heap.lt_size hz
    refine next_mzip D hz hTI hTO f1 f2 p1 p2 (x := u) (y := v) (by simpa using hu) (by simpa using hv) ?_
    intro h' z' t' g1 g2 hT hk
    refine ⟨_, rfl, go_mzip (s := { s with heap := h' }) z' ?_⟩
    intro h'' z'' sb
    have hT2 : h''.get? s.heap.objs.size = some { cls := .type "tuple", data := .seq #[u, v] } := (sb.2 _ (Nat.ne_of_gt lz)).trans hT
    have new : ObjOk X.prog X.w (upd H s.heap.objs.size (.tup [x, y])) h'' s.heap.objs.size (.tup [x, y]) := ⟨by show 2 ≤ sizeLine; decide, [u, v], .cons ru (.cons rv .nil), ⟨_, hT2, rfl, _, rfl⟩⟩
    have keep : ∀ c o, c ∉ [z, TI, TO, i1, i2] → s.heap.get? c = some o → h''.get? c = some o := fun c o n e => by
      simp only [List.mem_cons, List.not_mem_nil, or_false, not_or] at n
      exact (sb.2 c n.1).trans (hk c o n.1 n.2.2.1 n.2.2.2.1 n.2.2.2.2 e)
    have I1 : Inv X pins σ (upd H s.heap.objs.size (.tup [x, y])) { s with heap := h'' } := I.turnedNew (t' := s.toks) (ch := [z, TI, TO, i1, i2]) keep hf (Nat.le_refl _) new
    refine ⟨.ref s.heap.objs.size, _, I1, rfl, ⟨_, x, y, rfl, I.hok.fresh (Nat.le_refl _), rfl, fun l hl => by rw [hl.inj I qx]; exact ex, fun l hl => by rw [hl.inj I qy]; exact ey⟩, ⟨z'', ?_, ⟨u, v, (sb.2 _ D.TOz).trans t'⟩, g1.to fun o q => (sb.2 _ D.i1z).trans q, g2.to fun o q => (sb.2 _ D.i2z).trans q⟩, fun c hcm => ?_⟩
    · exact (sb.2 _ D.TIz).trans (hk _ _ D.TIz D.TITO D.TIi1 D.TIi2 hTI)
    · have lt : c < s.heap.objs.size := by
        have hcm' := hcm
        simp only [List.mem_cons, List.not_mem_nil, or_false] at hcm'
        rcases hcm' with rfl | rfl | rfl | rfl | rfl
        · exact lz
        · exact Heap.lt_size hTI
        · exact Heap.lt_size hTO
        · exact f1.lt
        · exact f2.lt
      rw [upd_ne (Nat.ne_of_lt lt)]
      exact (hf c hcm).1
  done := by
    intro X hP hw hK hc i pins s σ H E I hf st hg
    subst hP hw hK
    obtain ⟨hz, hTI, ⟨x0, y0, hTO⟩, f1, f2⟩ := st
    obtain ⟨xs, ys, qx, qy, n1⟩ := hg
    obtain ⟨us, rx, p1, _⟩ := qx.at I
    obtain ⟨ws, ry, p2, _⟩ := qy.at I
    have e1 := rx.length
    have e2 := ry.length
    refine done_mzip (I.ok.hd hc) D hz hTI hTO f1 f2 p1 p2 (n1.imp (fun q => by simp; omega) (fun q => by simp; omega)) ?_
    intro h' hk
    refine ⟨rfl, I.turnedL (t' := s.toks) (ch := [z, TI, TO, i1, i2]) (fun c o n e => ?_) hf⟩
    simp only [List.mem_cons, List.not_mem_nil, or_false, not_or] at n
    exact hk c o n.1 n.2.2.1 n.2.2.2.1 n.2.2.2.2 e
  self := fun A i s Q E st h => self_mzip st.1 h
def iZipM (K : PySem.W.Frag) (t : TA) : TI := fun σ H Rh => t σ H fun vs H1 => ∃ ta tb a b xs ys, vs = [.ref a, .ref b] ∧ SqB ta K H1 a xs ∧ SqB tb K H1 b ys ∧ Rh (ItzM ta tb K a b) H1
theorem pi_mzip {X : Cx} {e e2 : Expr} {t : TA} {p pos tpos : Pos} {elts : List Expr} {kk : Nat} (hg : Gl X "zip") (hm : X.mg "zip" = none) (ha : PA X [e, e2] t)
    (hs : starEach [e, e2] X.env = (false, eval e X.env) :: starEach [e2] X.env) (hpl : (backTo pos (starEach [e2] X.env)).any (·.1) = false) :
    PI X (.Tuple elts kk tpos) (.Call (.Name "zip" p) [e, e2] [] pos) (iZipM X.K t) := by
  constructor
  intro pins s σ H Rh I h
  refine Call_ (ld_blt I hg hm PyProof.Rows.boot_zip (PyProof.Rows.callWith_type1 (thn (ha.run pos pins s σ H _ I h) ?_) hs hpl))
  rintro us s2 ⟨vs, H2, I2, r1, ta, tb, a, b, xs, ys, ev, qx, qy, q⟩
  subst ev
  cases r1 with
  | cons z zz =>
  cases zz with
  | cons z' zz =>
  cases zz
  cases z
  cases z'
  obtain ⟨its1, v1, p1, l1⟩ := qx.at I2
  obtain ⟨its2, v2, p2, l2⟩ := qy.at I2
  refine call_mzip p1 p2 ?_
  intro h' hz hTI hTO f1 f2 hk
  refine self_mzip hz ?_
  have I3 : Inv X pins σ H2 { s2 with heap := h' } := I2.kept (t' := s2.toks) hk
  refine ⟨s2.heap.objs.size + 4, [s2.heap.objs.size + 4, s2.heap.objs.size + 2, s2.heap.objs.size + 3, s2.heap.objs.size, s2.heap.objs.size + 1], _, _, H2, rfl, I3, turn_mzip (PySem.W.ktu_apart s2.heap.objs.size a b l1 l2), ⟨hz, hTI, ⟨_, _, hTO⟩, f1, f2⟩, ?_, q⟩
  intro c hc
  have le : s2.heap.objs.size ≤ c := by
    simp only [List.mem_cons, List.not_mem_nil, or_false] at hc
    rcases hc with rfl | rfl | rfl | rfl | rfl <;> omega
  exact I2.fpOk le (I2.hok.fresh le)
end DL
set_option Elab.async false
set_option linter.all false
set_option maxRecDepth 100000
set_option maxHeartbeats 2000000
/-! Dc: the data built-ins, zip and enumerate, as parts of the reading. -/
namespace DL
open PySem PySem.Spec PyProof.Rows L2
section
variable {X : Cx} {C : Nat → Fs} {E : XK} {S : Sx} {G H G' H' : Hp} {σ : L2.St} {env : Env} {vs : List Nat} {Ep : Str → Prop} {Q : Bool → PyData → Prop} {Qh : VK}
variable {x : Str} {e : Expr} {es : List Expr} {xs : Exs} {p pos : Pos}
theorem sd_max (sy : SysD X.base) (hc : X.calm = true) (hu : X.A.units + 65 < cLine) (hx : x = "max") (hg : Gl X x) (hm : X.mg x = none) (ha : PA X (e :: es) (tA X C E xs)) (ns : ∀ v p, e ≠ .Starred v p) (hpl : (backTo pos (starEach es X.env)).any (·.1) = false) : PE X (.Call (.Name x p) (e :: es) [] pos) (tE X C E (.bi .max xs)) := by
  subst hx
  refine sd_bi0 (pe_callB (CallR.or (call_max2 hc) (call_maxD sy hc hu)) hg hm (by decide +kernel) ha (by decide) (by decide) (star_of ns) hpl) fun {S G H σ env vs Ep Q Qh ws ds} p r0 h => ?_
  match ds, h, r0 with
  | [.int i, .int j], h, r0 =>
    obtain ⟨v, w, rfl, r, r'⟩ := r0.two'
    rw [r.int', r'.int']
    exact .inl ⟨i, j, rfl, p.done (.int _) h⟩
  | [.list (y :: ys)], ⟨k, h⟩, r0 =>
    obtain ⟨v, rfl, r⟩ := r0.one'
    exact .inr ⟨G, v, y, ys, p.sub, .inl r, k, rfl, fun u ru => p.done ru h⟩
  | [.tuple (y :: ys)], ⟨k, h⟩, r0 =>
    obtain ⟨v, rfl, r⟩ := r0.one'
    exact .inr ⟨G, v, y, ys, p.sub, .inr r, k, rfl, fun u ru => p.done ru h⟩
theorem sd_min (sy : SysD X.base) (hc : X.calm = true) (hu : X.A.units + 65 < cLine) (hx : x = "min") (hg : Gl X x) (hm : X.mg x = none) (ha : PA X (e :: es) (tA X C E xs)) (ns : ∀ v p, e ≠ .Starred v p) (hpl : (backTo pos (starEach es X.env)).any (·.1) = false) : PE X (.Call (.Name x p) (e :: es) [] pos) (tE X C E (.bi .min xs)) := by
  subst hx
  refine sd_bi0 (pe_callB (CallR.or (call_min2 hc) (call_minD sy hc hu)) hg hm (by decide +kernel) ha (by decide) (by decide) (star_of ns) hpl) fun {S G H σ env vs Ep Q Qh ws ds} p r0 h => ?_
  match ds, h, r0 with
  | [.int i, .int j], h, r0 =>
    obtain ⟨v, w, rfl, r, r'⟩ := r0.two'
    rw [r.int', r'.int']
    exact .inl ⟨i, j, rfl, p.done (.int _) h⟩
  | [.list (y :: ys)], ⟨k, h⟩, r0 =>
    obtain ⟨v, rfl, r⟩ := r0.one'
    exact .inr ⟨G, v, y, ys, p.sub, .inl r, k, rfl, fun u ru => p.done ru h⟩
  | [.tuple (y :: ys)], ⟨k, h⟩, r0 =>
    obtain ⟨v, rfl, r⟩ := r0.one'
    exact .inr ⟨G, v, y, ys, p.sub, .inr r, k, rfl, fun u ru => p.done ru h⟩
theorem sd_repr (sy : SysD X.base) (hcl : Calm X.A) (hu : X.A.units + 65 < cLine) (hx : x = "repr") (hg : Gl X x) (hm : X.mg x = none) (ha : PA X (e :: es) (tA X C E xs)) (ns : ∀ v p, e ≠ .Starred v p) (hpl : (backTo pos (starEach es X.env)).any (·.1) = false) : PE X (.Call (.Name x p) (e :: es) [] pos) (tE X C E (.bi .repr xs)) := by
  subst hx
  refine sd_bi0 (pe_callB (call_reprD sy hcl hu) hg hm (by decide +kernel) ha (by decide) (by decide) (star_of ns) hpl) fun {S G H σ env vs Ep Q Qh ws ds} p r0 h => ?_
  match ds, h, r0 with
  | [d], ⟨k, h⟩, r0 =>
    obtain ⟨v, rfl, r⟩ := r0.one'
    exact ⟨G, v, d, p.sub, r, k, rfl, p.done (.str _) h⟩
theorem sd_sorted (sy : SysD X.base) (hu : X.A.units + 65 < cLine) (hx : x = "sorted") (hg : Gl X x) (hm : X.mg x = none) (ha : PA X (e :: es) (tA X C E xs)) (ns : ∀ v p, e ≠ .Starred v p) (hpl : (backTo pos (starEach es X.env)).any (·.1) = false) : PE X (.Call (.Name x p) (e :: es) [] pos) (tE X C E (.bi .sorted xs)) := by
  subst hx
  refine sd_bi0 (pe_callB (call_sortD sy hu) hg hm (by decide +kernel) ha (by decide) (by decide) (star_of ns) hpl) fun {S G H σ env vs Ep Q Qh ws ds} p r0 h => ?_
  match ds, h, r0 with
  | [.list l], ⟨k, k2, h⟩, r0 =>
    obtain ⟨v, rfl, r⟩ := r0.one'
    exact ⟨G, v, l, p.sub, r, k, k2, rfl, fun q ys n rr => p.newL n rr h⟩
theorem allBools_eq : ∀ {ds : List PyData} {ns : List Bool}, allBools ds = some ns → ds = ns.map PyData.bool
  | [], ns, h => by cases h; rfl
  | .bool i :: r, ns, h => by
    simp only [allBools, Option.map_eq_some_iff] at h
    obtain ⟨ms, h1, rfl⟩ := h
    rw [allBools_eq h1]; rfl
  | .none :: r, ns, h => by cases h
  | .int _ :: r, ns, h => by cases h
  | .str _ :: r, ns, h => by cases h
  | .list _ :: r, ns, h => by cases h
  | .tuple _ :: r, ns, h => by cases h
  | .dict _ :: r, ns, h => by cases h
theorem sd_all (hc : X.calm = true) (hx : x = "all") (hg : Gl X x) (hm : X.mg x = none) (ha : PA X (e :: es) (tA X C E xs)) (ns : ∀ v p, e ≠ .Starred v p) (hpl : (backTo pos (starEach es X.env)).any (·.1) = false) : PE X (.Call (.Name x p) (e :: es) [] pos) (tE X C E (.bi .all xs)) := by
  subst hx
  refine sd_bi0 (pe_callB (cr_all hc) hg hm (by decide +kernel) ha (by decide) (by decide) (star_of ns) hpl) fun {S G H σ env vs Ep Q Qh ws ds} p r0 h => ?_
  match ds, h, r0 with
  | [.list l], ⟨ns, hn, h⟩, r0 =>
    obtain ⟨v, rfl, r⟩ := r0.one'
    obtain ⟨a, ys, rfl, h1, q1⟩ := r.lst'
    have e := allBools_eq hn
    subst e
    rw [q1.bools] at h1
    exact ⟨a, ns, rfl, SqL.of (p.sub _ _ h1), p.done (.bl _) h⟩
theorem sd_any (hc : X.calm = true) (hx : x = "any") (hg : Gl X x) (hm : X.mg x = none) (ha : PA X (e :: es) (tA X C E xs)) (ns : ∀ v p, e ≠ .Starred v p) (hpl : (backTo pos (starEach es X.env)).any (·.1) = false) : PE X (.Call (.Name x p) (e :: es) [] pos) (tE X C E (.bi .any xs)) := by
  subst hx
  refine sd_bi0 (pe_callB (cr_any hc) hg hm (by decide +kernel) ha (by decide) (by decide) (star_of ns) hpl) fun {S G H σ env vs Ep Q Qh ws ds} p r0 h => ?_
  match ds, h, r0 with
  | [.list l], ⟨ns, hn, h⟩, r0 =>
    obtain ⟨v, rfl, r⟩ := r0.one'
    obtain ⟨a, ys, rfl, h1, q1⟩ := r.lst'
    have e := allBools_eq hn
    subst e
    rw [q1.bools] at h1
    exact ⟨a, ns, rfl, SqL.of (p.sub _ _ h1), p.done (.bl _) h⟩
theorem sd_isa (sy : SysD X.base) {y : Ex} {T : Ty} {f : Str} {q : Pos} (hf : f = (Str.ofString (tyN T))) (hx : x = "isinstance") (hg : Gl X x) (hm : X.mg x = none) (hgf : Gl X f) (hmf : X.mg f = none) (he : PE X e (tE X C E y)) (ns : ∀ v p, e ≠ .Starred v p) :
    PE X (.Call (.Name x p) [e, .Name f q] [] pos) (tE X C E (.isa y T)) := by
  subst hx
  have hty : PE X (.Name f q) (tC (.ty (tyN T))) := by
    subst hf
    cases T <;> exact pe_bltn hgf hmf (u := .type _) (by decide +kernel) rfl (by decide) (by decide)
  have hA : PA X [e, .Name f q] (tCons (tE X C E y) (tCons (tC (.ty (tyN T))) tNil)) := pa_cons he (pa_cons hty pa_nil (by rfl)) (star_of ns)
  refine PE.imp (pe_callB (call_isaD sy T) hg hm (by decide +kernel) hA (by decide) (by decide) (star_of ns) (by rfl)) fun σ H Qh ⟨S, G, env, Ep, Q, p, h⟩ => ?_
  refine p.use (a := y) (fun i hi => by simpa [Ex.vs] using hi) (by simpa only [Ex.rd] using h) fun v G1 H1 f x p1 x1 r1 h1 => ?_
  exact ⟨G1, v, x, p1.sub, r1, rfl, p1.done (.bl _) h1⟩
theorem Sub.gnone {p : Addr} (s : Sub G H) (n : H p = none) : G p = none := by
  cases z : G p with
  | none => rfl
  | some u => rw [s _ _ z] at n; cases n
theorem sd_dic0 : PE X (.Dict [] [] pos) (tE X C E .dic0) :=
  PE.imp pe_dnewK fun σ H Qh ⟨S, G, env, Ep, Q, p, h⟩ q n => by
    refine p.fin _ _ ⟨G, true, .dict [], .newO p.st.sub p.st.src n, ?_, by simpa only [Ex.rd] using h⟩
    simp only [RF, if_true]
    exact ⟨⟨q, .dK [], [], rfl, upd_same, ⟨[], rfl, rfl⟩, p.sub.gnone n, .nil⟩, fun a e => by cases e; exact n⟩
/-! ### zip, enumerate -/
theorem zip_get {xs ys : List PyData} {i : Nat} {d : PyData} (h : (zipD xs ys)[i]? = some d) : ∃ x y, xs[i]? = some x ∧ ys[i]? = some y ∧ d = .tuple [x, y] := by
  unfold zipD at h
  rw [List.getElem?_zipWith] at h
  cases hx : xs[i]? with
  | none => rw [hx] at h; simp at h
  | some x =>
    cases hy : ys[i]? with
    | none => rw [hx, hy] at h; simp at h
    | some y => rw [hx, hy] at h; simp at h; exact ⟨x, y, rfl, rfl, h.symm⟩
theorem zip_len {xs ys : List PyData} : (zipD xs ys).length = min xs.length ys.length := by simp [zipD]
theorem pair_new {K : PySem.W.Frag} {G2 H2 : Hp} {T : Addr} {x y : V} {dx dy : PyData} (s2 : Sub G2 H2) (so : SrcOk S G2 H2) (n : H2 T = none) (rx : R K G2 x dx) (ry : R K G2 y dy) :
    ∃ G3, Ext S G2 H2 G3 (upd H2 T (.tup [x, y])) ∧ RW true K G3 (.ref T) (.tuple [dx, dy]) := by
  have e : Ext S G2 H2 (upd G2 T (.tup [x, y])) (upd H2 T (.tup [x, y])) := .new s2 so n
  exact ⟨_, e, .inr ⟨rfl, T, _, _, rfl, rfl, SqT.of upd_same, .cons (rx.mono e.gg) (.cons (ry.mono e.gg) .nil)⟩⟩
theorem walks_zl {K : PySem.W.Frag} {a b : Addr} {us ws : List V} {xs ys : List PyData} (h : G a = some (.lst us)) (r : RAll K G us xs) (h' : G b = some (.lst ws)) (r' : RAll K G ws ys) : Walks true K S (Itz K a b) (zipD xs ys) G := fun G2 H2 s1 s2 so => by
  have l1 : SqL K H2 a us := SqL.of (s2 _ _ (s1 _ _ h))
  have l2 : SqL K H2 b ws := SqL.of (s2 _ _ (s1 _ _ h'))
  refine ⟨fun i d e => ?_, ⟨us, ws, l1, l2, by rw [zip_len, r.length, r'.length]; omega⟩⟩
  obtain ⟨dx, dy, ex, ey, rfl⟩ := zip_get e
  obtain ⟨x, ex', rx⟩ := r.get i ex
  obtain ⟨y, ey', ry⟩ := r'.get i ey
  refine ⟨⟨us, ws, x, y, l1, l2, ex', ey'⟩, ?_⟩
  rintro v H3 ⟨T, x2, y2, rfl, n, rfl, k1, k2⟩
  have q1 := k1 us l1
  have q2 := k2 ws l2
  rw [ex'] at q1
  rw [ey'] at q2
  cases q1
  cases q2
  exact pair_new s2 so n (rx.mono s1) (ry.mono s1)
theorem walks_zt {K : PySem.W.Frag} {a b : Addr} {us ws : List V} {xs ys : List PyData} (h : SqT K G a us) (r : RAll K G us xs) (h' : SqT K G b ws) (r' : RAll K G ws ys) : Walks true K S (RZ.ItzT K a b) (zipD xs ys) G := fun G2 H2 s1 s2 so => by
  have l1 : SqT K H2 a us := s2.t (s1.t h)
  have l2 : SqT K H2 b ws := s2.t (s1.t h')
  refine ⟨fun i d e => ?_, ⟨us, ws, l1, l2, by rw [zip_len, r.length, r'.length]; omega⟩⟩
  obtain ⟨dx, dy, ex, ey, rfl⟩ := zip_get e
  obtain ⟨x, ex', rx⟩ := r.get i ex
  obtain ⟨y, ey', ry⟩ := r'.get i ey
  refine ⟨⟨us, ws, x, y, l1, l2, ex', ey'⟩, ?_⟩
  rintro v H3 ⟨T, x2, y2, rfl, n, rfl, k1, k2⟩
  have q1 := k1 us l1
  have q2 := k2 ws l2
  rw [ex'] at q1
  rw [ey'] at q2
  cases q1
  cases q2
  exact pair_new s2 so n (rx.mono s1) (ry.mono s1)
theorem walks_zs {K : PySem.W.Frag} {ta tb : Bool} {a b : Addr} {us ws : List V} {xs ys : List PyData} (h : SqB ta K G a us) (r : RAll K G us xs) (h' : SqB tb K G b ws) (r' : RAll K G ws ys) (el : xs.length = ys.length)
    (up : ∀ {t : Bool} {G2 : Hp} {c : Addr} {zs : List V}, Sub G G2 → SqB t K G c zs → SqB t K G2 c zs) : Walks true K S (ItzS ta tb K a b) (zipD xs ys) G := fun G2 H2 s1 s2 so => by
  have l1 : SqB ta K H2 a us := up (s1.trans s2) h
  have l2 : SqB tb K H2 b ws := up (s1.trans s2) h'
  refine ⟨fun i d e => ?_, ⟨us, ws, l1, l2, by rw [zip_len, r.length]; omega, by rw [zip_len, r'.length]; omega⟩⟩
  obtain ⟨dx, dy, ex, ey, rfl⟩ := zip_get e
  obtain ⟨x, ex', rx⟩ := r.get i ex
  obtain ⟨y, ey', ry⟩ := r'.get i ey
  refine ⟨⟨us, ws, x, y, l1, l2, ex', ey'⟩, ?_⟩
  rintro v H3 ⟨T, x2, y2, rfl, n, rfl, k1, k2⟩
  have q1 := k1 us l1
  have q2 := k2 ws l2
  rw [ex'] at q1
  rw [ey'] at q2
  cases q1
  cases q2
  exact pair_new s2 so n (rx.mono s1) (ry.mono s1)
theorem sqB_up {K : PySem.W.Frag} {t : Bool} {G2 : Hp} {c : Addr} {zs : List V} (s : Sub G G2) (h : SqB t K G c zs) : SqB t K G2 c zs := by
  cases t
  · exact s.l (show SqL K G c zs from h)
  · exact s.t (show SqT K G c zs from h)
theorem sqB_of {K : PySem.W.Frag} {v : V} {d : PyData} {xs : List PyData} (r : R K G v d) (h : d = .list xs ∨ d = .tuple xs) : ∃ t a us, v = .ref a ∧ SqB t K G a us ∧ RAll K G us xs := by
  rcases h with rfl | rfl
  · obtain ⟨a, us, rfl, h, q⟩ := r.lst'
    exact ⟨false, a, us, rfl, (SqL.of h : SqL K G a us), q⟩
  · obtain ⟨a, us, rfl, h, q⟩ := r.tup'
    exact ⟨true, a, us, rfl, h, q⟩
theorem walks_only {W : Hp → Prop} (h : W G') : ∀ G'', (G'' = G' ∨ (false = true ∧ Thin G G' G'')) → W G'' := by
  rintro _ (rfl | ⟨z, _⟩)
  · exact h
  · cases z
theorem isLst_iff {d : PyData} {Q : List PyData → Prop} (h : isLst d Q) : ∃ xs, d = .list xs ∧ Q xs := by
  cases d <;> first | exact ⟨_, rfl, h⟩ | cases h
theorem walks_zm {K : PySem.W.Frag} {ta tb : Bool} {a b : Addr} {us ws : List V} {xs ys : List PyData} (h : SqB ta K G a us) (r : RAll K G us xs) (h' : SqB tb K G b ws) (r' : RAll K G ws ys)
    (up : ∀ {t : Bool} {G2 : Hp} {c : Addr} {zs : List V}, Sub G G2 → SqB t K G c zs → SqB t K G2 c zs) : Walks true K S (ItzM ta tb K a b) (zipD xs ys) G := fun G2 H2 s1 s2 so => by
  have l1 : SqB ta K H2 a us := up (s1.trans s2) h
  have l2 : SqB tb K H2 b ws := up (s1.trans s2) h'
  refine ⟨fun i d e => ?_, ⟨us, ws, l1, l2, by rw [zip_len, r.length, r'.length]; omega⟩⟩
  obtain ⟨dx, dy, ex, ey, rfl⟩ := zip_get e
  obtain ⟨x, ex', rx⟩ := r.get i ex
  obtain ⟨y, ey', ry⟩ := r'.get i ey
  refine ⟨⟨us, ws, x, y, l1, l2, ex', ey'⟩, ?_⟩
  rintro v H3 ⟨T, x2, y2, rfl, n, rfl, k1, k2⟩
  have q1 := k1 us l1
  have q2 := k2 ws l2
  rw [ex'] at q1
  rw [ey'] at q2
  cases q1
  cases q2
  exact pair_new s2 so n (rx.mono s1) (ry.mono s1)
theorem two_seq {d d' : PyData} {Q : List PyData → List PyData → Prop} (h : two d d' Q) : ∃ xs ys, (d = .list xs ∨ d = .tuple xs) ∧ (d' = .list ys ∨ d' = .tuple ys) ∧ Q xs ys := by
  cases d <;> cases d' <;> first
    | exact h.elim
    | exact ⟨_, _, .inl rfl, .inl rfl, h⟩
    | exact ⟨_, _, .inr rfl, .inr rfl, h⟩
    | exact ⟨_, _, .inl rfl, .inr rfl, h⟩
    | exact ⟨_, _, .inr rfl, .inl rfl, h⟩
theorem si_zip {a b : Expr} {y z : Ex} {elts : List Expr} {kk : Nat} {tpos : Pos} (hg : Gl X "zip") (hm : X.mg "zip" = none) (ha : PE X a (tE X C E y)) (hb : PE X b (tE X C E z)) (ns : ∀ v p, a ≠ .Starred v p) (ns2 : ∀ v p, b ≠ .Starred v p) :
    PI X (.Tuple elts kk tpos) (.Call (.Name "zip" p) [a, b] [] pos) (tI X C E (.zip y z)) :=
  PI.imp (pi_mzip hg hm (sa_cons ha (sa_cons hb sa_nil ns2) ns) (star_of ns) (by rw [star_of ns2]; rfl)) fun σ H Rh ⟨S, G, env, Ep, Q, st, rz, h, k⟩ => by
    refine ⟨S, G, env, Ep, fun ds => match ds with
      | [d, d'] => two d d' fun xs ys => Q false (zipD xs ys)
      | _ => False, st.less (fun i hi => by simpa [It.vs, Exs.vs] using hi), rz, by simp only [Exs.rd]; simpa only [It.rd] using h, fun ws G' H' ds x r0 q => ?_⟩
    match ds, r0, q with
    | [d, d'], r0, q =>
      obtain ⟨xs, ys, hd, hd', q⟩ := two_seq (d := d) (d' := d') q
      obtain ⟨v, w, rfl, r, r'⟩ := r0.two'
      obtain ⟨ta, a1, us, rfl, h1, q1⟩ := sqB_of r hd
      obtain ⟨tb, a2, ws, rfl, h2, q2⟩ := sqB_of r' hd'
      exact ⟨ta, tb, a1, a2, us, ws, rfl, sqB_up x.gh h1, sqB_up x.gh h2, k _ _ _ _ _ x (walks_only (walks_zm h1 q1 h2 q2 (fun s h => sqB_up s h))) q⟩
theorem si_zips {a b : Expr} {y z : Ex} {elts : List Expr} {kk cj : Nat} {tpos kpos cpos : Pos} (hg : Gl X "zip") (hm : X.mg "zip" = none) (ha : PE X a (tE X C E y)) (hb : PE X b (tE X C E z)) (ns : ∀ v p, a ≠ .Starred v p) (ns2 : ∀ v p, b ≠ .Starred v p) :
    PI X (.Tuple elts kk tpos) (.Call (.Name "zip" p) [a, b] [⟨some "strict", .Constant (.bool true) cj cpos, kpos⟩] pos) (tI X C E (.zips y z)) :=
  PI.imp (pi_szip hg hm (sa_cons ha (sa_cons hb sa_nil ns2) ns) (star_of ns) (by rw [star_of ns2]; rfl)) fun σ H Rh ⟨S, G, env, Ep, Q, st, rz, h, k⟩ => by
    refine ⟨S, G, env, Ep, fun ds => match ds with
      | [d, d'] => isSeq d fun xs => isSeq d' fun ys => xs.length = ys.length ∧ Q false (zipD xs ys)
      | _ => False, st.less (fun i hi => by simpa [It.vs, Exs.vs] using hi), rz, by simp only [Exs.rd]; simpa only [It.rd] using h, fun ws G' H' ds x r0 q => ?_⟩
    match ds, r0, q with
    | [d, d'], r0, q =>
      obtain ⟨xs, hd, q⟩ := isSeq_iff (d := d) q
      obtain ⟨ys, hd', el, q⟩ := isSeq_iff (d := d') q
      obtain ⟨v, w, rfl, r, r'⟩ := r0.two'
      obtain ⟨ta, a1, us, rfl, h1, q1⟩ := sqB_of r hd
      obtain ⟨tb, a2, ws, rfl, h2, q2⟩ := sqB_of r' hd'
      exact ⟨ta, tb, a1, a2, us, ws, rfl, sqB_up x.gh h1, sqB_up x.gh h2, k _ _ _ _ _ x (walks_only (walks_zs h1 q1 h2 q2 el (fun s h => sqB_up s h))) q⟩
theorem si_enum {a : Expr} {y : Ex} {elts : List Expr} {kk : Nat} {tpos : Pos} (hg : Gl X "enumerate") (hm : X.mg "enumerate" = none) (ha : PE X a (tE X C E y)) (ns : ∀ v p, a ≠ .Starred v p) :
    PI X (.Tuple elts kk tpos) (.Call (.Name "enumerate" p) [a] [] pos) (tI X C E (.enum y)) :=
  PI.imp (pi_enumT hg hm (sa_cons ha sa_nil ns) (star_of ns)) fun σ H Rh ⟨S, G, env, Ep, Q, st, rz, h, k⟩ => by
    refine ⟨S, G, env, Ep, fun ds => match ds with
      | [d] => isSeq d fun xs => Q false (enumD xs)
      | _ => False, st.less (fun i hi => by simpa [It.vs, Exs.vs] using hi), rz, by simp only [Exs.rd]; simpa only [It.rd] using h, fun ws G' H' ds x r0 q => ?_⟩
    match ds, r0, q with
    | [d], r0, q =>
      obtain ⟨xs, hd, q⟩ := isSeq_iff (d := d) q
      obtain ⟨v, rfl, r⟩ := r0.one'
      rcases hd with rfl | rfl
      · obtain ⟨a1, us, rfl, h1, q1⟩ := r.lst'
        refine ⟨a1, us, rfl, .inl ⟨SqL.of (x.gh _ _ h1), k _ _ _ _ _ x (walks_only ?_) q⟩⟩
        intro G2 H2 s1 s2 so
        have l1 : SqL X.K H2 a1 us := SqL.of (s2 _ _ (s1 _ _ h1))
        refine ⟨fun i d e => ?_, ⟨us, l1, by simp [enumD, q1.length]⟩⟩
        simp only [enumD, List.getElem?_map, List.getElem?_zipIdx, Option.map_eq_some_iff, Option.map_map] at e
        obtain ⟨dx, ex, rfl⟩ := e
        obtain ⟨x1, ex', rx⟩ := q1.get i ex
        refine ⟨⟨us, x1, l1, ex'⟩, ?_⟩
        rintro v H3 ⟨T, x2, rfl, n, rfl, k1⟩
        have q2 := k1 us l1
        rw [ex'] at q2
        cases q2
        have z := pair_new s2 so n (.int (i : Nat)) (rx.mono s1)
        simpa [It.wk] using z
      · obtain ⟨a1, us, rfl, h1, q1⟩ := r.tup'
        refine ⟨a1, us, rfl, .inr ⟨x.gh.t h1, k _ _ _ _ _ x (walks_only ?_) q⟩⟩
        intro G2 H2 s1 s2 so
        have l1 : SqT X.K H2 a1 us := s2.t (s1.t h1)
        refine ⟨fun i d e => ?_, ⟨us, l1, by simp [enumD, q1.length]⟩⟩
        simp only [enumD, List.getElem?_map, List.getElem?_zipIdx, Option.map_eq_some_iff, Option.map_map] at e
        obtain ⟨dx, ex, rfl⟩ := e
        obtain ⟨x1, ex', rx⟩ := q1.get i ex
        refine ⟨⟨us, x1, l1, ex'⟩, ?_⟩
        rintro v H3 ⟨T, x2, rfl, n, rfl, k1⟩
        have q2 := k1 us l1
        rw [ex'] at q2
        cases q2
        have z := pair_new s2 so n (.int (i : Nat)) (rx.mono s1)
        simpa [It.wk] using z
end
end DL
set_option Elab.async false
set_option linter.all false
set_option maxRecDepth 100000
set_option maxHeartbeats 2000000
/-! De: methods of lists, tuples, dicts, by what their receiver is. -/
namespace DL
open PySem PySem.Spec PyProof.Rows L2
section
variable {X : Cx}
/-- x is of the built-in type T, without a dict of its own -/
def TyAt (X : Cx) (T : String) (x : V) (H : Hp) : Prop := ∀ (pins : List (Addr × Obj)) (σ : L2.St) (s : Shared) (u : Value), Inv X pins σ H s → RelV x u → s.TypeIs u T ∧ ∀ a, u = .ref a → ∃ ob, s.heap.get? a = some ob ∧ ob.dict = none
theorem tyAt_list {H : Hp} {a : Addr} {xs : List V} (h : SqL X.K H a xs) : TyAt X "list" (.ref a) H := fun pins σ s u I r => tyV_is I r (.inl ⟨rfl, xs, h⟩)
theorem tyAt_tup {H : Hp} {a : Addr} {o : Obj} {xs : List V} (h : H a = some (.frz o (.tup xs))) (hd : o.dict = none) : TyAt X "tuple" (.ref a) H := fun pins σ s u I r => by
  cases r
  obtain ⟨g, _, us, _, o', ho, hc, _⟩ := I.hok a _ h
  rw [g] at ho
  cases ho
  exact ⟨⟨o, g, hc⟩, fun b e => by cases e; exact ⟨o, g, hd⟩⟩
theorem tyAt_dict {H : Hp} {a : Addr} (h : IsD H a) : TyAt X "dict" (.ref a) H := fun pins σ s u I r => by
  cases r
  exact ⟨(isD_at I h).1, (isD_at I h).2.1⟩
/-- the type T has the method under this name -/
def MAlt (X : Cx) (name : Str) (T id : String) (r : V → List V → Hp → VK → Prop) : Prop := PlainAttrs T ∧ Slot T name id ∧ typeOf (.builtin id) = pure (.type "method_descriptor") ∧ MtR X id r
def tMG (X : Cx) (name : Str) (to : TE) (t : TA) : TE := fun σ H Q => to σ H fun x H1 => ∃ T id r, MAlt X name T id r ∧ TyAt X T x H1 ∧ t σ H1 fun xs H2 => r x xs H2 Q
theorem all_of_any {l : List (Bool × Sem Value)} (h : l.any (·.1) = false) : l.all (fun x => !x.1) = true := by
  rw [List.all_eq_true]
  intro x hx
  have := List.any_eq_false.mp h x hx
  simpa using this
theorem pe_mthG {o e : Expr} {es : List Expr} {to : TE} {t : TA} {name : Str} {apos cpos : Pos} (ho : PE X o to) (ha : PA X (e :: es) t) (hbase : attributeBase o name X.env (eval o X.env) = eval o X.env)
    (hline : (apos.endLine == cpos.line) = true) (hlen : (e :: es).length < 20) (hs : starEach (e :: es) X.env = (false, eval e X.env) :: starEach es X.env) (hany : (backTo cpos (starEach (e :: es) X.env)).any (·.1) = false) (hplain : (backTo cpos (starEach es X.env)).any (·.1) = false) :
    PE X (.Call (.Attribute o name apos) (e :: es) [] cpos) (tMG X name to t) := by
  constructor
  intro pins s σ H Q I h
  have few : ((backTo cpos (starEach (e :: es) X.env)).all (fun x => !x.1) && (backToKw cpos (keywordEach [] X.env)).all (fun x => x.1.isSome)
      && decide ((e :: es).length + ([] : List Keyword).length + (if ([] : List Keyword).isEmpty then 0 else 1) < 30)) = true := by
    rw [all_of_any hany]
    have z : (backToKw cpos (keywordEach [] X.env)).all (fun x => x.1.isSome) = true := by rfl
    rw [z, Bool.true_and, Bool.true_and]
    simp only [List.length_nil, List.isEmpty_nil, if_true, decide_eq_true_eq]
    omega
  refine wpAny_Call_method_late hbase few hline rfl (thn (ho.run pins s σ H _ I h) ?_)
  rintro v s1 ⟨x, H1, I1, r1, T, id, r, ⟨pa, slot, hty, hm⟩, ty, q1⟩
  obtain ⟨h1, h2⟩ := ty pins σ s1 v I1 r1
  refine ⟨T, id, pa, slot, hty, h1, h2, ?_⟩
  have hA := ha.run cpos pins s1 σ H1 _ I1 q1
  rw [hs] at hA ⊢
  refine Calls.callWith_builtin ?_ (Calls.evalArgs_plain (thn hA ?_))
  · show (false || (backTo cpos (starEach es X.env)).any (·.1)) = false
    rw [hplain]
    rfl
  · rintro us s2 ⟨vs, H2, I2, r2, q2⟩
    exact hm pins s2 σ H2 x vs v us Q I2 r1 r2 q2

/-! ### t.index(x) of data -/
def rIdxT (K : PySem.W.Frag) : V → List V → Hp → VK → Prop := fun x xs H Q => ∃ (a : Addr) (y : V) (d : PyData) (ds : List PyData) (ys : List V) (j : Nat) (z : PyData), x = V.ref a ∧ xs = [y] ∧ SqT K H a ys ∧ DpAll K H ys ds ∧ Dp K H y d ∧
  SeqAt.shaped (.list ds) = true ∧ SeqAt.shaped d = true ∧ ds[j]? = some z ∧ PyData.eqv z d = true ∧ (∀ (m : Nat) (z' : PyData), m < j → ds[m]? = some z' → PyData.eqv z' d = false) ∧ Q (.int (j : Nat)) H
theorem mt_tupIdx (hu : X.A.units + 65 < cLine) : MtR X "tuple.index" (rIdxT X.K) := by
  rintro pins s σ H x xs v us Q I rx rxs ⟨a, y, d, ds, ys, j, z, rfl, rfl, hs, ha, hy, sl, sd, hz, hzj, hno, q⟩
  cases rx
  obtain ⟨uy, rfl, ry⟩ := vals1 rxs
  obtain ⟨as, r1⟩ := Dp.reads I d y uy hy ry
  have lay : PyData.canLayAll0 ds = true := SeqAt.canLay_of_shaped sl
  obtain ⟨its, rv, ⟨⟨cls, dd, data, sls⟩, ho, hc, n, hdt⟩, _⟩ := I.tuple hs
  simp only at hc hdt
  subst hc hdt
  obtain ⟨bs, h4⟩ := Dp.readsAll I ds _ its ha rv
  have hn : its.length = ds.length := SeqAt.ReadsAll.length ds its bs h4
  have hmap : its.map (SeqAt.readOf s.heap) = ds := SeqAt.readsAll_map ds its bs lay h4
  obtain ⟨hjd, _⟩ := List.getElem?_eq_some_iff.mp hz
  have hj : j < its.toArray.size := by
    simp only [List.size_toArray]
    omega
  have at_ : ∀ (m : Nat) (hm : m < its.toArray.size) (z' : PyData), ds[m]? = some z' → SeqAt.readOf s.heap its.toArray[m] = z' := by
    intro m hm z' hz'
    have hml : m < its.length := by simpa using hm
    rw [← hmap, List.getElem?_map, List.getElem?_eq_getElem hml] at hz'
    simpa using hz'
  refine call_meets PySem.F.slot_tuple_index ⟨_, ho, rfl⟩ PySem.F.entry_tuple_index (PySem.F.args_tuple_index_2 _ _)
    (_root_.TI.tuple_indexAt a its.toArray n dd sls uy (fun u => PyData.eqv (SeqAt.readOf s.heap u) d) j hj ?_ ?_) ⟨ho, ?_, ?_⟩
  · show PyData.eqv (SeqAt.readOf s.heap its.toArray[j]) d = true
    rw [at_ j hj z hz]
    exact hzj
  · intro m hm hmj
    have hmd : m < ds.length := by omega
    have e : ds[m]? = some ds[m] := List.getElem?_eq_getElem hmd
    show PyData.eqv (SeqAt.readOf s.heap its.toArray[m]) d = false
    rw [at_ m hm _ e]
    exact hno m _ hmj e
  · exact SeqAt.items_eqAt (vs := its.toArray) (show ReadsAll s.heap its.toArray.toList ds bs from h4) r1 lay (SeqAt.canLay_of_shaped sd) (room_in_shaped sd hu)
  · exact ⟨.int (j : Nat), H, I.tok _, ⟨_, rfl⟩, q⟩
def rCntT (K : PySem.W.Frag) : V → List V → Hp → VK → Prop := fun x xs H Q => ∃ (a : Addr) (y : V) (d : PyData) (ds : List PyData) (ys : List V), x = V.ref a ∧ xs = [y] ∧ SqT K H a ys ∧ DpAll K H ys ds ∧ Dp K H y d ∧
  SeqAt.shaped (.list ds) = true ∧ SeqAt.shaped d = true ∧ Q (.int ((ds.countP fun z => PyData.eqv z d : Nat) : Int)) H
theorem mt_tupCnt (hu : X.A.units + 65 < cLine) : MtR X "tuple.count" (rCntT X.K) := by
  rintro pins s σ H x xs v us Q I rx rxs ⟨a, y, d, ds, ys, rfl, rfl, hs, ha, hy, sl, sd, q⟩
  cases rx
  obtain ⟨uy, rfl, ry⟩ := vals1 rxs
  obtain ⟨as, r1⟩ := Dp.reads I d y uy hy ry
  have lay : PyData.canLayAll0 ds = true := SeqAt.canLay_of_shaped sl
  obtain ⟨its, rv, ⟨⟨cls, dd, data, sls⟩, ho, hc, n, hdt⟩, _⟩ := I.tuple hs
  simp only at hc hdt
  subst hc hdt
  obtain ⟨bs, h4⟩ := Dp.readsAll I ds _ its ha rv
  have hmap : its.map (SeqAt.readOf s.heap) = ds := SeqAt.readsAll_map ds its bs lay h4
  refine call_meets PySem.F.slot_tuple_count ⟨_, ho, rfl⟩ PySem.F.entry_tuple_count (PySem.F.args_tuple_count_2 _ _)
    (SeqAt.tuple_countAt a its.toArray n dd sls uy fun u => PyData.eqv (SeqAt.readOf s.heap u) d) ⟨ho, ?_, ?_⟩
  · exact SeqAt.items_eqAt (vs := its.toArray) (show ReadsAll s.heap its.toArray.toList ds bs from h4) r1 lay (SeqAt.canLay_of_shaped sd) (room_in_shaped sd hu)
  · have e : its.toArray.toList.countP (fun u => PyData.eqv (SeqAt.readOf s.heap u) d) = ds.countP fun z => PyData.eqv z d := by
      rw [← hmap, List.countP_map]
      rfl
    rw [e]
    exact ⟨.int ((ds.countP fun z => PyData.eqv z d : Nat) : Int), H, I.tok _, ⟨_, rfl⟩, q⟩
theorem idx_some {ds : List PyData} {x : PyData} {n : Nat} (h : idxD ds x = some n) : ∃ z, ds[n]? = some z ∧ PyData.eqv z x = true ∧ ∀ (m : Nat) (z' : PyData), m < n → ds[m]? = some z' → PyData.eqv z' x = false := by
  unfold idxD at h
  obtain ⟨hl, h1, h2⟩ := List.findIdx?_eq_some_iff_getElem.mp h
  refine ⟨ds[n], List.getElem?_eq_getElem hl, h1, fun m z' hm e => ?_⟩
  obtain ⟨hm', e'⟩ := List.getElem?_eq_some_iff.mp e
  have := h2 m hm
  rw [e'] at this
  simpa using this
def rGetD : V → List V → Hp → VK → Prop := fun x xs H Q => ∃ (a : Addr) (y : V) (o : Option V), x = V.ref a ∧ DGet H a y o ∧ ((xs = [y] ∧ Q (o.getD .non) H) ∨ ∃ d, xs = [y, d] ∧ Q (o.getD d) H)
theorem mt_getD (hu : X.A.units + 65 < cLine) : MtR X "dict.get" rGetD := by
  rintro pins s σ H x xs v us Q I rx rxs ⟨a, y, o, rfl, g, h⟩
  cases rx
  rcases h with ⟨rfl, q⟩ | ⟨d, rfl, q⟩
  · obtain ⟨u, rfl, ry⟩ := vals1 rxs
    exact d_get1 (by omega) I g ry fun w' s' I' rw' => ⟨_, H, I', rw', q⟩
  · cases rxs with
    | cons ry rt =>
      obtain ⟨u, rfl, rd⟩ := vals1 rt
      exact d_get2 (by omega) I g ry rd fun w' s' I' rw' => ⟨_, H, I', rw', q⟩
/-- the methods' names -/
def mtName : Mt → Str
  | .bits => "bit_length" | .index => "index" | .get => "get" | .items => "items" | .keys => "keys" | .values => "values" | .count => "count"
end
section
variable {X : Cx} {C : Nat → Fs} {E : XK} {S : Sx} {G H G' H' : Hp} {σ : L2.St} {env : Env} {vs : List Nat} {Ep : Str → Prop} {Q : Bool → PyData → Prop} {Qh : VK}
/-- the rule of a method by its receiver, read -/
theorem alt_of (hu : X.A.units + 65 < cLine) {m : Mt} {x : PyData} {v : V} (s : Sub G H) (r : R X.K G v x) (h : mtT m x = true) (hm : m ≠ .bits) :
    ∃ T id rr, MAlt X (mtName m) T id rr ∧ TyAt X T v H ∧ ∀ {S : Sx} {G1 H1 : Hp} {σ : L2.St} {env : Env} {vs : List Nat} {Ep : Str → Prop} {Q : Bool → PyData → Prop} {Qh : VK} {ws : List V} {ds : List PyData}, Pt X E S G1 H1 σ env vs Ep Q Qh → R X.K G1 v x → RAll X.K G1 ws ds → MtP m x ds Q → rr v ws H1 Qh := by
  cases m with
  | bits => exact absurd rfl hm
  | index =>
    cases x with
    | list xs =>
      obtain ⟨a, us, rfl, h1, q1⟩ := r.lst'
      refine ⟨"list", "list.index", _, ⟨PySem.F.plainAttrs_list, PySem.F.slot_list_index, PySem.F.type_list_index, mt_indexD hu⟩, tyAt_list (SqL.of (s _ _ h1)), fun {S G1 H1 σ env vs Ep Q Qh ws ds} p r1 rw q => ?_⟩
      match ds, rw, q with
      | [y], rw, q =>
        obtain ⟨o1, o2, n, hn, q⟩ := q
        obtain ⟨w, rfl, rz⟩ := rw.one'
        obtain ⟨z, e1, e2, e3⟩ := idx_some hn
        exact ⟨a, w, y, xs, n, z, rfl, rfl, r1.dp' p.sub o2, rz.dp' p.sub o1, o2, o1, e1, e2, e3, p.done (.int _) q⟩
    | tuple xs =>
      obtain ⟨a, o, us, rfl, h1, hd, q1⟩ := r.tupS
      refine ⟨"tuple", "tuple.index", _, ⟨PySem.F.plainAttrs_tuple, PySem.F.slot_tuple_index, PySem.F.type_tuple_index, mt_tupIdx hu⟩, tyAt_tup (s _ _ h1) hd, fun {S G1 H1 σ env vs Ep Q Qh ws ds} p r1 rw q => ?_⟩
      match ds, rw, q with
      | [y], rw, q =>
        obtain ⟨o1, o2, n, hn, q⟩ := q
        obtain ⟨w, rfl, rz⟩ := rw.one'
        obtain ⟨z, e1, e2, e3⟩ := idx_some hn
        obtain ⟨a', us', e, h1', q1'⟩ := r1.tup'
        cases e
        have nd : PyData.hasDictAll xs = false := by
          have := shaped_noDict o2
          simpa [PyData.hasDict] using this
        exact ⟨a, w, y, xs, us', n, z, rfl, rfl, p.sub.t h1', RAll.dp p.sub q1' nd, rz.dp' p.sub o1, o2, o1, e1, e2, e3, p.done (.int _) q⟩
    | _ => cases h
  | get =>
    cases x with
    | dict kvs =>
      have hi : ∃ a, v = .ref a ∧ IsD H a := by
        cases r with
        | dic h1 dp q =>
          obtain ⟨kvs0, rfl, rfl⟩ := dp
          exact ⟨_, rfl, .inl ⟨kvs0, s.rd h1⟩⟩
      obtain ⟨a, rfl, hi⟩ := hi
      refine ⟨"dict", "dict.get", _, ⟨PySem.F.plainAttrs_dict, PySem.F.slot_dict_get, PySem.F.type_dict_get, mt_getD hu⟩, tyAt_dict hi, fun {S G1 H1 σ env vs Ep Q Qh ws ds} p r1 rw q => ?_⟩
      match ds, rw, q with
      | [y], rw, q =>
        obtain ⟨hk, q⟩ := q
        obtain ⟨w, rfl, rz⟩ := rw.one'
        obtain ⟨a', o, e, g, m⟩ := dic_get p.sub r1 rz hk
        cases e
        refine ⟨a, w, o, rfl, g, .inl ⟨rfl, ?_⟩⟩
        cases o with
        | none =>
          rw [show lookD kvs y = none from m] at q
          exact p.done .non q
        | some u =>
          obtain ⟨d, e, ru⟩ := m
          rw [e] at q
          exact p.done ru q
      | [y, d0], rw, q =>
        obtain ⟨hk, q⟩ := q
        obtain ⟨w, w2, rfl, rz, rw2⟩ := rw.two'
        obtain ⟨a', o, e, g, m⟩ := dic_get p.sub r1 rz hk
        cases e
        refine ⟨a, w, o, rfl, g, .inr ⟨w2, rfl, ?_⟩⟩
        cases o with
        | none =>
          rw [show lookD kvs y = none from m] at q
          exact p.done rw2 q
        | some u =>
          obtain ⟨d, e, ru⟩ := m
          rw [e] at q
          exact p.done ru q
    | _ => cases h
  | items => cases x <;> cases h
  | keys => cases x <;> cases h
  | values => cases x <;> cases h
  | count =>
    cases x with
    | tuple xs =>
      obtain ⟨a, o, us, rfl, h1, hd, q1⟩ := r.tupS
      refine ⟨"tuple", "tuple.count", _, ⟨PySem.F.plainAttrs_tuple, PySem.F.slot_tuple_count, PySem.F.type_tuple_count, mt_tupCnt hu⟩, tyAt_tup (s _ _ h1) hd, fun {S G1 H1 σ env vs Ep Q Qh ws ds} p r1 rw q => ?_⟩
      match ds, rw, q with
      | [y], rw, q =>
        obtain ⟨o1, o2, q⟩ := q
        obtain ⟨w, rfl, rz⟩ := rw.one'
        obtain ⟨a', us', e, h1', q1'⟩ := r1.tup'
        cases e
        have nd : PyData.hasDictAll xs = false := by
          have := shaped_noDict o2
          simpa [PyData.hasDict] using this
        exact ⟨a, w, y, xs, us', rfl, rfl, p.sub.t h1', RAll.dp p.sub q1' nd, rz.dp' p.sub o1, o2, o1, p.done (.int _) q⟩
    | _ => cases h
theorem sd_mth {m : Mt} {o e : Expr} {es : List Expr} {eo : Ex} {xs : Exs} {apos pos : Pos} (hu : X.A.units + 65 < cLine) (hm : m ≠ .bits) (ho : PE X o (tE X C E eo)) (ha : PA X (e :: es) (tA X C E xs)) (hb : attributeBase o (mtName m) X.env (eval o X.env) = eval o X.env)
    (hl : (apos.endLine == pos.line) = true) (hlen : (e :: es).length < 20) (ns : ∀ v p, e ≠ .Starred v p) (hany : (backTo pos (starEach (e :: es) X.env)).any (·.1) = false) (hpl : (backTo pos (starEach es X.env)).any (·.1) = false) :
    PE X (.Call (.Attribute o (mtName m) apos) (e :: es) [] pos) (tE X C E (.mth m eo xs)) :=
  PE.imp (pe_mthG ho ha hb hl hlen (star_of ns) hany hpl) fun σ H Qh ⟨S, G, env, Ep, Q, p, h⟩ =>
    p.use (fun i hi => by simp [Ex.vs]; exact .inl hi) (by simpa only [Ex.rd] using h) fun v G1 H1 f x p1 x1 r1 h1 => by
      obtain ⟨hT, h1⟩ := h1
      obtain ⟨T, id, rr, al, ty, fin⟩ := alt_of (E := E) hu p1.sub r1 hT hm
      exact ⟨T, id, rr, al, ty, S, G1, env, Ep, _, p1.st.less (fun i hi => by simp [Ex.vs]; exact .inr hi), p1.rz, h1, fun ws G2 H2 ds x2 r2 q2 => fin (p1.go x2) (r1.mono x2.gg) r2 q2⟩
end
end DL
set_option Elab.async false
set_option linter.all false
set_option maxRecDepth 100000
set_option maxHeartbeats 2000000
/-! Dr: x[::-1] of a list or a tuple. -/
namespace DL
open PySem PySem.Spec PyProof.Rows L2
theorem rev_pick (xs : Array Value) : ((List.range xs.size).filterMap fun (k : Nat) => xs[(((xs.size : Int) - 1) + (k : Int) * (-1)).toNat]?).toArray = xs.toList.reverse.toArray := by
  apply congrArg
  obtain ⟨l⟩ := xs
  simp only [List.size_toArray, List.getElem?_toArray]
  have h : ∀ (n : Nat) (k : Nat), k ≤ n → n = l.length → (List.range k).filterMap (fun (j : Nat) => l[(((n : Int) - 1) + (j : Int) * (-1)).toNat]?) = l.reverse.take k := by
    intro n k hk hn
    induction k with
    | zero => simp
    | succ k ih =>
      rw [List.range_succ, List.filterMap_append, ih (by omega)]
      have e : (((n : Int) - 1) + (k : Int) * (-1)).toNat = l.length - 1 - k := by omega
      have lt : k < l.length := by omega
      simp only [List.filterMap_cons, List.filterMap_nil, e]
      rw [List.getElem?_eq_getElem (by omega)]
      rw [List.take_succ, List.getElem?_reverse (by omega), List.getElem?_eq_getElem (by omega)]
      rfl
  rw [h l.length l.length (Nat.le_refl _) rfl]
  rw [List.take_of_length_le (by simp)]
section
variable {prog : Program} {w : World} {A : Around} {E : Value → Shared → Prop} {s : Shared}
theorem rev_parts {sl : Addr} {vl vu vs : Value} {n : Nat} {Q : Int × Int × Nat → Shared → Prop} (hs : s.heap.IsSliceOf sl vl vu vs) (pl : IsPart vl none) (pu : IsPart vu none) (ps : IsPart vs (some (-1)))
    (h : Q ((n : Int) - 1, -1, n) s) : wpAny (model prog w) A (Builtin.Slice.sliceApplied (.ref sl) (pure (n : Int))) Q E s := by
  obtain ⟨os, hos, -, hds⟩ := id hs
  unfold Builtin.Slice.sliceApplied Builtin.Slice.sliceFields
  refine wpAny_bind (wpAny_bind (wpAny_field hos hds (x := vl) rfl (wpAny_bind (wpAny_field hos hds (x := vu) rfl (wpAny_bind (wpAny_field hos hds (x := vs) rfl (wpAny_pure ?_)))))))
  refine wpAny_bind (HT.slicePart_ ps ?_)
  refine (show wpAny _ _ (if ((-1 : Int) == 0) = true then _ else _) _ _ s from ?_)
  rw [if_neg (by decide)]
  refine wpAny_bind (HT.slicePart_ pl (wpAny_bind (HT.slicePart_ pu (wpAny_bind (wpAny_pure ?_)))))
  have e : Builtin.Slice.slicePlaces ((n : Int) - 1) (-1) (-1) = n := by
    unfold Builtin.Slice.slicePlaces
    rw [if_neg (by decide)]
    have q : ((n : Int) - 1 - -1 - 1) / (- -1) = (n : Int) - 1 := by rw [Int.neg_neg, Int.ediv_one]; omega
    split <;> omega
  refine (show wpAny _ _ (pure (((n : Int) - 1), (-1 : Int), Builtin.Slice.slicePlaces ((n : Int) - 1) (-1) (-1))) _ _ s from ?_)
  rw [e]
  exact wpAny_pure h
theorem rev_tuple {t sl : Addr} {items : Array Value} {vl vu vs : Value} {Q : Value → Shared → Prop} (ht : IsTup s.heap t items) (hs : s.heap.IsSliceOf sl vl vu vs) (pl : IsPart vl none) (pu : IsPart vu none) (ps : IsPart vs (some (-1)))
    (h : Q (.ref s.heap.objs.size) { s with heap := s.heap.push { cls := .type "tuple", data := .seq items.toList.reverse.toArray } }) (hsz : items.size ≤ sizeLine) : wpAny (model prog w) A (getItem (.ref t) (.ref sl)) Q E s := by
  have small : sizeOk (.seq items.toList.reverse.toArray) := by
    show items.toList.reverse.toArray.size ≤ sizeLine
    rw [List.size_toArray, List.length_reverse, Array.length_toList]
    exact hsz
  obtain ⟨os, hos, hcs, hds⟩ := id hs
  have ty : s.TypeIs (.ref sl) "slice" := ⟨os, hos, hcs⟩
  unfold getItem
  try with_reducible refine wpAny_holding ?_
  first | refine wpAny_bind (wpAny_pure ?_) | skip
  refine wpAny_bind (wpAny_sequenceKey ht.typeIs (by decide) ?_)
  refine wpAny_bind (wpAny_callSpecial?_slot (name := Str.ofString "__getitem__") ht.typeIs PyProof.Rows.slot_tuple_getitem
    (wpAny_call_entry PyProof.Rows.slot_tuple_getitem ht.typeIs entry_tuple_getitem ?_ (args_tuple_getitem _ _)))
  refine (show wpAny _ _ (Builtin.Tuple.tupleItemsOf (.ref t) >>= _) _ _ s from wpAny_bind (tupleItemsOf_ ht ?_))
  refine wpAny_bind (wpAny_typeOf ty ?_)
  rw [if_pos (by decide)]
  refine wpAny_bind (rev_parts hs pl pu ps ?_)
  have no : ¬ ((((items.size : Int) - 1) == 0 && (-1 : Int) == 1 && items.size == items.size) = true) := by simp
  refine (show wpAny _ _ (if (((items.size : Int) - 1) == 0 && (-1 : Int) == 1 && items.size == items.size) = true then _ else _) _ _ s from ?_)
  rw [if_neg no, rev_pick]
  first
    | exact wpAny_bind (m := Builtin.Tuple.tupleExact _) (wpAny_newObj_type (wpAny_pure ⟨_, rfl, wpAny_pure h⟩) small)
    | exact wpAny_bind (m := Builtin.Tuple.tupleExact _) (wpAny_newObj_type (wpAny_bind (wpAny_pure (wpAny_pure ⟨_, rfl, wpAny_pure h⟩))) small)
    | exact wpAny_bind (wpAny_bind (m := Builtin.Tuple.tupleExact _) (wpAny_newObj_type (wpAny_pure (wpAny_pure ⟨_, rfl, wpAny_pure h⟩)) small))
    | exact wpAny_bind (wpAny_bind (m := Builtin.Tuple.tupleExact _) (wpAny_newObj_type (wpAny_pure ⟨_, rfl, wpAny_pure h⟩) small))
end
def tRevA (K : PySem.W.Frag) (te : TE) : TE := fun σ H Q => te σ H fun x H1 => ∃ a xs, x = .ref a ∧ ((SqL K H1 a xs ∧ ∀ p, H1 p = none → Q (.ref p) (upd H1 p (.lst xs.reverse))) ∨ (SqT K H1 a xs ∧ ∀ p o, H1 p = none → o.dict = none → Q (.ref p) (upd H1 p (.frz o (.tup xs.reverse)))))
theorem pe_revA {X : Cx} {e : Expr} {te : TE} {k : Nat} {p1 p2 p3 pos : Pos} (he : PE X e te) : PE X (.Subscript e (.Slice none none (some (.UnaryOp .USub (.Constant (.int 1) k p1) p2)) p3) pos) (tRevA X.K te) := by
  constructor
  intro pins s σ H Q I h
  refine Subscript_ (thn (he.run pins s σ H _ I h) ?_)
  rintro v s1 ⟨x, H1, I1, r1, a, xs, rfl, q⟩
  cases r1
  have step : PO X (some (.UnaryOp .USub (.Constant (.int 1) k p1) p2)) (tPart (tUn (rU fun i => .int (-i)) (tC (.int 1)))) := po_some (pe_un un_neg pe_int)
  refine wpAny_Slice (thn (po_none.run pins s1 σ H1 (fun o G => o = none ∧ G = H1) I1 ⟨rfl, rfl⟩) ?_)
  rintro vl s2 ⟨l, H2, I2, pl, rfl, rfl⟩
  refine thn (po_none.run pins s2 σ H2 (fun o G => o = none ∧ G = H2) I2 ⟨rfl, rfl⟩) ?_
  rintro vu s3 ⟨u, H3, I3, pu, rfl, rfl⟩
  refine thn (step.run pins s3 σ H3 (fun o G => o = some (-1) ∧ G = H3) I3 ⟨1, rfl, -1, rfl, rfl, rfl⟩) ?_
  rintro vs s4 ⟨o, H4, I4, ps, rfl, rfl⟩
  have I5 : Inv X pins σ H4 { s4 with heap := s4.heap.push { cls := .type "slice", data := .fields #[vl, vu, vs] } } := I4.kept (t' := s4.toks) fun b ob q => Heap.get?_push_of_some _ q
  show wpAny (model X.prog X.w) X.A (subscriptTail e (.Slice none none (some (.UnaryOp .USub (.Constant (.int 1) k p1) p2)) p3) (.ref a) (.ref s4.heap.objs.size)) (EP X pins σ Q) X.xe _
  rcases q with ⟨hx, q⟩ | ⟨hx, q⟩
  · obtain ⟨its, r, ht, hz⟩ := I5.list hx
    have el := r.length
    refine tail_any (ops := [.ref a, .ref s4.heap.objs.size]) ht.isList.typeIs (PySem.slot_list_getitem.lookup) ?_ (by with_unfolding_all rfl)
    refine wpAny_getItem_list_slice ht.isList (Heap.IsSliceOf.new _ vl vu vs) pl pu ps (by decide) ?_ (by rw [List.size_toArray]; omega)
    rw [PySem.W.krv_pick]
    refine ⟨.ref _, _, I5.laid (t' := s4.toks) (o := .lst xs.reverse) (fun b ob q => Heap.get?_push_of_some _ q) (Nat.le_refl _) ⟨by rw [List.length_reverse]; exact hz, _, 0, r.reverse, Heap.get?_push_size _ rfl⟩, rfl, q _ (I5.hok.fresh (Nat.le_refl _))⟩
  · obtain ⟨its, r, ht, hz⟩ := I5.tuple hx
    have el := r.length
    refine tail_any (ops := [.ref a, .ref s4.heap.objs.size]) ht.typeIs (PyProof.Rows.slot_tuple_getitem.lookup) ?_ (by with_unfolding_all rfl)
    refine rev_tuple ht (Heap.IsSliceOf.new _ vl vu vs) pl pu ps ?_ (by rw [List.size_toArray]; omega)
    exact lay_tup I5 r.reverse (by rw [List.length_reverse]; exact hz) q
end DL
set_option Elab.async false
set_option linter.all false
set_option maxRecDepth 100000
set_option maxHeartbeats 2000000
/-! D6: targets, comprehensions. -/
namespace DL
open PySem PySem.Spec PyProof.Rows L2

mutual
def Tg.sl : Tg → List Nat
  | .nm i => [i] | .tp ts => ts.sl
def Tgs.sl : Tgs → List Nat
  | .nil => [] | .cons t r => t.sl ++ r.sl
end
def Tgs.len : Tgs → Nat
  | .nil => 0 | .cons _ r => r.len + 1
mutual
def tgR (K : PySem.W.Frag) : Tg → TG
  | .nm i => gName i | .tp ts => gTup K ts.len (tgsR K ts)
def tgsR (K : PySem.W.Frag) : Tgs → TGs
  | .nil => gNil | .cons t r => gCons (tgR K t) (tgsR K r)
end
mutual
theorem tg_ok {K : PySem.W.Frag} {G H : Hp} (P : L2.St → Env → Prop) (s : Sub G H) : ∀ (t : Tg) (hP : ∀ i ∈ t.sl, ∀ σ env v d, R K G v d → P σ env → P (σ.set i (some v)) (env.set i (.sh d))) {d : PyData} {v : V} {σ : L2.St} {env : Env} {k : Env → Prop} {Q : L2.St → Hp → Prop},
    R K G v d → P σ env → t.bnd d env k → (∀ σ' env', P σ' env' → k env' → Q σ' H) → tgR K t v σ H Q
  | .nm i, hP, d, v, σ, env, k, Q, r, p, h, q => q _ _ (hP i (by simp [Tg.sl]) _ _ _ _ r p) (by simpa only [Tg.bnd] using h)
  | .tp ts, hP, .tuple ds, v, σ, env, k, Q, r, p, h, q => by
    obtain ⟨a, xs, rfl, h1, q1⟩ := r.tup'
    have h' : ts.bnd ds env k := by simpa only [Tg.bnd] using h
    refine ⟨a, xs, rfl, s.t h1, ?_, tgs_ok P s ts (fun i hi => hP i (by simpa [Tg.sl] using hi)) q1 p h' q⟩
    rw [q1.length]
    exact tgs_len h'
  | .tp ts, hP, .none, v, σ, env, k, Q, r, p, h, q => by simp only [Tg.bnd] at h
  | .tp ts, hP, .bool _, v, σ, env, k, Q, r, p, h, q => by simp only [Tg.bnd] at h
  | .tp ts, hP, .int _, v, σ, env, k, Q, r, p, h, q => by simp only [Tg.bnd] at h
  | .tp ts, hP, .str _, v, σ, env, k, Q, r, p, h, q => by simp only [Tg.bnd] at h
  | .tp ts, hP, .list _, v, σ, env, k, Q, r, p, h, q => by simp only [Tg.bnd] at h
  | .tp ts, hP, .dict _, v, σ, env, k, Q, r, p, h, q => by simp only [Tg.bnd] at h
theorem tgs_ok {K : PySem.W.Frag} {G H : Hp} (P : L2.St → Env → Prop) (s : Sub G H) : ∀ (ts : Tgs) (hP : ∀ i ∈ ts.sl, ∀ σ env v d, R K G v d → P σ env → P (σ.set i (some v)) (env.set i (.sh d))) {ds : List PyData} {vs : List V} {σ : L2.St} {env : Env} {k : Env → Prop} {Q : L2.St → Hp → Prop},
    RAll K G vs ds → P σ env → ts.bnd ds env k → (∀ σ' env', P σ' env' → k env' → Q σ' H) → tgsR K ts vs σ H Q
  | .nil, hP, [], vs, σ, env, k, Q, r, p, h, q => by
    cases r
    exact ⟨rfl, q _ _ p (by simpa only [Tgs.bnd] using h)⟩
  | .nil, hP, _ :: _, vs, σ, env, k, Q, r, p, h, q => by simp only [Tgs.bnd] at h
  | .cons t r, hP, [], vs, σ, env, k, Q, ra, p, h, q => by simp only [Tgs.bnd] at h
  | .cons t r, hP, d :: ds, _, σ, env, k, Q, .cons r1 r2, p, h, q => by
    have h' : t.bnd d env fun env' => r.bnd ds env' k := by simpa only [Tgs.bnd] using h
    exact ⟨_, _, rfl, tg_ok P s t (fun i hi => hP i (by simp [Tgs.sl]; exact .inl hi)) r1 p h' fun σ' env' p' h2 => tgs_ok P s r (fun i hi => hP i (by simp [Tgs.sl]; exact .inr hi)) r2 p' h2 q⟩
theorem tgs_len : ∀ {ts : Tgs} {ds : List PyData} {env : Env} {k : Env → Prop}, ts.bnd ds env k → ds.length = ts.len
  | .nil, [], env, k, h => rfl
  | .nil, _ :: _, env, k, h => by simp only [Tgs.bnd] at h
  | .cons t r, [], env, k, h => by simp only [Tgs.bnd] at h
  | .cons t r, d :: ds, env, k, h => by
    have h' : t.bnd d env fun env' => r.bnd ds env' k := by simpa only [Tgs.bnd] using h
    obtain ⟨env', h2⟩ := tg_some h'
    rw [List.length_cons, tgs_len h2, Tgs.len]
theorem tg_some : ∀ {t : Tg} {d : PyData} {env : Env} {k : Env → Prop}, t.bnd d env k → ∃ env', k env'
  | .nm i, d, env, k, h => ⟨_, by simpa only [Tg.bnd] using h⟩
  | .tp ts, .tuple ds, env, k, h => tgs_some (by simpa only [Tg.bnd] using h)
  | .tp ts, .none, env, k, h => by simp only [Tg.bnd] at h
  | .tp ts, .bool _, env, k, h => by simp only [Tg.bnd] at h
  | .tp ts, .int _, env, k, h => by simp only [Tg.bnd] at h
  | .tp ts, .str _, env, k, h => by simp only [Tg.bnd] at h
  | .tp ts, .list _, env, k, h => by simp only [Tg.bnd] at h
  | .tp ts, .dict _, env, k, h => by simp only [Tg.bnd] at h
theorem tgs_some : ∀ {ts : Tgs} {ds : List PyData} {env : Env} {k : Env → Prop}, ts.bnd ds env k → ∃ env', k env'
  | .nil, [], env, k, h => ⟨_, by simpa only [Tgs.bnd] using h⟩
  | .nil, _ :: _, env, k, h => by simp only [Tgs.bnd] at h
  | .cons t r, [], env, k, h => by simp only [Tgs.bnd] at h
  | .cons t r, d :: ds, env, k, h => by
    have h' : t.bnd d env fun env' => r.bnd ds env' k := by simpa only [Tgs.bnd] using h
    obtain ⟨env', h2⟩ := tg_some h'
    exact tgs_some h2
end

/-! ### a comprehension -/
theorem wipe_get {σ : L2.St} : ∀ {vs : List Nat} {i : Nat}, i ∉ vs → (wipe σ vs)[i]? = σ[i]?
  | [], i, h => rfl
  | v :: vs, i, h => by
    simp only [List.mem_cons, not_or] at h
    unfold wipe
    rw [List.getElem?_set_ne (fun e => h.1 e.symm)]
    exact wipe_get h.2
theorem wipeE_get {env : Env} : ∀ {vs : List Nat} {i : Nat}, i ∉ vs → (wipeE env vs)[i]? = env[i]?
  | [], i, h => rfl
  | v :: vs, i, h => by
    simp only [List.mem_cons, not_or] at h
    unfold wipeE
    rw [List.getElem?_set_ne (fun e => h.1 e.symm)]
    exact wipeE_get h.2
theorem wipeE_length {env : Env} : ∀ vs : List Nat, (wipeE env vs).length = env.length
  | [] => rfl
  | v :: vs => by unfold wipeE; rw [List.length_set, wipeE_length vs]
theorem wipeE_un {env : Env} : ∀ {vs : List Nat} {i : Nat} {s : Sl}, i ∈ vs → (wipeE env vs)[i]? = some s → s = .un
  | v :: vs, i, s, h, e => by
    unfold wipeE at e
    by_cases hi : v = i
    · subst hi
      by_cases hl : v < (wipeE env vs).length
      · rw [List.getElem?_set_self hl] at e; cases e; rfl
      · rw [List.getElem?_eq_none (by simpa using hl)] at e; cases e
    · rw [List.getElem?_set_ne hi] at e
      exact wipeE_un ((List.mem_cons.mp h).resolve_left fun z => hi z.symm) e
theorem wipe_set {σ : L2.St} {o : Option V} : ∀ {vs : List Nat} {i : Nat}, i ∈ vs → wipe (σ.set i o) vs = wipe σ vs
  | v :: vs, i, h => by
    unfold wipe
    by_cases hi : i ∈ vs
    · rw [wipe_set hi]
    · have e : i = v := (List.mem_cons.mp h).resolve_right hi
      subst e
      refine List.ext_getElem? fun j => ?_
      by_cases hj : i = j
      · subst hj
        by_cases hl : i < σ.length
        · rw [List.getElem?_set_self (by rw [wipe_length, List.length_set]; exact hl), List.getElem?_set_self (by rw [wipe_length]; exact hl)]
        · rw [List.getElem?_eq_none (by rw [List.length_set, wipe_length, List.length_set]; omega), List.getElem?_eq_none (by rw [List.length_set, wipe_length]; omega)]
      · rw [List.getElem?_set_ne hj, List.getElem?_set_ne hj]
        exact wipe_set_ne hj vs
where
  wipe_set_ne {σ : L2.St} {o : Option V} {i j : Nat} (hj : i ≠ j) : ∀ vs : List Nat, (wipe (σ.set i o) vs)[j]? = (wipe σ vs)[j]?
    | [] => by unfold wipe; rw [List.getElem?_set_ne hj]
    | w :: ws => by
      unfold wipe
      by_cases hw : w = j
      · subst hw
        by_cases hl : w < σ.length
        · rw [List.getElem?_set_self (by rw [wipe_length, List.length_set]; exact hl), List.getElem?_set_self (by rw [wipe_length]; exact hl)]
        · rw [List.getElem?_eq_none (by rw [List.length_set, wipe_length, List.length_set]; omega), List.getElem?_eq_none (by rw [List.length_set, wipe_length]; omega)]
      · rw [List.getElem?_set_ne hw, List.getElem?_set_ne hw]
        exact wipe_set_ne hj ws
theorem wipe_wipe {σ : L2.St} : ∀ {vs ws : List Nat}, (∀ i ∈ ws, i ∈ vs) → wipe (wipe σ ws) vs = wipe σ vs
  | vs, [], _ => rfl
  | vs, w :: ws, h => by
    show wipe ((wipe σ ws).set w none) vs = _
    rw [wipe_set (h w List.mem_cons_self)]
    exact wipe_wipe fun i hi => h i (List.mem_cons_of_mem _ hi)

theorem sd_rev {X : Cx} {C : Nat → Fs} {E : XK} {e : Expr} {y : Ex} {k : Nat} {p1 p2 p3 pos : Pos} (he : PE X e (tE X C E y)) : PE X (.Subscript e (.Slice none none (some (.UnaryOp .USub (.Constant (.int 1) k p1) p2)) p3) pos) (tE X C E (.rev y)) :=
  PE.imp (pe_revA he) fun σ H Qh ⟨S, G, env, Ep, Q, p, h⟩ =>
    p.use (a := y) (fun i hi => by simpa [Ex.vs] using hi) (by simpa only [Ex.rd] using h) fun v G1 H1 f x p1 x1 r1 h1 => by
      cases x with
      | list xs =>
        obtain ⟨a, us, rfl, h2, q⟩ := r1.lst'
        exact ⟨a, us, rfl, .inl ⟨SqL.of (p1.sub _ _ h2), fun b n => p1.newL n q.reverse h1⟩⟩
      | tuple xs =>
        obtain ⟨a, us, rfl, h2, q⟩ := r1.tup'
        exact ⟨a, us, rfl, .inr ⟨p1.sub.t h2, fun b o n hd => p1.newT n hd q.reverse h1⟩⟩
      | none => exact False.elim h1
      | bool b => exact False.elim h1
      | int i => exact False.elim h1
      | str x => exact False.elim h1
      | dict x => exact False.elim h1
theorem rg_ints {K : PySem.W.Frag} {G : Hp} (a : Int) : ∀ l : List Nat, RAll K G (l.map fun i => V.int (a + (i : Nat))) (l.map fun i => PyData.int (a + (i : Nat)))
  | [] => .nil
  | i :: r => .cons (.int _) (rg_ints a r)
theorem sd_lrng {X : Cx} {C : Nat → Fs} {E : XK} {a : Expr} {y : Ex} {p p2 p3 pos : Pos} (hc : X.calm = true) (hg : Gl X "list") (hm : X.mg "list" = none) (hg2 : Gl X "range") (hm2 : X.mg "range" = none) (ha : PE X a (tE X C E y)) (ns : ∀ v p, a ≠ .Starred v p) :
    PE X (.Call (.Name "list" p) [.Call (.Name "range" p2) [a] [] p3] [] pos) (tE X C E (.lrng y)) :=
  PE.imp (pe_listRg hc hg hm (prg_1 hg2 hm2 ha (star_of ns))) fun σ H Qh ⟨S, G, env, Ep, Q, p, h⟩ =>
    p.use (a := y) (fun i hi => by simpa [Ex.vs] using hi) (by simpa only [Ex.rd] using h) fun v G1 H1 f x p1 x1 r1 h1 => by
      obtain ⟨n, rfl, b1, b2, q⟩ := isInt_iff h1
      refine ⟨n, r1.int', ⟨by decide, by decide, by omega, by omega, by omega⟩, fun b nb => p1.newL nb (ds := intsD 0 n.toNat) ?_ q⟩
      unfold rgV intsD
      rw [Int.sub_zero]
      exact rg_ints 0 _
theorem sd_star {X : Cx} {C : Nat → Fs} {E : XK} {a b : Expr} {y z : Ex} {k : Nat} {p pos : Pos} (ha : PE X a (tE X C E y)) (hb : PE X b (tE X C E z)) (ns : ∀ v p, b ≠ .Starred v p) :
    PE X (.Tuple [.Starred a p, b] k pos) (tE X C E (.star y z)) :=
  PE.imp (pe_tupF (StX.pa_star ha (pa_cons hb pa_nil (star_of ns)))) fun σ H Qh ⟨S, G, env, Ep, Q, p, h⟩ =>
    p.use (a := y) (fun i hi => by simp [Ex.vs]; exact .inl hi) (by simpa only [Ex.rd] using h) fun v G1 H1 f x p1 x1 r1 h1 => by
      cases x with
      | tuple xs =>
        obtain ⟨a, us, rfl, h2, q⟩ := r1.tup'
        refine ⟨a, us, rfl, .inl (p1.sub.t h2), p1.use (a := z) (fun i hi => by simp [Ex.vs]; exact .inr hi) h1 fun w G2 H2 f2 d p2 x2 r2 h3 => ?_⟩
        refine ⟨?_, fun a o n hd => p2.newT n hd ((q.mono x2.gg).append (.cons r2 .nil)) h3.2⟩
        have := h3.1
        have := q.length
        refine lim_size ?_
        simp only [List.length_append, List.length_cons, List.length_nil]
        omega
      | none => exact False.elim h1
      | bool b => exact False.elim h1
      | int i => exact False.elim h1
      | str x => exact False.elim h1
      | dict x => exact False.elim h1
      | list x => exact False.elim h1
/-! ### sorted(dict(pairs)) -/
theorem insI_mem {k : Int} : ∀ {l : List Int} {x : Int}, x ∈ insI k l ↔ x = k ∨ x ∈ l
  | [], x => by simp [insI]
  | y :: r, x => by
    unfold insI
    split
    · simp
    · split
      · rename_i h; subst h; simp
      · rw [List.mem_cons, insI_mem (l := r), List.mem_cons]
        constructor
        · rintro (h | h | h)
          · exact .inr (.inl h)
          · exact .inl h
          · exact .inr (.inr h)
        · rintro (h | h | h)
          · exact .inr (.inl h)
          · exact .inl h
          · exact .inr (.inr h)
theorem insI_asc {k : Int} : ∀ {l : List Int}, l.Pairwise (· < ·) → (insI k l).Pairwise (· < ·)
  | [], _ => by simp [insI]
  | y :: r, h => by
    obtain ⟨h1, h2⟩ := List.pairwise_cons.mp h
    unfold insI
    split
    · rename_i hk
      refine List.pairwise_cons.mpr ⟨fun z hz => ?_, h⟩
      rcases List.mem_cons.mp hz with rfl | hz
      · exact hk
      · have := h1 z hz; omega
    · split
      · exact h
      · refine List.pairwise_cons.mpr ⟨fun z hz => ?_, insI_asc h2⟩
        rcases insI_mem.mp hz with rfl | hz
        · omega
        · exact h1 z hz
theorem setI_mem : ∀ {ks : List Int} {x : Int}, x ∈ setI ks ↔ x ∈ ks
  | [], x => by simp [setI]
  | k :: r, x => by
    unfold setI
    rw [insI_mem, setI_mem, List.mem_cons]
theorem setI_asc : ∀ {ks : List Int}, (setI ks).Pairwise (· < ·)
  | [] => .nil
  | k :: r => insI_asc setI_asc
theorem setI_of {ks ys zs : List Int} (nd : zs.Nodup) (m : ∀ k, k ∈ zs ↔ k ∈ ks) (p : ys.Perm zs) (so : ys.Pairwise (· ≤ ·)) : ys = setI ks := by
  have nd2 : (setI ks).Nodup := setI_asc.imp fun {a b} h => Int.ne_of_lt h
  have pm : ys.Perm (setI ks) := (List.perm_ext_iff_of_nodup (p.nodup_iff.mpr nd) nd2).mpr fun x => by rw [p.mem_iff, m, setI_mem]
  exact List.Perm.eq_of_pairwise (le := fun a b => a ≤ b) (fun a b _ _ h1 h2 => Int.le_antisymm h1 h2) so (setI_asc.imp fun {a b} h => Int.le_of_lt h) pm
theorem put_keys {acc : List (Key × V)} {ka : List Int} {k : Int} {v : V} (h : acc.map (·.1) = ka.map Sum.inl) : (putK acc (.inl k) v).map (·.1) = (if k ∈ ka then ka else ka ++ [k]).map Sum.inl := by
  have e : (acc.any fun kv => decide (kv.1 = .inl k)) = decide (k ∈ ka) := by
    rw [Bool.eq_iff_iff, List.any_eq_true, decide_eq_true_eq]
    constructor
    · rintro ⟨p, hp, e⟩
      have e := of_decide_eq_true e
      have : (Sum.inl k : Key) ∈ ka.map Sum.inl := by rw [← h, ← e]; exact List.mem_map_of_mem hp
      obtain ⟨j, hj, e2⟩ := List.mem_map.mp this
      cases e2
      exact hj
    · intro hk
      have : (Sum.inl k : Key) ∈ acc.map (·.1) := by rw [h]; exact List.mem_map_of_mem hk
      obtain ⟨p, hp, e2⟩ := List.mem_map.mp this
      exact ⟨p, hp, decide_eq_true e2⟩
  unfold putK
  rw [e]
  by_cases z : k ∈ ka
  · rw [if_pos (decide_eq_true z), if_pos z, List.map_map, ← h]
    refine List.map_congr_left fun p _ => ?_
    show (if p.1 = .inl k then (p.1, v) else p).1 = p.1
    split <;> rfl
  · rw [if_neg (by simpa using z), if_neg z, List.map_append, h, List.map_append]
    rfl
theorem merge_keys : ∀ {more acc : List (Key × V)} {ka km : List Int}, acc.map (·.1) = ka.map Sum.inl → more.map (·.1) = km.map Sum.inl → ka.Nodup → ∃ ks : List Int, (mergeK acc more).map (·.1) = ks.map Sum.inl ∧ ks.Nodup ∧ (∀ k, k ∈ ks ↔ k ∈ ka ∨ k ∈ km) ∧ ks.length ≤ ka.length + km.length
  | [], acc, ka, km, h1, h2, nd => by
    have : km = [] := by
      have := congrArg List.length h2
      simp at this
      exact List.eq_nil_of_length_eq_zero (by simpa using this.symm)
    subst this
    exact ⟨ka, h1, nd, fun k => by simp, by simp⟩
  | (k0, v) :: more, acc, ka, [], h1, h2, nd => by simp at h2
  | (k0, v) :: more, acc, ka, k :: km, h1, h2, nd => by
    simp only [List.map_cons, List.cons.injEq] at h2
    obtain ⟨rfl, h2⟩ := h2
    have nd2 : (if k ∈ ka then ka else ka ++ [k]).Nodup := by
      split
      · exact nd
      · rename_i z
        exact List.nodup_append.mpr ⟨nd, by simp, fun a ha b hb e => z (by rw [List.mem_singleton.mp hb] at e; rw [← e]; exact ha)⟩
    obtain ⟨ks, q1, q2, q3, q4⟩ := merge_keys (more := more) (put_keys (v := v) h1) h2 nd2
    refine ⟨ks, q1, q2, fun x => ?_, ?_⟩
    · rw [q3, List.mem_cons]
      by_cases z : k ∈ ka
      · rw [if_pos z]
        constructor
        · rintro (h | h)
          · exact .inl h
          · exact .inr (.inr h)
        · rintro (h | rfl | h)
          · exact .inl h
          · exact .inl z
          · exact .inr h
      · rw [if_neg z, List.mem_append, List.mem_singleton]
        constructor
        · rintro ((h | h) | h)
          · exact .inl h
          · exact .inr (.inl h)
          · exact .inr (.inr h)
        · rintro (h | h | h)
          · exact .inl (.inl h)
          · exact .inl (.inr h)
          · exact .inr h
    · simp only [List.length_cons]
      split at q4
      · omega
      · rw [List.length_append, List.length_singleton] at q4
        omega
theorem pairs_of {K : PySem.W.Frag} {G : Hp} : ∀ {xs : List PyData} {us : List V} {ks : List Int}, RAll K G us xs → pairKeys xs = some ks → ∃ (ps : List Addr) (kvs : List (Key × V)), us = ps.map V.ref ∧ Paired (fun p kv => SqT K G p [kV kv.1, kv.2]) ps kvs ∧ kvs.map (·.1) = ks.map Sum.inl
  | [], us, ks, r, h => by
    cases r
    cases h
    exact ⟨[], [], rfl, .nil, rfl⟩
  | x :: xs, us, ks, r, h => by
    cases r with
    | cons r0 r =>
      match x, h, r0 with
      | .tuple [.int k, d], h, r0 =>
        simp only [pairKeys, Option.map_eq_some_iff] at h
        obtain ⟨ks', h1, rfl⟩ := h
        obtain ⟨ps, kvs, rfl, q1, q2⟩ := pairs_of r h1
        obtain ⟨a, ws, rfl, s1, rw⟩ := r0.tup'
        obtain ⟨v, w, rfl, ra, rb⟩ := rw.two'
        rw [ra.int'] at s1
        exact ⟨a :: ps, (.inl k, w) :: kvs, rfl, .cons s1 q1, by rw [List.map_cons, q2]; rfl⟩
theorem Paired.imp2 {α β : Type} {F F' : α → β → Prop} (h : ∀ a b, F a b → F' a b) : ∀ {xs : List α} {ys : List β}, Paired F xs ys → Paired F' xs ys
  | _, _, .nil => .nil
  | _, _, .cons a t => .cons (h _ _ a) (Paired.imp2 h t)
theorem sd_sdk {X : Cx} {C : Nat → Fs} {E : XK} {a : Expr} {y : Ex} {p p2 p3 pos : Pos} (hc : X.calm = true) (hg : Gl X "sorted") (hm : X.mg "sorted" = none) (hg2 : Gl X "dict") (hm2 : X.mg "dict" = none) (ha : PE X a (tE X C E y)) (ns : ∀ v p, a ≠ .Starred v p) :
    PE X (.Call (.Name "sorted" p) [.Call (.Name "dict" p2) [a] [] p3] [] pos) (tE X C E (.sdk y)) :=
  PE.imp (pe_callB (call_sortedDI hc) hg hm (by decide +kernel) (pa_cons (pe_callTy (call_dictP hc) hg2 hm2 (by decide +kernel) (pa_cons ha pa_nil (star_of ns)) (by decide) (by decide) (star_of ns) (by rfl)) pa_nil (by rfl)) (by decide) (by decide) (by rfl) (by rfl)) fun σ H Qh ⟨S, G, env, Ep, Q, p, h⟩ =>
    p.use (a := y) (fun i hi => by simpa [Ex.vs] using hi) (by simpa only [Ex.rd] using h) fun v G1 H1 f x p1 x1 r1 h1 => by
      cases x with
      | list xs =>
        obtain ⟨ks, hk, h64, q⟩ := h1
        obtain ⟨a, us, rfl, h2, q2⟩ := r1.lst'
        obtain ⟨ps, kvs, rfl, q3, q4⟩ := pairs_of q2 hk
        obtain ⟨zs, m1, m2, m3, m4⟩ := merge_keys (acc := []) (ka := []) rfl q4 .nil
        refine ⟨a, ps, kvs, rfl, SqL.of (p1.sub _ _ h2), Paired.imp2 (fun p kv s => p1.sub.t s) q3, fun b nb => ?_⟩
        refine ⟨b, mergeK [] kvs, zs, rfl, .inl upd_same, m1, by simp at m4; omega, fun ys c hp hs nc => ?_⟩
        have e : ys = setI ks := setI_of m2 (fun k => by rw [m3]; simp) hp hs
        have p2 := p1.go (.newO p1.st.sub p1.st.src (o := .dK (mergeK [] kvs)) nb)
        refine p2.newL nc (ds := (setI ks).map PyData.int) ?_ q
        rw [e]
        have : ∀ l : List Int, RAll X.K G1 (l.map V.int) (l.map PyData.int) := fun l => by
          induction l with
          | nil => exact .nil
          | cons i r ih => exact .cons (.int i) ih
        exact this _
      | none => exact False.elim h1
      | bool b => exact False.elim h1
      | int i => exact False.elim h1
      | str x => exact False.elim h1
      | dict x => exact False.elim h1
      | tuple x => exact False.elim h1
def Tg.isTp : Tg → Bool
  | .tp _ => true | .nm _ => false
/-- an item that may be a tuple that only its target sees -/
theorem tg_okW {K : PySem.W.Frag} {G H : Hp} (P : L2.St → Env → Prop) (s : Sub G H) (t : Tg) (hP : ∀ i ∈ t.sl, ∀ σ env v d, R K G v d → P σ env → P (σ.set i (some v)) (env.set i (.sh d))) {wk : Bool} (hw : wk = true → t.isTp = true) {d : PyData} {v : V} {σ : L2.St} {env : Env} {k : Env → Prop} {Q : L2.St → Hp → Prop}
    (r : RW wk K G v d) (p : P σ env) (h : t.bnd d env k) (q : ∀ σ' env', P σ' env' → k env' → Q σ' H) : tgR K t v σ H Q := by
  rcases r with r | ⟨e, a, xs, ds, rfl, rfl, h1, q1⟩
  · exact tg_ok P s t hP r p h q
  · cases t with
    | nm i => cases hw e
    | tp ts =>
      have h' : ts.bnd ds env k := by simpa only [Tg.bnd] using h
      refine ⟨a, xs, rfl, s.t h1, ?_, tgs_ok P s ts (fun i hi => hP i (by simpa [Tg.sl] using hi)) q1 p h' q⟩
      rw [q1.length]
      exact tgs_len h'
section
variable {X : Cx} {C : Nat → Fs} {E : XK} {S : Sx} {G H G' H' : Hp} {σ : L2.St} {env : Env} {vs : List Nat} {Ep : Str → Prop} {Q : Bool → PyData → Prop} {Qh : VK}

theorem StE.wipe (st : StE X.K S G H σ env vs) (own : List Nat) : StE X.K S G H (wipe σ own) (wipeE env own) vs := by
  refine ⟨st.sub, st.src, fun i hi s e => ?_, by rw [wipe_length, wipeE_length]; exact st.len⟩
  by_cases h : i ∈ own
  · rw [wipeE_un h e]; trivial
  · rw [wipe_get h]
    exact st.at_ i hi s (by rw [← wipeE_get h]; exact e)
theorem StE.set (st : StE X.K S G H σ env vs) {i : Nat} {v : V} {d : PyData} (r : R X.K G v d) : StE X.K S G H (σ.set i (some v)) (env.set i (.sh d)) vs := by
  refine ⟨st.sub, st.src, fun j hj s e => ?_, by rw [List.length_set, List.length_set]; exact st.len⟩
  by_cases h : i = j
  · subst h
    by_cases hl : i < env.length
    · rw [List.getElem?_set_self hl] at e
      cases e
      exact ⟨v, by rw [List.getElem?_set_self (by rw [st.len]; exact hl)], r⟩
    · rw [List.getElem?_eq_none (by simpa using hl)] at e; cases e
  · rw [List.getElem?_set_ne h] at e ⊢
    exact st.at_ j hj s e
theorem nsrc_fresh (so : SrcOk S G H) {a : Addr} (h : H a = none) : nsrc S a := fun sa ca e => by
  obtain ⟨_, _, _, ns, l, m, t, h1, h2, _⟩ := so sa ca e
  exact ⟨(by rintro rfl; rw [h1] at h; cases h), (by rintro rfl; rw [h2] at h; cases h)⟩
/-- the same with a change of what is not of it -/
theorem Ext.but (x : Ext S G H G' H') (so : SrcOk S G H) {a : Addr} {o : HO} (n : H a = none) (g : G' a = none) : Ext S G H G' (upd H' a o) :=
  ⟨x.gg, x.gh.upr g, fun b u e ns => by rw [upd_ne (ne_of_none e n)]; exact x.kp b u e ns, x.nw, fun sa ca e => by
    obtain ⟨g1, g2, ne, ns, l, m, t, h1, h2, r⟩ := x.src sa ca e
    obtain ⟨_, _, _, ns0, l0, m0, t0, k1, k2, _⟩ := so sa ca e
    exact ⟨g1, g2, ne, ns, l, m, t, by rw [upd_ne (ne_of_none k1 n)]; exact h1, by rw [upd_ne (ne_of_none k2 n)]; exact h2, r⟩⟩

/-- a clause's tests -/
def tTs (X : Cx) (C : Nat → Fs) (E : XK) : Exs → TT
  | .nil => tYes
  | .cons e _ => tT X C E e
abbrev stpC (C : Nat → Fs) (t : Tg) (own : List Nat) (cs : Exs) (e : Ex) (env : Env) : PyData → List PyData → (List PyData → Prop) → Prop := fun x acc k => t.bnd x (wipeE env own) fun env' => cs.rdt C (fun _ => False) env' fun b =>
  if b = true then e.rd C (fun _ => False) env' fun _ d => k (acc ++ [d]) else k acc
theorem foldC_cons {step : PyData → List PyData → (List PyData → Prop) → Prop} {x : PyData} {xs acc : List PyData} {Q : List PyData → Prop} (h : foldC step (x :: xs) acc Q) : step x acc fun acc' => foldC step xs acc' Q := h
theorem sd_comp {tg elt iter : Expr} {ifs : List Expr} {scope : Scope} {own : List (Str × Nat)} {pos : Pos} {t : Tg} {it : It} {cs : Exs} {e : Ex} (hc : X.calm = true) (hN : X.N.Nodup) (ok : BlkOk X.N X.env.scope scope own) (hsl : ∀ i ∈ t.sl, i ∈ own.map (·.2)) (hwk : it.wk = true → t.isTp = true) (hcs : cs = .nil ∨ ∃ c, cs = .cons c .nil)
    (hi : PI X tg iter (tI X C E it))
    (hg : ∀ (s : Shared) (H : Hp) (C' : Addr) (cl : List (Str × Addr)) (fp : List Addr), PG (X.blk s H scope (compEnvC scope cl C' X.env) fp) tg (tgR X.K t))
    (ht : ∀ (s : Shared) (H : Hp) (C' : Addr) (cl : List (Str × Addr)) (fp : List Addr), PTs (X.blk s H scope (compEnvC scope cl C' X.env) fp) ifs (tTs X C E0 cs))
    (he : ∀ (s : Shared) (H : Hp) (C' : Addr) (cl : List (Str × Addr)) (fp : List Addr), PE (X.blk s H scope (compEnvC scope cl C' X.env) fp) elt (tE X C E0 e))
    (hs : ∀ x, foldedSetIterable iter X.env x = pure x) :
    (∀ {σ H Q}, tE X C E (.comp e t it cs (own.map (·.2))) σ H Q → tLc (tI X C E it) (tgR X.K t) (tTs X C E0 cs) (tE X C E0 e) (own.map (·.2)) σ H Q) := by
  intro σ H Qh ⟨S, G, env, Ep, Q, p, h⟩
  refine ⟨S, G, env, Ep, _, p.st.less (fun i hi => by simp [Ex.vs]; exact .inl hi), p.rz, by simpa only [Ex.rd] using h, fun J lf xs G1 H1 x1 wk hq D hD => ?_⟩
  obtain ⟨hlen, hf⟩ := hq
  have p1 := p.go x1
  have gD : G1 D = none := by
    cases z : G1 D with
    | none => rfl
    | some u => rw [x1.gh _ _ z] at hD; cases hD
  have nD : nsrc S D := nsrc_fresh x1.src hD
  refine ⟨fun i m Hi => m + i = xs.length ∧ ∃ G2 ws acc, Ext S G1 H1 G2 Hi ∧ Hi D = some (.lst ws) ∧ G2 D = none ∧ RAll X.K G2 ws acc ∧ acc.length ≤ i ∧ foldC (stpC C t (own.map (·.2)) cs e env) (xs.drop i) acc fun L => Q true (.list L), ⟨xs.length, by simp, G1, [], [], .newO x1.gh x1.src hD, upd_same, gD, .nil, Nat.le_refl _, hf⟩, ?_⟩
  rintro i m Hi ⟨hm, G2, ws, acc, x2, hDi, gD2, ra, hacc, hfold⟩
  have p2 := p1.go x2
  obtain ⟨wgo, wstop⟩ := wk G1 (.inl rfl) G2 Hi x2.gg x2.gh x2.src
  by_cases hi : i < xs.length
  · have ex : xs[i]? = some xs[i] := List.getElem?_eq_getElem hi
    obtain ⟨go, yld⟩ := wgo i _ ex
    refine .inr ⟨go, fun H5 => ∃ G5 ws5 acc5, Ext S G1 H1 G5 H5 ∧ H5 D = some (.lst ws5) ∧ G5 D = none ∧ RAll X.K G5 ws5 acc5 ∧ acc5.length ≤ i + 1 ∧ foldC (stpC C t (own.map (·.2)) cs e env) (xs.drop (i + 1)) acc5 fun L => Q true (.list L), fun H5 n5 => ⟨m - 1, by omega, by omega, n5⟩, fun v H3 y => ?_⟩
    obtain ⟨G3, x3, rv⟩ := yld v H3 y
    rw [List.drop_eq_getElem_cons hi] at hfold
    have hst := foldC_cons hfold
    have p3 := p2.go x3
    have hD3 : H3 D = some (.lst ws) := x3.kp _ _ hDi nD
    have gD3 : G3 D = none := (x3.nw D (by rw [hDi]; rfl)).trans gD2
    have x13 : Ext S G1 H1 G3 H3 := x2.trans x1.src x3
    refine tg_okW (K := X.K) (G := G3) (H := H3) (fun σ' env' => StE X.K S G3 H3 σ' env' (Ex.comp e t it cs (own.map (·.2))).vs ∧ L2.wipe σ' (own.map (·.2)) = L2.wipe σ (own.map (·.2))) x3.gh t
      (fun j hj σ' env' v' d' r' hp => ⟨hp.1.set r', by rw [wipe_set (hsl j hj)]; exact hp.2⟩) hwk rv ⟨p3.st.wipe _, wipe_wipe fun _ h => h⟩ hst fun σ4 env4 hp4 hst4 => ?_
    obtain ⟨st4, hw4⟩ := hp4
    refine ⟨hw4, ?_⟩
    -- behind the test
    have after : ∀ (b : Bool) (G5 : Hp) (H5 : Hp), Ext S G3 H3 G5 H5 → (if b = true then e.rd C (fun _ => False) env4 fun _ d => (foldC (stpC C t (own.map (·.2)) cs e env) (xs.drop (i + 1)) (acc ++ [d]) fun L => Q true (.list L)) else (foldC (stpC C t (own.map (·.2)) cs e env) (xs.drop (i + 1)) acc fun L => Q true (.list L))) →
        (if b = true then tE X C E0 e σ4 H5 fun y H6 => ∃ acc', H6 D = some (.lst acc') ∧ acc'.length < sizeLine ∧ ∃ G5 ws5 acc5, Ext S G1 H1 G5 (upd H6 D (.lst (acc' ++ [y]))) ∧ (upd H6 D (.lst (acc' ++ [y]))) D = some (.lst ws5) ∧ G5 D = none ∧ RAll X.K G5 ws5 acc5 ∧ acc5.length ≤ i + 1 ∧ foldC (stpC C t (own.map (·.2)) cs e env) (xs.drop (i + 1)) acc5 fun L => Q true (.list L)
          else ∃ G6 ws5 acc5, Ext S G1 H1 G6 H5 ∧ H5 D = some (.lst ws5) ∧ G6 D = none ∧ RAll X.K G6 ws5 acc5 ∧ acc5.length ≤ i + 1 ∧ foldC (stpC C t (own.map (·.2)) cs e env) (xs.drop (i + 1)) acc5 fun L => Q true (.list L)) := fun b G5 H5 x5 hb => by
      have hD5 : H5 D = some (.lst ws) := x5.kp _ _ hD3 nD
      have gD5 : G5 D = none := (x5.nw D (by rw [hD3]; rfl)).trans gD3
      have x15 : Ext S G1 H1 G5 H5 := x13.trans x1.src x5
      cases b with
      | false =>
        rw [if_neg Bool.false_ne_true] at hb ⊢
        exact ⟨G5, ws, acc, x15, hD5, gD5, ra.mono (x3.gg.trans x5.gg), by omega, hb⟩
      | true =>
        rw [if_pos rfl] at hb ⊢
        refine ⟨S, G5, env4, fun _ => False, _, ⟨(st4.ext x5).less fun j hj => by simp [Ex.vs]; exact .inr (.inr hj), fun _ _ _ _ _ z => z.elim, fun y H6 pp => ?_⟩, hb⟩
        obtain ⟨G6, fr, d, x6, r6, q6⟩ := pp.frz x5.src
        have hD6 : H6 D = some (.lst ws) := x6.kp _ _ hD5 nD
        have gD6 : G6 D = none := (x6.nw D (by rw [hD5]; rfl)).trans gD5
        refine ⟨ws, hD6, by rw [ra.length]; exact lim_lt (by omega), G6, ws ++ [y], acc ++ [d], (x15.trans x1.src x6).but x1.src hD gD6, upd_same, gD6, (ra.mono ((x3.gg.trans x5.gg).trans x6.gg)).append (.one r6), by rw [List.length_append]; simp; omega, q6⟩
    rcases hcs with rfl | ⟨c, rfl⟩
    · simp only [Exs.rdt, if_true] at hst4
      exact after true G3 H3 (.refl x3.gh x3.src) (by rw [if_pos rfl]; exact hst4)
    · simp only [Exs.rdt] at hst4
      refine ⟨S, G3, env4, fun _ => False, _, st4.less (fun j hj => by simp [Ex.vs, Exs.vs]; exact .inr (.inl hj)), fun _ _ _ _ _ z => z.elim, hst4, fun fr d G5 H5 x5 q5 => ?_⟩
      obtain ⟨c', hc', q5⟩ := q5
      refine ⟨c', hc', after c' G5 H5 x5 ?_⟩
      cases c' with
      | true => simpa using q5
      | false => simpa using q5
  · have e0 : i = xs.length := by omega
    subst e0
    rw [List.drop_length] at hfold
    refine .inl ⟨wstop, p1.fin _ _ ⟨G2, true, .list acc, x2, ?_, hfold⟩⟩
    simp only [RF, if_true]
    exact ⟨⟨D, ws, rfl, hDi, gD2, ra⟩, fun a e => by cases e; exact hD⟩
end
end DL
set_option Elab.async false
set_option linter.all false
set_option maxRecDepth 100000
set_option maxHeartbeats 2000000
/-! D7: statements. -/
namespace DL
open PySem PySem.Spec PyProof.Rows L2

def SlotS (K : PySem.W.Frag) (S : Sx) (H0 G H : Hp) (x : Option (Option V)) : Sl → Prop
  | .un => True
  | .sh d => ∃ v, x = some (some v) ∧ R K G v d
  | .ow d => ∃ v, x = some (some v) ∧ Own K G H v d ∧ ∀ a, v = .ref a → H0 a = none
  | .src => ∃ sa ca, S = some (sa, ca) ∧ x = some (some (.ref sa))
/-- the state of a def's body -/
structure StS (K : PySem.W.Frag) (S : Sx) (G0 H0 G H : Hp) (σ : L2.St) (env : Env) : Prop where
  x : Ext S G0 H0 G H
  so : SrcOk S G0 H0
  at_ : ∀ (i : Nat) (s : Sl), env[i]? = some s → SlotS K S H0 G H σ[i]? s
  ap : ∀ (i j : Nat) (d d' : PyData) (v : V), i ≠ j → env[i]? = some (.ow d) → env[j]? = some (.ow d') → σ[i]? = some (some v) → σ[j]? = some (some v) → False
  len : σ.length = env.length

section
variable {K : PySem.W.Frag} {S : Sx} {G0 H0 G H G' H' : Hp} {σ : L2.St} {env : Env}
/-- the address of a list or dict of one's own that vs name -/
def OwnA (σ : L2.St) (env : Env) (vs : List Nat) (b : Addr) : Prop := ∃ i ∈ vs, ∃ d, env[i]? = some (.ow d) ∧ σ[i]? = some (some (.ref b))
theorem StS.own (st : StS K S G0 H0 G H σ env) {vs : List Nat} {b : Addr} (h : OwnA σ env vs b) : H0 b = none ∧ G b = none ∧ nsrc S b ∧ ∃ o, H b = some o ∧ LD o := by
  obtain ⟨i, _, d, e, e2⟩ := h
  obtain ⟨v, e3, o, n⟩ := st.at_ i _ e
  rw [e2] at e3
  cases e3
  refine ⟨n b rfl, ?_, nsrc_fresh st.so (n b rfl), ?_⟩
  · obtain ⟨a, o', ea, _, g, _⟩ := o.at
    cases ea
    exact g
  · cases d with
    | list ds =>
      obtain ⟨a, xs, ea, h1, _⟩ := o
      cases ea
      exact ⟨_, h1, .inl ⟨_, rfl⟩⟩
    | dict kvs =>
      obtain ⟨a, o', ps, ea, h1, h3, _⟩ := o
      cases ea
      exact ⟨_, h1, .inr ⟨_, h3⟩⟩
    | none => cases o
    | bool b => cases o
    | int i => cases o
    | str x => cases o
    | tuple xs => cases o
open Classical in
/-- with what vs name read as well -/
noncomputable def frG (σ : L2.St) (env : Env) (vs : List Nat) (G H : Hp) : Hp := fun b => if OwnA σ env vs b then H b else G b
open Classical in
/-- without it -/
noncomputable def unG (σ : L2.St) (env : Env) (vs : List Nat) (G : Hp) : Hp := fun b => if OwnA σ env vs b then none else G b
theorem StS.frG_ext (st : StS K S G0 H0 G H σ env) (vs : List Nat) : Sub G (frG σ env vs G H) ∧ Ext S G0 H0 (frG σ env vs G H) H := by
  have s1 : Sub G (frG σ env vs G H) := fun b o e => by
    unfold frG
    split
    · exact st.x.gh b o e
    · exact e
  refine ⟨s1, st.x.gg.trans s1, fun b o e => ?_, st.x.kp, fun b e => ?_, fun sa ca e => ?_⟩
  · unfold frG at e
    split at e
    · exact e
    · exact st.x.gh b o e
  · unfold frG
    split
    · rename_i h
      rw [(st.own h).1] at e; cases e
    · exact st.x.nw b e
  · obtain ⟨g1, g2, w⟩ := st.x.src sa ca e
    obtain ⟨_, _, _, ns, l, m, t, k1, k2, _⟩ := st.so sa ca e
    refine ⟨?_, ?_, w⟩
    · unfold frG
      rw [if_neg (fun h => by rw [(st.own h).1] at k1; cases k1)]
      exact g1
    · unfold frG
      rw [if_neg (fun h => by rw [(st.own h).1] at k2; cases k2)]
      exact g2
theorem StS.ste (st : StS K S G0 H0 G H σ env) (vs : List Nat) : StE K S (frG σ env vs G H) H σ env vs := by
  obtain ⟨s1, x1⟩ := st.frG_ext vs
  refine ⟨x1.gh, x1.src, fun i hi s e => ?_, st.len⟩
  have h := st.at_ i s e
  cases s with
  | un => trivial
  | src => exact h
  | sh d => obtain ⟨v, e1, r⟩ := h; exact ⟨v, e1, r.mono s1⟩
  | ow d =>
    obtain ⟨v, e1, o, n⟩ := h
    obtain ⟨a, o', ea, h1, g, k⟩ := o.at
    subst ea
    refine ⟨_, e1, k _ s1 ?_⟩
    unfold frG
    rw [if_pos ⟨i, hi, d, e, e1⟩]
    exact h1
theorem frz_get {vs : List Nat} {i : Nat} {s : Sl} (h : (frz vs env)[i]? = some s) : ∃ s0, env[i]? = some s0 ∧ s = frz1 vs i s0 := by
  unfold frz at h
  rw [List.getElem?_mapIdx] at h
  cases e : env[i]? with
  | none => rw [e] at h; cases h
  | some s0 => rw [e] at h; cases h; exact ⟨s0, rfl, rfl⟩
theorem frz_length {vs : List Nat} : (frz vs env).length = env.length := by simp [frz]
theorem frz1_ow {vs : List Nat} {i : Nat} {s : Sl} {d : PyData} (h : frz1 vs i s = .ow d) : s = .ow d ∧ i ∉ vs := by
  cases s with
  | ow d' =>
    unfold frz1 at h
    simp only at h
    split at h
    · cases h
    · cases h; exact ⟨rfl, by assumption⟩
  | un => cases h
  | sh d' => cases h
  | src => cases h
/-- frozen for good -/
theorem StS.frozen (st : StS K S G0 H0 G H σ env) {vs : List Nat} (y : Ext S (frG σ env vs G H) H G' H') : StS K S G0 H0 G' H' σ (frz vs env) := by
  obtain ⟨s1, x1⟩ := st.frG_ext vs
  refine ⟨x1.trans st.so y, st.so, fun i s e => ?_, fun i j d d' v hij ei ej vi vj => ?_, by rw [frz_length]; exact st.len⟩
  · obtain ⟨s0, e0, rfl⟩ := frz_get e
    have h := st.at_ i s0 e0
    cases s0 with
    | un => trivial
    | src => exact h
    | sh d => obtain ⟨v, e1, r⟩ := h; exact ⟨v, e1, r.mono (s1.trans y.gg)⟩
    | ow d =>
      obtain ⟨v, e1, o, n⟩ := h
      by_cases hi : i ∈ vs
      · have z : frz1 vs i (.ow d) = .sh d := by simp [frz1, hi]
        rw [z]
        obtain ⟨a, o', ea, h1, g, k⟩ := o.at
        subst ea
        refine ⟨_, e1, k _ (s1.trans y.gg) (y.gg _ _ ?_)⟩
        unfold frG
        rw [if_pos ⟨i, hi, d, e0, e1⟩]
        exact h1
      · have z : frz1 vs i (.ow d) = .ow d := by simp [frz1, hi]
        rw [z]
        refine ⟨v, e1, o.move (s1.trans y.gg) (fun a u ea hu => ?_) (fun a ea ga => ?_), n⟩
        · exact y.kp a u hu (nsrc_fresh st.so (n a ea))
        · have hne : ¬ OwnA σ env vs a := fun ⟨j, hj, d', ej, e2⟩ => by
            subst ea
            exact st.ap i j d d' _ (fun z => hi (z ▸ hj)) e0 ej e1 e2
          obtain ⟨a', o', ea', h1, _⟩ := o.at
          rw [ea] at ea'; cases ea'
          rw [y.nw a (by rw [h1]; rfl)]
          unfold frG
          rw [if_neg hne]
          exact ga
  · obtain ⟨s0, e0, z⟩ := frz_get ei
    obtain ⟨s0', e0', z'⟩ := frz_get ej
    obtain ⟨rfl, _⟩ := frz1_ow z.symm
    obtain ⟨rfl, _⟩ := frz1_ow z'.symm
    exact st.ap i j d d' v hij e0 e0' vi vj
/-- given back -/
theorem StS.back (st : StS K S G0 H0 G H σ env) {vs : List Nat} (y : Ext S (frG σ env vs G H) H G' H') : StS K S G0 H0 (unG σ env vs G') H' σ env ∧ Thin (frG σ env vs G H) G' (unG σ env vs G') ∧ Sub G (unG σ env vs G') := by
  obtain ⟨s1, x1⟩ := st.frG_ext vs
  have su : Sub (unG σ env vs G') G' := fun b o e => by
    unfold unG at e
    split at e
    · cases e
    · exact e
  have sg : Sub G (unG σ env vs G') := fun b o e => by
    unfold unG
    rw [if_neg (fun h => by rw [(st.own h).2.1] at e; cases e)]
    exact y.gg _ _ (s1 _ _ e)
  have xx : Ext S G0 H0 G' H' := x1.trans st.so y
  have x2 : Ext S G0 H0 (unG σ env vs G') H' := by
    refine ⟨st.x.gg.trans sg, su.trans y.gh, xx.kp, fun b e => ?_, fun sa ca e => ?_⟩
    · unfold unG
      split
      · rename_i h
        rw [(st.own h).1] at e; cases e
      · exact xx.nw b e
    · obtain ⟨g1, g2, w⟩ := xx.src sa ca e
      refine ⟨?_, ?_, w⟩ <;> (unfold unG; split <;> first | rfl | assumption)
  refine ⟨⟨x2, st.so, fun i s e => ?_, st.ap, st.len⟩, ⟨su, fun b o e => ?_⟩, sg⟩
  · have h := st.at_ i s e
    cases s with
    | un => trivial
    | src => exact h
    | sh d => obtain ⟨v, e1, r⟩ := h; exact ⟨v, e1, r.mono sg⟩
    | ow d =>
      obtain ⟨v, e1, o, n⟩ := h
      refine ⟨v, e1, o.move sg (fun a u ea hu => y.kp a u hu (nsrc_fresh st.so (n a ea))) (fun a ea ga => ?_), n⟩
      unfold unG
      split
      · rfl
      · rename_i hne
        obtain ⟨a', o', ea', h1, _⟩ := o.at
        rw [ea] at ea'; cases ea'
        rw [y.nw a (by rw [h1]; rfl)]
        unfold frG
        rw [if_neg hne]
        exact ga
  · by_cases h : OwnA σ env vs b
    · refine .inr ?_
      obtain ⟨_, _, _, o', ho, ld⟩ := st.own h
      have e2 : frG σ env vs G H b = some o' := by unfold frG; rw [if_pos h]; exact ho
      have e3 := y.gg _ _ e2
      rw [e] at e3; cases e3
      exact ⟨ld, e2⟩
    · refine .inl ?_
      unfold unG
      rw [if_neg h]
      exact e
/-- what a value is behind an expression: new, or read off G -/
def RS (K : PySem.W.Frag) (σ : L2.St) (env : Env) (H0 G H : Hp) (fr : Bool) (v : V) (d : PyData) : Prop :=
  if fr = true then Own K G H v d ∧ (∀ a, v = .ref a → H0 a = none ∧ ∀ i : Nat, ∀ d', env[i]? = some (Sl.ow d') → σ[i]? ≠ some (some v)) else R K G v d
/-- what an expression leaves as it is -/
structure Stp (S : Sx) (σ : L2.St) (env : Env) (G H G' H' : Hp) (fr : Bool) (v : V) : Prop where
  sub : Sub G G'
  kp : ∀ a o, H a = some o → nsrc S a → H' a = some o
  nw : ∀ a, (H a).isSome = true → G a = none → (∀ (i : Nat) (d : PyData), env[i]? = some (Sl.ow d) → σ[i]? ≠ some (some (.ref a))) → G' a = none
  new : fr = true → ∀ a, v = .ref a → H a = none
theorem StS.evald (st : StS K S G0 H0 G H σ env) {vs : List Nat} {fr : Bool} {v : V} {d : PyData} (y : Ext S (frG σ env vs G H) H G' H') (r : RF K G' H H' fr v d) :
    ∃ G2, StS K S G0 H0 G2 H' σ (aft vs fr d env) ∧ RS K σ (aft vs fr d env) H0 G2 H' fr v d ∧ Stp S σ env G H G2 H' fr v := by
  obtain ⟨s1, x1⟩ := st.frG_ext vs
  have hn : fr = true → ∀ a, v = .ref a → H a = none := fun hf => by
    subst hf
    simp only [RF, if_true] at r
    exact r.2
  have g1 : ∀ a, (H a).isSome = true → G a = none → (∀ (i : Nat) (d : PyData), env[i]? = some (Sl.ow d) → σ[i]? ≠ some (some (.ref a))) → G' a = none ∧ ¬ OwnA σ env vs a := fun a hs ga no => by
    have ho : ¬ OwnA σ env vs a := fun ⟨i, _, d, e1, e2⟩ => no i d e1 e2
    refine ⟨?_, ho⟩
    rw [y.nw a hs]
    unfold frG
    rw [if_neg ho]
    exact ga
  have new : fr = true → ∀ a, v = .ref a → H0 a = none ∧ ∀ (e' : Env), (∀ i d', e'[i]? = some (Sl.ow d') → env[i]? = some (Sl.ow d')) → ∀ i : Nat, ∀ d', e'[i]? = some (Sl.ow d') → σ[i]? ≠ some (some v) := fun hf a ea => by
    subst hf
    simp only [RF, if_true] at r
    have n := r.2 a ea
    refine ⟨st.x.fresh st.so n, fun e' he i d' e1 e2 => ?_⟩
    obtain ⟨v', e3, o, _⟩ := st.at_ i _ (he i d' e1)
    rw [e2] at e3; cases e3
    obtain ⟨a', o', ea', h1, _⟩ := o.at
    rw [ea] at ea'; cases ea'
    rw [n] at h1; cases h1
  unfold aft
  by_cases lf : leafy fr d = true
  · rw [if_pos lf]
    obtain ⟨st2, th, sg⟩ := st.back y
    refine ⟨_, st2, ?_, sg, y.kp, fun a hs ga no => by unfold unG; rw [if_neg (g1 a hs ga no).2]; exact (g1 a hs ga no).1, hn⟩
    cases fr with
    | false =>
      simp only [RS, RF, Bool.false_eq_true, if_false] at r ⊢
      exact R.thin th r (by simpa [leafy] using lf)
    | true =>
      have nn := new rfl
      simp only [RS, RF, if_true] at r ⊢
      refine ⟨?_, fun a ea => ⟨(nn a ea).1, (nn a ea).2 env fun _ _ h => h⟩⟩
      cases d with
      | list ds =>
        obtain ⟨⟨a, xs, ea, h1, g, ra⟩, n⟩ := r
        refine ⟨a, xs, ea, h1, ?_, RAll.thin th ra (by simpa [leafy, flat] using lf)⟩
        unfold unG
        split
        · rfl
        · exact g
      | dict kvs => simp [leafy, flat] at lf
      | none => cases r.1
      | bool b => cases r.1
      | int i => cases r.1
      | str x => cases r.1
      | tuple xs => cases r.1
  · rw [if_neg lf]
    refine ⟨_, st.frozen y, ?_, s1.trans y.gg, y.kp, fun a hs ga no => (g1 a hs ga no).1, hn⟩
    cases fr with
    | false => simpa only [RS, RF, Bool.false_eq_true, if_false] using r
    | true =>
      have nn := new rfl
      simp only [RS, RF, if_true] at r ⊢
      refine ⟨r.1, fun a ea => ⟨(nn a ea).1, (nn a ea).2 _ fun i d' e => ?_⟩⟩
      obtain ⟨s0, e0, z⟩ := frz_get e
      obtain ⟨rfl, _⟩ := frz1_ow z.symm
      exact e0
/-- without the value -/
theorem StS.tested (st : StS K S G0 H0 G H σ env) {vs : List Nat} {fr : Bool} {d : PyData} (y : Ext S (frG σ env vs G H) H G' H') : ∃ G2, StS K S G0 H0 G2 H' σ (aft vs fr d env) ∧ Sub G G2 := by
  unfold aft
  by_cases lf : leafy fr d = true
  · rw [if_pos lf]; exact ⟨_, (st.back y).1, (st.back y).2.2⟩
  · rw [if_neg lf]; exact ⟨_, st.frozen y, (st.frG_ext vs).1.trans y.gg⟩
/-- a slot is stored: data to be read -/
theorem StS.setR (st : StS K S G0 H0 G H σ env) {i : Nat} {v : V} {d : PyData} (r : R K G v d) : StS K S G0 H0 G H (σ.set i (some v)) (env.set i (.sh d)) := by
  refine ⟨st.x, st.so, fun j s e => ?_, fun j k d1 d2 u hjk ej ek vj vk => ?_, by rw [List.length_set, List.length_set]; exact st.len⟩
  · by_cases h : i = j
    · subst h
      by_cases hl : i < env.length
      · rw [List.getElem?_set_self hl] at e
        cases e
        exact ⟨v, by rw [List.getElem?_set_self (by rw [st.len]; exact hl)], r⟩
      · rw [List.getElem?_eq_none (by simpa using hl)] at e; cases e
    · rw [List.getElem?_set_ne h] at e ⊢
      exact st.at_ j s e
  · have hj : i ≠ j := by
      rintro rfl
      by_cases hl : i < env.length
      · rw [List.getElem?_set_self hl] at ej; cases ej
      · rw [List.getElem?_eq_none (by simpa using hl)] at ej; cases ej
    have hk : i ≠ k := by
      rintro rfl
      by_cases hl : i < env.length
      · rw [List.getElem?_set_self hl] at ek; cases ek
      · rw [List.getElem?_eq_none (by simpa using hl)] at ek; cases ek
    rw [List.getElem?_set_ne hj] at ej vj
    rw [List.getElem?_set_ne hk] at ek vk
    exact st.ap j k d1 d2 u hjk ej ek vj vk
/-- .. one's own -/
theorem StS.setO (st : StS K S G0 H0 G H σ env) {i : Nat} {v : V} {d : PyData} (r : Own K G H v d) (n : ∀ a, v = .ref a → H0 a = none) (ap : ∀ j : Nat, ∀ d', env[j]? = some (Sl.ow d') → j ≠ i → σ[j]? ≠ some (some v)) : StS K S G0 H0 G H (σ.set i (some v)) (env.set i (.ow d)) := by
  refine ⟨st.x, st.so, fun j s e => ?_, fun j k d1 d2 u hjk ej ek vj vk => ?_, by rw [List.length_set, List.length_set]; exact st.len⟩
  · by_cases h : i = j
    · subst h
      by_cases hl : i < env.length
      · rw [List.getElem?_set_self hl] at e
        cases e
        exact ⟨v, by rw [List.getElem?_set_self (by rw [st.len]; exact hl)], r, n⟩
      · rw [List.getElem?_eq_none (by simpa using hl)] at e; cases e
    · rw [List.getElem?_set_ne h] at e ⊢
      exact st.at_ j s e
  · by_cases hj : i = j
    · subst hj
      have hl : i < env.length := by
        by_cases hl : i < env.length
        · exact hl
        · rw [List.getElem?_eq_none (by simpa using hl)] at ej; cases ej
      rw [List.getElem?_set_self (by rw [st.len]; exact hl)] at vj
      cases vj
      rw [List.getElem?_set_ne hjk] at ek vk
      exact ap k d2 ek (fun z => hjk z.symm) vk
    · rw [List.getElem?_set_ne hj] at ej vj
      by_cases hk : i = k
      · subst hk
        have hl : i < env.length := by
          by_cases hl : i < env.length
          · exact hl
          · rw [List.getElem?_eq_none (by simpa using hl)] at ek; cases ek
        rw [List.getElem?_set_self (by rw [st.len]; exact hl)] at vk
        cases vk
        exact ap j d1 ej hjk vj
      · rw [List.getElem?_set_ne hk] at ek vk
        exact st.ap j k d1 d2 u hjk ej ek vj vk
theorem StS.put (st : StS K S G0 H0 G H σ env) {i : Nat} {v : V} {d : PyData} {fr : Bool} (r : RS K σ env H0 G H fr v d) : StS K S G0 H0 G H (σ.set i (some v)) (env.set i (put fr d)) := by
  cases fr with
  | false => simp only [RS, DL.put, Bool.false_eq_true, if_false] at r ⊢; exact st.setR r
  | true =>
    simp only [RS, DL.put, if_true] at r ⊢
    obtain ⟨r, n⟩ := r
    obtain ⟨a, o, ea, _⟩ := r.at
    exact st.setO r (fun b eb => (n b eb).1) fun j d' e _ => (n a ea).2 j d' e
/-- a list of one's own is changed -/
theorem StS.change (st : StS K S G0 H0 G H σ env) {i : Nat} {a : Addr} {ds es : List PyData} {ys : List V} (e : env[i]? = some (.ow (.list ds))) (ev : σ[i]? = some (some (.ref a))) (r : RAll K G ys es) : StS K S G0 H0 G (upd H a (.lst ys)) σ (env.set i (.ow (.list es))) := by
  obtain ⟨v, ev', o, n⟩ := st.at_ i _ e
  rw [ev] at ev'; cases ev'
  have n0 := n a rfl
  obtain ⟨a', xs, ea, h1, g, _⟩ := o
  cases ea
  have x2 : Ext S G0 H0 G (upd H a (.lst ys)) := st.x.but st.so n0 g
  have hl : i < env.length := (List.getElem?_eq_some_iff.mp e).1
  refine ⟨x2, st.so, fun j s ej => ?_, fun j k d1 d2 u hjk ej ek vj vk => ?_, by rw [List.length_set]; exact st.len⟩
  · by_cases h : i = j
    · subst h
      rw [List.getElem?_set_self hl] at ej
      cases ej
      exact ⟨_, ev, ⟨a, ys, rfl, upd_same, g, r⟩, n⟩
    · rw [List.getElem?_set_ne h] at ej
      have hs := st.at_ j s ej
      cases s with
      | un => trivial
      | src => exact hs
      | sh d => exact hs
      | ow d =>
        obtain ⟨v, e1, o, n⟩ := hs
        refine ⟨v, e1, o.move (.refl G) (fun b u eb hu => ?_) (fun _ _ g => g), n⟩
        rw [upd_ne]
        · exact hu
        · rintro rfl
          subst eb
          exact st.ap i j _ d _ h e ej ev e1
  · have toi : ∀ (j : Nat) (d' : PyData), (env.set i (Sl.ow (.list es)))[j]? = some (Sl.ow d') → ∃ d'', env[j]? = some (Sl.ow d'') := fun j d' ej => by
      by_cases h : i = j
      · subst h; exact ⟨_, e⟩
      · rw [List.getElem?_set_ne h] at ej; exact ⟨_, ej⟩
    obtain ⟨_, f1⟩ := toi j d1 ej
    obtain ⟨_, f2⟩ := toi k d2 ek
    exact st.ap j k _ _ u hjk f1 f2 vj vk
theorem StS.changeO (st : StS K S G0 H0 G H σ env) {i : Nat} {a : Addr} {d0 d' : PyData} {o' : HO} (e : env[i]? = some (.ow d0)) (ev : σ[i]? = some (some (.ref a))) (r : G a = none → Own K G (upd H a o') (.ref a) d') : StS K S G0 H0 G (upd H a o') σ (env.set i (.ow d')) := by
  obtain ⟨v, ev', o, n⟩ := st.at_ i _ e
  rw [ev] at ev'; cases ev'
  have n0 := n a rfl
  obtain ⟨a', u0, ea, h1, g, _⟩ := o.at
  cases ea
  have x2 : Ext S G0 H0 G (upd H a o') := st.x.but st.so n0 g
  have hl : i < env.length := (List.getElem?_eq_some_iff.mp e).1
  refine ⟨x2, st.so, fun j s ej => ?_, fun j k d1 d2 u hjk ej ek vj vk => ?_, by rw [List.length_set]; exact st.len⟩
  · by_cases h : i = j
    · subst h
      rw [List.getElem?_set_self hl] at ej
      cases ej
      exact ⟨_, ev, r g, n⟩
    · rw [List.getElem?_set_ne h] at ej
      have hs := st.at_ j s ej
      cases s with
      | un => trivial
      | src => exact hs
      | sh d => exact hs
      | ow d =>
        obtain ⟨v, e1, o, n⟩ := hs
        refine ⟨v, e1, o.move (.refl G) (fun b u eb hu => ?_) (fun _ _ g => g), n⟩
        rw [upd_ne]
        · exact hu
        · rintro rfl
          subst eb
          exact st.ap i j _ d _ h e ej ev e1
  · have toi : ∀ (j : Nat) (d2 : PyData), (env.set i (Sl.ow d'))[j]? = some (Sl.ow d2) → ∃ d'', env[j]? = some (Sl.ow d'') := fun j d2 ej => by
      by_cases h : i = j
      · subst h; exact ⟨_, e⟩
      · rw [List.getElem?_set_ne h] at ej; exact ⟨_, ej⟩
    obtain ⟨_, f1⟩ := toi j d1 ej
    obtain ⟨_, f2⟩ := toi k d2 ek
    exact st.ap j k _ _ u hjk f1 f2 vj vk
/-- a new value of one's own is given to be read -/
theorem StS.give (st : StS K S G0 H0 G H σ env) {v : V} {d : PyData} {fr : Bool} (r : RS K σ env H0 G H fr v d) : ∃ G2, StS K S G0 H0 G2 H σ env ∧ R K G2 v d ∧ Sub G G2 := by
  cases fr with
  | false => exact ⟨G, st, by simpa only [RS, Bool.false_eq_true, if_false] using r, .refl G⟩
  | true =>
    simp only [RS, if_true] at r
    obtain ⟨r, n⟩ := r
    obtain ⟨a, o, ea, ho, hg, k⟩ := r.at
    obtain ⟨n0, ap⟩ := n a ea
    have s1 : Sub G (upd G a o) := .nw hg
    refine ⟨upd G a o, ⟨st.x.freeze st.so n0 ho hg, st.so, fun i s e => ?_, st.ap, st.len⟩, k _ s1 upd_same, s1⟩
    have h := st.at_ i s e
    cases s with
    | un => trivial
    | src => exact h
    | sh d => obtain ⟨v, e1, r⟩ := h; exact ⟨v, e1, r.mono s1⟩
    | ow d' =>
      obtain ⟨w, e1, o', n'⟩ := h
      refine ⟨w, e1, o'.move s1 (fun _ _ _ h => h) (fun b eb gb => ?_), n'⟩
      rw [upd_ne]
      · exact gb
      · rintro rfl
        exact ap i d' e (by rw [e1, eb, ea])
/-- with more that is read -/
theorem StS.later (st : StS K S G0 H0 G H σ env) (y : Ext S G H G' H') : StS K S G0 H0 G' H' σ env := by
  refine ⟨st.x.trans st.so y, st.so, fun i s e => ?_, st.ap, st.len⟩
  have h := st.at_ i s e
  cases s with
  | un => trivial
  | src => exact h
  | sh d => obtain ⟨v, e1, r⟩ := h; exact ⟨v, e1, r.mono y.gg⟩
  | ow d =>
    obtain ⟨v, e1, o, n⟩ := h
    refine ⟨v, e1, o.move y.gg (fun a u ea hu => y.kp a u hu (nsrc_fresh st.so (n a ea))) (fun a ea ga => ?_), n⟩
    obtain ⟨a', o', ea', h1, _⟩ := o.at
    rw [ea] at ea'; cases ea'
    rw [y.nw a (by rw [h1]; rfl)]
    exact ga
end
end DL
set_option Elab.async false
set_option linter.all false
set_option maxRecDepth 100000
set_option maxHeartbeats 2000000
/-! D8: statements' readings. -/
namespace DL
open PySem PySem.Spec PyProof.Rows L2

structure EndsOk (K : PySem.W.Frag) (mg : Str → Option Value) (E : XK) (S : Sx) (G0 H0 Gb : Hp) (k : Kp) (D : Ends) : Prop where
  nx : ∀ G H σ env, StS K S G0 H0 G H σ env → Sub Gb G → k.nx env → D.nx σ H
  bk : ∀ G H σ env, StS K S G0 H0 G H σ env → Sub Gb G → k.bk env → D.bk σ H
  ct : ∀ G H σ env, StS K S G0 H0 G H σ env → Sub Gb G → k.ct env → D.ct σ H
  rt : ∀ v H', Post K S G0 H0 k.rt v H' → D.rt v H'
  rz : Rz mg S G0 H0 k.ex E
def tS (X : Cx) (C : Nat → Fs) (E : XK) (s : Sm) : TS := fun D σ H => ∃ S G0 H0 Gb G env k, StS X.K S G0 H0 G H σ env ∧ Sub Gb G ∧ EndsOk X.K X.mg E S G0 H0 Gb k D ∧ s.rd C env k
def tSs (X : Cx) (C : Nat → Fs) (E : XK) (s : Sms) : TS := fun D σ H => ∃ S G0 H0 Gb G env k, StS X.K S G0 H0 G H σ env ∧ Sub Gb G ∧ EndsOk X.K X.mg E S G0 H0 Gb k D ∧ s.rd C env k

section
variable {X : Cx} {C : Nat → Fs} {E : XK} {S : Sx} {G0 H0 G H G' H' : Hp} {σ : L2.St} {env : Env} {Ep : Str → Prop} {Q : Bool → PyData → Prop} {Qh : VK} {k : Kp} {D : Ends}
/-- an expression of a statement -/
theorem StS.eval (st : StS X.K S G0 H0 G H σ env) (rz : Rz X.mg S G0 H0 Ep E) {e : Ex} (h : e.rd C Ep env Q)
    (kk : ∀ v G' H' fr d, StS X.K S G0 H0 G' H' σ (aft e.vs fr d env) → RS X.K σ (aft e.vs fr d env) H0 G' H' fr v d → Stp S σ env G H G' H' fr v → Q fr d → Qh v H') : tE X C E e σ H Qh :=
  ⟨S, _, env, Ep, Q, ⟨st.ste e.vs, rz.ext (st.frG_ext e.vs).2 st.so, fun v H' pp => by
    obtain ⟨G', fr, d, y, r, q⟩ := pp
    obtain ⟨G2, st2, r2, sg⟩ := st.evald y r
    exact kk v G2 H' fr d st2 r2 sg q⟩, h⟩
theorem StS.test (st : StS X.K S G0 H0 G H σ env) (rz : Rz X.mg S G0 H0 Ep E) {e : Ex} {Qb : Bool → Hp → Prop} (h : e.rd C Ep env Q)
    (kk : ∀ G' H' fr d, StS X.K S G0 H0 G' H' σ (aft e.vs fr d env) → Sub G G' → Q fr d → ∃ c, truth d = some c ∧ Qb c H') : tT X C E e σ H Qb :=
  ⟨S, _, env, Ep, Q, st.ste e.vs, rz.ext (st.frG_ext e.vs).2 st.so, h, fun fr d G' H' y q => by
    obtain ⟨G2, st2, sg⟩ := st.tested (fr := fr) (d := d) y
    exact kk G2 H' fr d st2 sg q⟩

theorem ss_nil : PSs X [] (tSs X C E .nil) := PSs.imp pss_nil fun D σ H ⟨S, G0, H0, Gb, G, env, k, st, sb, en, h⟩ => en.nx _ _ _ _ st sb (by simpa only [Sms.rd] using h)
theorem ss_cons {s : Stmt} {r : List Stmt} {x : Sm} {xs : Sms} (h1 : PS X s (tS X C E x)) (h2 : PSs X r (tSs X C E xs)) : PSs X (s :: r) (tSs X C E (.cons x xs)) :=
  PSs.imp (pss_cons h1 h2) fun D σ H ⟨S, G0, H0, Gb, G, env, k, st, sb, en, h⟩ =>
    ⟨S, G0, H0, Gb, G, env, { k with nx := fun env' => xs.rd C env' k }, st, sb, ⟨fun G' H' σ' env' st' sb' h' => ⟨S, G0, H0, Gb, G', env', k, st', sb', en, h'⟩, en.bk, en.ct, en.rt, en.rz⟩, by simpa only [Sms.rd] using h⟩
theorem sm_pass {pos : Pos} : PS X (.Pass pos) (tS X C E .pass) := PS.imp ps_pass fun D σ H ⟨S, G0, H0, Gb, G, env, k, st, sb, en, h⟩ => en.nx _ _ _ _ st sb (by simpa only [Sm.rd] using h)
theorem sm_brk {pos : Pos} : PS X (.Break pos) (tS X C E .brk) := PS.imp ps_break fun D σ H ⟨S, G0, H0, Gb, G, env, k, st, sb, en, h⟩ => en.bk _ _ _ _ st sb (by simpa only [Sm.rd] using h)
theorem sm_cnt {pos : Pos} : PS X (.Continue pos) (tS X C E .cnt) := PS.imp ps_continue fun D σ H ⟨S, G0, H0, Gb, G, env, k, st, sb, en, h⟩ => en.ct _ _ _ _ st sb (by simpa only [Sm.rd] using h)
theorem sm_retn {pos : Pos} : PS X (.Return none pos) (tS X C E .retn) := PS.imp ps_retN fun D σ H ⟨S, G0, H0, Gb, G, env, k, st, sb, en, h⟩ => en.rt _ _ (.of st.x .non (by simpa only [Sm.rd] using h))
theorem sm_retv {i : Nat} {e : Expr} {pos : Pos} (he : PE X e (tVar i)) : PS X (.Return (some e) pos) (tS X C E (.ret (.var i))) :=
  PS.imp (ps_ret he) fun D σ H ⟨S, G0, H0, Gb, G, env, k, st, sb, en, h⟩ => by
    simp only [Sm.rd] at h
    cases e1 : env[i]? with
    | none => rw [e1] at h; exact h.elim
    | some l =>
      have s := st.at_ i l e1
      rw [e1] at h
      cases l with
      | un => exact h.elim
      | src => exact h.elim
      | sh d =>
        obtain ⟨v, hv, r⟩ := s
        exact ⟨v, hv, en.rt _ _ (.of st.x r h)⟩
      | ow d =>
        obtain ⟨v, hv, r, n⟩ := s
        refine ⟨v, hv, en.rt _ _ ⟨G, true, d, st.x, ?_, h⟩⟩
        simp only [RF, if_true]
        exact ⟨r, n⟩
theorem sm_ret {e : Expr} {x : Ex} {pos : Pos} (hx : ∀ i, x ≠ .var i) (he : PE X e (tE X C E x)) : PS X (.Return (some e) pos) (tS X C E (.ret x)) :=
  PS.imp (ps_ret he) fun D σ H ⟨S, G0, H0, Gb, G, env, k, st, sb, en, h⟩ => by
    have h' : x.rd C k.ex env k.rt := by cases x <;> first | exact absurd rfl (hx _) | simpa only [Sm.rd] using h
    exact ⟨S, _, env, k.ex, k.rt, ⟨st.ste x.vs, en.rz.ext (st.frG_ext x.vs).2 st.so, fun v H' pp => en.rt v H' (pp.step (st.frG_ext x.vs).2 st.so)⟩, h'⟩
theorem sm_expr {e : Expr} {x : Ex} {pos : Pos} (he : PE X e (tE X C E x)) (hs : swapsWith e none pos.line X.env = pure false) : PS X (.Expr e pos) (tS X C E (.expr x)) :=
  PS.imp (ps_expr he hs) fun D σ H ⟨S, G0, H0, Gb, G, env, k, st, sb, en, h⟩ =>
    st.eval en.rz (by simpa only [Sm.rd] using h) fun v G' H' fr d st' _ sg q => en.nx _ _ _ _ st' (sb.trans sg.sub) q
theorem sm_ite {t : Expr} {a b : List Stmt} {et : Ex} {ea eb : Sms} {pos : Pos} (ht : PT X t (tT X C E et)) (ha : PSs X a (tSs X C E ea)) (hb : PSs X b (tSs X C E eb)) : PS X (.If t a b pos) (tS X C E (.ite et ea eb)) :=
  PS.imp (ps_if ht ha hb) fun D σ H ⟨S, G0, H0, Gb, G, env, k, st, sb, en, h⟩ =>
    st.test (Q := fun fr d => ∃ c, truth d = some c ∧ if c = true then ea.rd C (aft et.vs fr d env) k else eb.rd C (aft et.vs fr d env) k) en.rz (by simpa only [Sm.rd] using h) fun G' H' fr d st' sg ⟨c, hc, q⟩ => by
      refine ⟨c, hc, ?_⟩
      cases c with
      | true => rw [if_pos rfl] at q ⊢; exact ⟨S, G0, H0, Gb, G', _, k, st', sb.trans sg, en, q⟩
      | false => rw [if_neg Bool.false_ne_true] at q ⊢; exact ⟨S, G0, H0, Gb, G', _, k, st', sb.trans sg, en, q⟩
/-- x = e -/
theorem sm_asg {tg e : Expr} {i : Nat} {x : Ex} {st : Stmt} (h : PS X st (tAsg (tE X C E x) (gName i))) : PS X st (tS X C E (.asg (.nm i) x)) :=
  PS.imp h fun D σ H ⟨S, G0, H0, Gb, G, env, k, st, sb, en, h⟩ =>
    st.eval en.rz (by simpa only [Sm.rd] using h) fun v G' H' fr d st' r sg q => en.nx _ _ _ _ (st'.put r) (sb.trans sg.sub) q
theorem sm_asgT {t : Tgs} {x : Ex} {st : Stmt} (h : PS X st (tAsg (tE X C E x) (tgR X.K (.tp t)))) : PS X st (tS X C E (.asg (.tp t) x)) :=
  PS.imp h fun D σ H ⟨S, G0, H0, Gb, G, env, k, st, sb, en, h⟩ =>
    st.eval en.rz (by simpa only [Sm.rd] using h) fun v G' H' fr d st' r sg q => by
      obtain ⟨G2, st2, r2, sg2⟩ := st'.give r
      exact tg_ok (K := X.K) (G := G2) (H := H') (fun σ' env' => StS X.K S G0 H0 G2 H' σ' env') st2.x.gh (.tp t) (fun i _ σ' env' v' d' r' p => p.setR r') r2 st2 q fun σ' env' p h => en.nx _ _ _ _ p ((sb.trans sg.sub).trans sg2) h
/-- x.append(e) -/
theorem sm_app {o e : Expr} {i : Nat} {x : Ex} {apos cpos pos : Pos} (ho : PE X o (tVar i)) (he : PE X e (tE X C E x)) (ns : ∀ v p, e ≠ .Starred v p)
    (hbase : attributeBase o "append" X.env (eval o X.env) = eval o X.env) (hline : (apos.endLine == cpos.line) = true)
    (hfew : ((backTo cpos (starEach [e] X.env)).all (fun x => !x.1) && (backToKw cpos (keywordEach [] X.env)).all (fun x => x.1.isSome) && decide ([e].length + ([] : List Keyword).length + (if ([] : List Keyword).isEmpty then 0 else 1) < 30)) = true) :
    PS X (.Expr (.Call (.Attribute o "append" apos) [e] [] cpos) pos) (tS X C E (.app i x)) :=
  PS.imp (ps_expr (pe_bm PySem.F.plainAttrs_list PySem.F.slot_list_append PySem.F.type_list_append mt_append ho (pa_cons he pa_nil (star_of ns)) hbase hfew hline (star_of ns) rfl) rfl) fun D σ H ⟨S, G0, H0, Gb, G, env, k, st, sb, en, h⟩ => by
    simp only [Sm.rd] at h
    cases e1 : env[i]? with
    | none => rw [e1] at h; exact h.elim
    | some l =>
      rw [e1] at h
      have hs := st.at_ i l e1
      match l, h, hs with
      | .ow (.list ds0), h, ⟨v0, ev, ⟨a, xs0, ea, h1, g, ra⟩, n⟩ =>
        subst ea
        refine ⟨_, ev, .inl ⟨rfl, xs0, SqL.of h1⟩, st.eval en.rz h fun v G' H' fr d st' r sg q => ?_⟩
        obtain ⟨G2, st2, r2, sg2⟩ := st'.give r
        cases e2 : (aft x.vs fr d env)[i]? with
        | none => rw [e2] at q; exact q.elim
        | some l2 =>
          rw [e2] at q
          have hs2 := st2.at_ i l2 e2
          match l2, q, hs2, e2 with
          | .ow (.list ds), q, ⟨v2, ev2, ⟨b, xs, eb, h2, g2, rb⟩, n2⟩, e2 =>
            subst eb
            rw [ev] at ev2
            cases ev2
            exact ⟨a, xs, v, rfl, rfl, h2, by rw [rb.length]; exact lim_lt q.1, en.nx _ _ _ _ (st2.change e2 ev (rb.append (.one r2))) ((sb.trans sg.sub).trans sg2) q.2⟩
theorem aft_int {vs : List Nat} {f : Bool} {z : Int} {env : Env} : aft vs f (.int z) env = env := by simp [aft, leafy, flat]
theorem leafy_atom {f : Bool} {d : PyData} (h : flat d = true) : leafy f d = true := by unfold leafy; rw [h]; rfl
/-- x[j] = e -/
theorem sm_setx (hu : X.A.units + 65 < cLine) {o j e : Expr} {i : Nat} {x y : Ex} {tpos pos : Pos} (ho : PE X o (tVar i)) (hj : PE X j (tE X C E y)) (hsl : ∀ a b c p, j ≠ .Slice a b c p) (he : PE X e (tE X C E x)) (hs : swapsWithSole [.Subscript o j tpos] e pos.line X.env = pure false) (hw : swappedStores [.Subscript o j tpos] e X.env = pure none) :
    PS X (.Assign [.Subscript o j tpos] e pos) (tS X C E (.setx i y x)) :=
  PS.imp (ps_asg he (pg_sub ho hj (PSet.or set_list (set_dict hu)) (by intros; cases j <;> first | rfl | exact absurd rfl (hsl _ _ _ _))) hs hw) fun D σ H ⟨S, G0, H0, Gb, G, env, k, st, sb, en, h⟩ => by
    simp only [Sm.rd] at h
    refine st.eval en.rz h fun v G' H' fr d st' r sg q => ?_
    obtain ⟨G2, st2, r2, sg2⟩ := st'.give r
    cases e2 : (aft x.vs fr d env)[i]? with
    | none => rw [e2] at q; exact q.elim
    | some l2 =>
      rw [e2] at q
      have hs2 := st2.at_ i l2 e2
      match l2, q, hs2, e2 with
      | .ow (.list ds), q, ⟨v2, ev, ⟨a, xs, eb, h2, g2, rb⟩, n2⟩, e2 =>
        subst eb
        refine ⟨_, ev, st2.eval en.rz q fun w G3 H3 f3 dz st3 r3 sg3 q3 => ?_⟩
        obtain ⟨z, rfl, n, hn, q3⟩ := isInt_iff q3
        rw [aft_int] at st3 r3
        have r3' : w = .int z := by
          cases f3 with
          | false => simp only [RS, Bool.false_eq_true, if_false] at r3; exact r3.int'
          | true => simp only [RS, if_true] at r3; exact r3.1.elim
        subst r3'
        obtain ⟨v4, ev4, ⟨b, ys, eb, h4, g4, rb4⟩, n4⟩ := st3.at_ i _ e2
        rw [ev] at ev4
        cases ev4
        cases eb
        exact .inl ⟨a, ys, z, n, rfl, rfl, h4, by rw [rb4.length]; exact hn, en.nx _ _ _ _ (st3.change e2 ev (RAll.set (r2.mono sg3.sub) n rb4)) (((sb.trans sg.sub).trans sg2).trans sg3.sub) q3⟩
      | .ow (.dict kvs), q, ⟨v2, ev, ⟨a, ob, ps, eb, h2, dp, g2, rb⟩, n2⟩, e2 =>
        subst eb
        refine ⟨_, ev, st2.eval en.rz q fun w G3 H3 f3 dy st3 r3 sg3 q3 => ?_⟩
        obtain ⟨hk, hl, q3⟩ := q3
        have fl : leafy f3 dy = true := by
          cases dy with
          | int i => exact leafy_atom rfl
          | str x => exact leafy_atom rfl
          | _ => cases hk
        have ea : aft y.vs f3 dy (aft x.vs fr d env) = aft x.vs fr d env := if_pos fl
        rw [ea] at st3 r3
        have r3' : R X.K G3 w dy := by
          cases f3 with
          | false => simpa only [RS, Bool.false_eq_true, if_false] using r3
          | true =>
            simp only [RS, if_true] at r3
            cases dy with
            | int _ => exact r3.1.elim
            | str _ => exact r3.1.elim
            | _ => cases hk
        obtain ⟨v4, ev4, ⟨b, ob4, ps4, eb, h4, dp4, g4, rb4⟩, n4⟩ := st3.at_ i _ e2
        rw [ev] at ev4
        cases ev4
        cases eb
        exact .inr (dic_put h4 dp4 rb4 r3' (r2.mono sg3.sub) hk (lim_lt hl) fun o' ps' dp' rq => en.nx _ _ _ _ (st3.changeO (d' := .dict (putD kvs dy d)) e2 ev fun gn => ⟨a, o', ps', rfl, upd_same, dp', gn, rq⟩) (((sb.trans sg.sub).trans sg2).trans sg3.sub) q3)
/-- x op= e -/
theorem aug_rule {op : Operator} {o : Bop} (h : (op = .Add ∧ o = .add) ∨ (op = .Sub ∧ o = .sub) ∨ (op = .Mult ∧ o = .mul) ∨ (op = .FloorDiv ∧ o = .fdiv) ∨ (op = .Mod ∧ o = .mod) ∨ (op = .LShift ∧ o = .shl) ∨ (op = .RShift ∧ o = .shr) ∨ (op = .BitAnd ∧ o = .band) ∨ (op = .BitOr ∧ o = .bor) ∨ (op = .BitXor ∧ o = .bxor)) :
    ∃ r : R2, OpR X (inplaceOp op) r ∧ ∀ {i j : Int} {Qi : Int → Prop} {H : Hp} {Qh : VK}, AugP o i j Qi → (∀ u, Qi u → Qh (.int u) H) → r (.int i) (.int j) H Qh := by
  rcases h with ⟨rfl, rfl⟩ | ⟨rfl, rfl⟩ | ⟨rfl, rfl⟩ | ⟨rfl, rfl⟩ | ⟨rfl, rfl⟩ | ⟨rfl, rfl⟩ | ⟨rfl, rfl⟩ | ⟨rfl, rfl⟩ | ⟨rfl, rfl⟩ | ⟨rfl, rfl⟩
  · exact ⟨_, iop_add, fun {i j Qi H Qh} h k => ⟨i, j, rfl, rfl, k _ h⟩⟩
  · exact ⟨_, iop_sub, fun {i j Qi H Qh} h k => ⟨i, j, rfl, rfl, k _ h⟩⟩
  · exact ⟨_, iop_mul, fun {i j Qi H Qh} h k => ⟨i, j, rfl, rfl, h.1, k _ h.2⟩⟩
  · exact ⟨_, iop_fdivW, fun {i j Qi H Qh} h k => ⟨i, j, rfl, rfl, h.1, k _ h.2⟩⟩
  · exact ⟨_, iop_mod, fun {i j Qi H Qh} h k => ⟨i, j, rfl, rfl, h.1, k _ h.2⟩⟩
  · exact ⟨_, iop_shlW, fun {i j Qi H Qh} h k => ⟨i, j, rfl, rfl, h.1, k _ h.2⟩⟩
  · exact ⟨_, iop_shr, fun {i j Qi H Qh} h k => ⟨i, j, rfl, rfl, h.1, k _ h.2⟩⟩
  · exact ⟨_, iop_and, fun {i j Qi H Qh} h k => ⟨i, j, rfl, rfl, k _ h⟩⟩
  · exact ⟨_, iop_or, fun {i j Qi H Qh} h k => ⟨i, j, rfl, rfl, k _ h⟩⟩
  · exact ⟨_, iop_xor, fun {i j Qi H Qh} h k => ⟨i, j, rfl, rfl, k _ h⟩⟩
theorem sm_aug {op : Operator} {o : Bop} {y : Str} {e : Expr} {i : Nat} {x : Ex} {p pos : Pos} (hop : (op = .Add ∧ o = .add) ∨ (op = .Sub ∧ o = .sub) ∨ (op = .Mult ∧ o = .mul) ∨ (op = .FloorDiv ∧ o = .fdiv) ∨ (op = .Mod ∧ o = .mod) ∨ (op = .LShift ∧ o = .shl) ∨ (op = .RShift ∧ o = .shr) ∨ (op = .BitAnd ∧ o = .band) ∨ (op = .BitOr ∧ o = .bor) ∨ (op = .BitXor ∧ o = .bxor))
    (hN : X.N.Nodup) (hi : X.N[i]? = some y) (hx : Loc X.env.scope y) (hf : X.fn y = true ∨ X.env.scope.names.lookup y = some .local) (hd : ∀ {te : TE} {ti : TIp}, PE X e te → PIp X op ti → PS X (.AugAssign (.Name y p) op e pos) (tAug i te ti)) (he : PE X e (tE X C E x)) :
    PS X (.AugAssign (.Name y p) op e pos) (tS X C E (.aug i o x)) := by
  obtain ⟨r, h1, h2⟩ := aug_rule (X := X) hop
  refine PS.imp (hd he h1) fun D σ H ⟨S, G0, H0, Gb, G, env, k, st, sb, en, h⟩ => ?_
  simp only [Sm.rd] at h
  cases e1 : env[i]? with
  | none => rw [e1] at h; exact h.elim
  | some l =>
    rw [e1] at h
    have hs := st.at_ i l e1
    match l, h, hs with
    | .sh (.int z), h, ⟨v0, ev, rz⟩ =>
      rw [rz.int'] at ev
      refine ⟨_, ev, st.eval en.rz h fun v G' H' fr d st' r sg q0 => ?_⟩
      obtain ⟨w, rfl, q⟩ := isInt_iff q0
      rw [aft_int] at st' r
      have rv : v = .int w := by
        cases fr with
        | false => simp only [RS, Bool.false_eq_true, if_false] at r; exact r.int'
        | true => simp only [RS, if_true] at r; exact r.1.elim
      subst rv
      exact h2 q fun u qu => en.nx _ _ _ _ (st'.setR (.int u)) (sb.trans sg.sub) qu
theorem RS.int {K : PySem.W.Frag} {fr : Bool} {v : V} {w : Int} (r : RS K σ env H0 G H fr v (.int w)) : v = .int w := by
  cases fr with
  | false => simp only [RS, Bool.false_eq_true, if_false] at r; exact r.int'
  | true => simp only [RS, if_true] at r; exact r.1.elim
theorem RS.atom {K : PySem.W.Frag} {fr : Bool} {v : V} {d : PyData} (r : RS K σ env H0 G H fr v d) (h : atomK d = true) : R K G v d := by
  cases fr with
  | false => simpa only [RS, Bool.false_eq_true, if_false] using r
  | true =>
    simp only [RS, if_true] at r
    cases d with
    | int _ => exact r.1.elim
    | str _ => exact r.1.elim
    | _ => cases h
theorem aft_atom {vs : List Nat} {f : Bool} {d : PyData} {env : Env} (h : atomK d = true) : aft vs f d env = env := by
  cases d with
  | int i => exact if_pos (leafy_atom rfl)
  | str x => exact if_pos (leafy_atom rfl)
  | _ => cases h
/-- x = y[j], y perhaps one's own: what is in it is read already -/
theorem sm_asx (hu : X.A.units + 65 < cLine) {o j : Expr} {st : Stmt} {t : Tg} {i : Nat} {y : Ex} {sp : Pos} (ho : PE X o (tVar i)) (hj : PE X j (tE X C E y)) (hp : PlainIx j) (mk : ∀ {te : TE}, PE X (.Subscript o j sp) te → PS X st (tAsg te (tgR X.K t))) :
    PS X st (tS X C E (.asx t i y)) :=
  PS.imp (mk (pe_ix ((ix_list.or ix_tup).or (ix_dict hu)) ho hj hp)) fun D σ H ⟨S, G0, H0, Gb, G, env, k, st, sb, en, h⟩ => by
    simp only [Sm.rd] at h
    obtain ⟨h0, h⟩ := h
    have slot : ∀ {G H : Hp} {env : Env}, StS X.K S G0 H0 G H σ env → ∀ {d : PyData}, slO env i = some d → ∃ v, σ[i]? = some (some v) ∧ ((∃ ds, d = .list ds ∧ ∃ a xs, v = .ref a ∧ SqL X.K H a xs ∧ RAll X.K G xs ds) ∨ (∃ ds, d = .tuple ds ∧ ∃ a xs, v = .ref a ∧ SqT X.K H a xs ∧ RAll X.K G xs ds) ∨ (∃ kvs, d = .dict kvs ∧ ∀ z w, R X.K G w z → keyFor kvs z = true → ∃ a o, v = .ref a ∧ DGet H a w o ∧ (match o with | none => lookD kvs z = none | some u => ∃ d', lookD kvs z = some d' ∧ R X.K G u d')) ∨ (∀ z Q, ¬ IxP d z Q)) := by
      intro G H env st d e
      unfold slO at e
      cases e1 : env[i]? with
      | none => rw [e1] at e; cases e
      | some s =>
        have hs := st.at_ i s e1
        rw [e1] at e
        cases s with
        | un => cases e
        | src => cases e
        | sh d' =>
          cases e
          obtain ⟨v, ev, r⟩ := hs
          refine ⟨v, ev, ?_⟩
          cases d with
          | list ds => obtain ⟨a, xs, rfl, h1, q1⟩ := r.lst'; exact .inl ⟨ds, rfl, a, xs, rfl, SqL.of (st.x.gh _ _ h1), q1⟩
          | tuple ds => obtain ⟨a, xs, rfl, h1, q1⟩ := r.tup'; exact .inr (.inl ⟨ds, rfl, a, xs, rfl, st.x.gh.t h1, q1⟩)
          | dict kvs => exact .inr (.inr (.inl ⟨kvs, rfl, fun z w rz hk => by
              obtain ⟨a, o, e, g, m⟩ := dic_get st.x.gh r rz hk
              exact ⟨a, o, e, g, by cases o <;> exact m⟩⟩))
          | _ => exact .inr (.inr (.inr fun z Q h => by cases z <;> exact h))
        | ow d' =>
          cases e
          obtain ⟨v, ev, ow, n⟩ := hs
          refine ⟨v, ev, ?_⟩
          cases d with
          | list ds => obtain ⟨a, xs, rfl, h1, g, q1⟩ := ow; exact .inl ⟨ds, rfl, a, xs, rfl, SqL.of h1, q1⟩
          | dict kvs =>
            obtain ⟨a, o, ps, rfl, h1, dp, g, q1⟩ := ow
            refine .inr (.inr (.inl ⟨kvs, rfl, fun z w rz hk => ?_⟩))
            obtain ⟨kvs0, rfl, rfl⟩ := dp
            obtain ⟨κ, rfl⟩ := atom_of (show atomK z = true from hk)
            have ek := R.atom rz
            subst ek
            have lk := look_gen kD keyEq_kD κ q1
            cases hv : valV kvs0 κ with
            | none =>
              rw [hv] at lk
              exact ⟨a, none, rfl, .inl ⟨kvs0, κ, .inl h1, rfl, hv.symm⟩, lk⟩
            | some u =>
              rw [hv] at lk
              exact ⟨a, some u, rfl, .inl ⟨kvs0, κ, .inl h1, rfl, hv.symm⟩, lk⟩
          | _ => cases ow
    obtain ⟨d0, e0⟩ := Option.isSome_iff_exists.mp h0
    obtain ⟨v0, ev, _⟩ := slot st e0
    refine ⟨v0, ev, st.eval en.rz h fun w G' H' fr z st' r sg ⟨d, e, q⟩ => ?_⟩
    obtain ⟨v1, ev1, hd⟩ := slot st' e
    rw [ev] at ev1; cases ev1
    have fin : ∀ {u : V} {x : PyData}, R X.K G' u x → t.bnd x (aft y.vs fr z env) k.nx → tgR X.K t u σ H' (fun σ' H'' => D.nx σ' H'') := fun {u x} ru qb =>
      tg_ok (K := X.K) (G := G') (H := H') (fun σ' env' => StS X.K S G0 H0 G' H' σ' env') st'.x.gh t (fun i _ σ' env' v' d' r' p => p.setR r') ru st' qb fun σ' env' p h => en.nx _ _ _ _ p (sb.trans sg.sub) h
    rcases hd with ⟨ds, rfl, a, xs, rfl, h1, q1⟩ | ⟨ds, rfl, a, xs, rfl, h1, q1⟩ | ⟨kvs, rfl, hk⟩ | hn
    · cases z <;> first
        | exact False.elim q
        | (obtain ⟨x, ex, q⟩ := q
           obtain ⟨u, eu, ru⟩ := ixD q1 ex
           rw [RS.int r]
           exact .inl (.inl ⟨a, xs, _, u, rfl, rfl, h1, eu, fin ru q⟩))
    · cases z <;> first
        | exact False.elim q
        | (obtain ⟨x, ex, q⟩ := q
           obtain ⟨u, eu, ru⟩ := ixD q1 ex
           rw [RS.int r]
           exact .inl (.inr ⟨a, xs, _, u, rfl, rfl, h1, eu, fin ru q⟩))
    · have q' : keyFor kvs z = true ∧ ∃ x, lookD kvs z = some x ∧ t.bnd x (aft y.vs fr z env) k.nx := by cases z <;> exact q
      obtain ⟨kf, x, ex, q⟩ := q'
      obtain ⟨a, o, rfl, g, m⟩ := hk z w (RS.atom r kf) kf
      cases o with
      | none => rw [show lookD kvs z = none from m] at ex; cases ex
      | some u =>
        obtain ⟨d', e', ru⟩ := m
        rw [ex] at e'; cases e'
        exact .inr ⟨a, u, rfl, g, fin ru q⟩
    · exact absurd q (hn _ _)
/-- x[j] op= e -/
theorem sm_augx (hu : X.A.units + 65 < cLine) {op : Operator} {o : Bop} {on j e : Expr} {i : Nat} {x y : Ex} {tpos pos : Pos} (hop : (op = .Add ∧ o = .add) ∨ (op = .Sub ∧ o = .sub) ∨ (op = .Mult ∧ o = .mul) ∨ (op = .FloorDiv ∧ o = .fdiv) ∨ (op = .Mod ∧ o = .mod) ∨ (op = .LShift ∧ o = .shl) ∨ (op = .RShift ∧ o = .shr) ∨ (op = .BitAnd ∧ o = .band) ∨ (op = .BitOr ∧ o = .bor) ∨ (op = .BitXor ∧ o = .bxor))
    (ho : PE X on (tVar i)) (hj : PE X j (tE X C E y)) (hsl : ∀ a b c p, j ≠ .Slice a b c p) (he : PE X e (tE X C E x)) : PS X (.AugAssign (.Subscript on j tpos) op e pos) (tS X C E (.augx i y o x)) := by
  obtain ⟨r, h1, h2⟩ := aug_rule (X := X) hop
  refine PS.imp (ps_augS ho hj (PGet.or get_list (get_dict hu)) he h1 (PSet.or set_list (set_dict hu)) (by intros; cases j <;> first | rfl | exact absurd rfl (hsl _ _ _ _))) fun D σ H ⟨S, G0, H0, Gb, G, env, k, st, sb, en, h⟩ => ?_
  simp only [Sm.rd] at h
  cases e1 : env[i]? with
  | none => rw [e1] at h; exact h.elim
  | some l =>
    rw [e1] at h
    have hs := st.at_ i l e1
    match l, h, hs, e1 with
    | .ow (.list ds), h, ⟨v0, ev, _, _⟩, e1 =>
      refine ⟨_, ev, st.eval en.rz h fun v G1 H1 f1 dz st1 r1 sg1 q1 => ?_⟩
      obtain ⟨z, rfl, n, c, hn, hc, q1⟩ := isInt_iff q1
      rw [aft_int] at st1 r1
      cases r1.int
      obtain ⟨v1, ev1, ⟨a, xs, ea, h3, g3, ra⟩, n3⟩ := st1.at_ i _ e1
      rw [ev] at ev1; cases ev1
      subst ea
      obtain ⟨u, hu1, ru⟩ := ra.get n hc
      refine .inl ⟨a, xs, z, u, rfl, rfl, SqL.of h3, ?_, st1.eval en.rz q1 fun w G2 H2 f2 dw st2 r2 sg2 q2 => ?_⟩
      · unfold atI; rw [ra.length, hn]; exact hu1
      obtain ⟨w2, rfl, q2⟩ := isInt_iff q2
      rw [aft_int] at st2 r2
      cases r2.int
      rw [ru.int']
      refine h2 q2 fun u2 qu => ?_
      obtain ⟨v5, ev5, ⟨b, ys, eb, h5, g5, rb⟩, n5⟩ := st2.at_ i _ e1
      rw [ev] at ev5; cases ev5
      cases eb
      exact .inl ⟨a, ys, z, n, rfl, rfl, h5, by rw [rb.length]; exact hn, en.nx _ _ _ _ (st2.change e1 ev (RAll.set (.int u2) n rb)) ((sb.trans sg1.sub).trans sg2.sub) qu⟩
    | .ow (.dict kvs), h, ⟨v0, ev, _, _⟩, e1 =>
      refine ⟨_, ev, st.eval en.rz h fun v G1 H1 f1 dz st1 r1 sg1 q1 => ?_⟩
      obtain ⟨hk, c, hc, hl, q1⟩ := q1
      have hat : atomK dz = true := hk
      rw [aft_atom hat] at st1 r1
      have rz := r1.atom hat
      obtain ⟨v1, ev1, ⟨a, ob, ps, ea, h3, dp, g3, ra⟩, n3⟩ := st1.at_ i _ e1
      rw [ev] at ev1; cases ev1
      subst ea
      obtain ⟨kvs0, rfl, rfl⟩ := dp
      obtain ⟨κ, rfl⟩ := atom_of hat
      have ek := R.atom rz
      subst ek
      have lk := look_gen kD keyEq_kD κ ra
      cases hv : valV kvs0 κ with
      | none => rw [hv] at lk; rw [show lookD kvs (kD κ) = none from lk] at hc; cases hc
      | some u =>
        rw [hv] at lk
        obtain ⟨d', e', ru⟩ := lk
        rw [hc] at e'; cases e'
        refine .inr ⟨a, u, rfl, .inl ⟨kvs0, κ, .inl h3, rfl, hv.symm⟩, st1.eval en.rz q1 fun w G2 H2 f2 dw st2 r2 sg2 q2 => ?_⟩
        obtain ⟨w2, rfl, q2⟩ := isInt_iff q2
        rw [aft_int] at st2 r2
        cases r2.int
        rw [ru.int']
        refine h2 q2 fun u2 qu => ?_
        obtain ⟨v5, ev5, ⟨b, ob5, ps5, eb, h5, dp5, g5, rb⟩, n5⟩ := st2.at_ i _ e1
        rw [ev] at ev5; cases ev5
        cases eb
        exact .inr (dic_put h5 dp5 rb (rz.mono sg2.sub) (.int u2) hk (lim_lt hl) fun o' ps' dp' rq => en.nx _ _ _ _ (st2.changeO (d' := .dict (putD kvs (kD κ) (.int u2))) e1 ev fun gn => ⟨a, o', ps', rfl, upd_same, dp', gn, rq⟩) ((sb.trans sg1.sub).trans sg2.sub) qu)
/-- x.extend(e) -/
theorem sm_ext {o e : Expr} {i : Nat} {x : Ex} {apos cpos pos : Pos} (ho : PE X o (tVar i)) (he : PE X e (tE X C E x)) (ns : ∀ v p, e ≠ .Starred v p)
    (hbase : attributeBase o "extend" X.env (eval o X.env) = eval o X.env) (hline : (apos.endLine == cpos.line) = true)
    (hfew : ((backTo cpos (starEach [e] X.env)).all (fun x => !x.1) && (backToKw cpos (keywordEach [] X.env)).all (fun x => x.1.isSome) && decide ([e].length + ([] : List Keyword).length + (if ([] : List Keyword).isEmpty then 0 else 1) < 30)) = true) :
    PS X (.Expr (.Call (.Attribute o "extend" apos) [e] [] cpos) pos) (tS X C E (.ext i x)) :=
  PS.imp (ps_expr (pe_bm PySem.F.plainAttrs_list PySem.F.slot_list_extend PySem.F.type_list_extend mt_extend ho (pa_cons he pa_nil (star_of ns)) hbase hfew hline (star_of ns) rfl) rfl) fun D σ H ⟨S, G0, H0, Gb, G, env, k, st, sb, en, h⟩ => by
    simp only [Sm.rd] at h
    cases e1 : env[i]? with
    | none => rw [e1] at h; exact h.elim
    | some l =>
      rw [e1] at h
      have hs := st.at_ i l e1
      match l, h, hs with
      | .ow (.list ds0), h, ⟨v0, ev, ⟨a, xs0, ea, h1, g, ra⟩, n⟩ =>
        subst ea
        refine ⟨_, ev, .inl ⟨rfl, xs0, SqL.of h1⟩, st.eval en.rz h fun v G' H' fr d st' r sg q => ?_⟩
        obtain ⟨G2, st2, r2, sg2⟩ := st'.give r
        cases e2 : (aft x.vs fr d env)[i]? with
        | none => rw [e2] at q; exact q.elim
        | some l2 =>
          rw [e2] at q
          have hs2 := st2.at_ i l2 e2
          match l2, q, hs2, e2 with
          | .ow (.list ds), q, ⟨v2, ev2, ⟨b, xs, eb, h2, g2, rb⟩, n2⟩, e2 =>
            subst eb
            rw [ev] at ev2
            cases ev2
            obtain ⟨ys, rfl, hl, q⟩ := isLst_iff q
            obtain ⟨a2, zs, rfl, h4, q4⟩ := r2.lst'
            exact ⟨a, a2, xs, zs, rfl, rfl, h2, st2.x.gh _ _ h4, by rw [rb.length, q4.length]; exact lim_size hl, en.nx _ _ _ _ (st2.change e2 ev (rb.append q4)) ((sb.trans sg.sub).trans sg2) q⟩
abbrev stpF (C : Nat → Fs) (t : Tg) (b : Sms) (k : Kp) : PyData → Env → (Env → Prop) → Prop := fun x env' q => t.bnd x env' fun env2 => b.rd C env2 { k with nx := q, ct := q, bk := k.nx }
abbrev stpW (C : Nat → Fs) (et : Ex) (b : Sms) (k : Kp) : Env → (Env → Prop) → (Env → Prop) → Prop := fun env' q out => et.rd C k.ex env' fun fr d => ∃ c, truth d = some c ∧ if c = true then b.rd C (aft et.vs fr d env') { k with nx := q, ct := q, bk := k.nx } else out (aft et.vs fr d env')
/-- for -/
theorem foldS_cons {step : PyData → Env → (Env → Prop) → Prop} {x : PyData} {xs : List PyData} {Q : Env → Prop} (h : foldS step (x :: xs) env Q) : step x env fun env' => foldS step xs env' Q := h
theorem sm_for {tg iter : Expr} {body : List Stmt} {t : Tg} {it : It} {b : Sms} {pos : Pos} (hp : PassesOwn (model X.prog X.w) X.A X.env X.xe) (hc : X.calm = true) (hi : PI X tg iter (tI X C E it)) (hg : PG X tg (tgR X.K t)) (hb : PSs X body (tSs X C E b)) (hwk : it.wk = true → t.isTp = true)
    (hs : ∀ x, foldedSetIterable iter X.env x = pure x) : PS X (.For tg iter body [] pos) (tS X C E (.for_ t it b)) :=
  PS.imp (ps_for hp hc hi hg hb hs) fun D σ H ⟨S, G0, H0, Gb, G, env, k, st, sb, en, h⟩ => by
    refine ⟨S, _, env, k.ex, _, st.ste it.vs, en.rz.ext (st.frG_ext it.vs).2 st.so, by simpa only [Sm.rd] using h, fun J lf xs G1 H1 y wk hf => ?_⟩
    -- the state at the loop's start
    have start : ∃ G2, StS X.K S G0 H0 G2 H1 σ (if lf = true then env else frz it.vs env) ∧ Walks it.wk X.K S J xs G2 ∧ Sub G G2 := by
      cases lf with
      | true =>
        rw [if_pos rfl]
        obtain ⟨st2, th, sg⟩ := st.back y
        exact ⟨_, st2, wk _ (.inr ⟨rfl, th⟩), sg⟩
      | false =>
        rw [if_neg Bool.false_ne_true]
        exact ⟨_, st.frozen y, wk _ (.inl rfl), (st.frG_ext it.vs).1.trans y.gg⟩
    obtain ⟨G2, st2, wk2, sg0⟩ := start
    refine ⟨fun i m σ' H' => m + i = xs.length ∧ ∃ G' env', StS X.K S G0 H0 G' H' σ' env' ∧ Sub G2 G' ∧ foldS (fun x env' q => t.bnd x env' fun env2 => b.rd C env2 { k with nx := q, ct := q, bk := k.nx }) (xs.drop i) env' k.nx, ⟨xs.length, by simp, G2, _, st2, .refl G2, by simpa using hf⟩, ?_⟩
    rintro i m σ' H' ⟨hm, G', env', st', sg, hfold⟩
    obtain ⟨wgo, wstop⟩ := wk2 G' H' sg st'.x.gh st'.x.src
    by_cases hi : i < xs.length
    · obtain ⟨go, yld⟩ := wgo i _ (List.getElem?_eq_getElem hi)
      refine .inr ⟨go, fun σ5 H5 => ∃ G5 env5, StS X.K S G0 H0 G5 H5 σ5 env5 ∧ Sub G2 G5 ∧ foldS (fun x env' q => t.bnd x env' fun env2 => b.rd C env2 { k with nx := q, ct := q, bk := k.nx }) (xs.drop (i + 1)) env5 k.nx, fun σ5 H5 n5 => ⟨m - 1, by omega, by omega, n5⟩, fun v H3 yy => ?_⟩
      obtain ⟨G3, x3, rv⟩ := yld v H3 yy
      rw [List.drop_eq_getElem_cons hi] at hfold
      have hst := foldS_cons hfold
      have st3 : StS X.K S G0 H0 G3 H3 σ' env' := st'.later x3
      refine tg_okW (K := X.K) (G := G3) (H := H3) (fun σ' env' => StS X.K S G0 H0 G3 H3 σ' env') x3.gh t (fun j _ σ' env' v' d' r' p => p.setR r') hwk rv st3 hst fun σ4 env4 st4 hst4 => ?_
      exact ⟨S, G0, H0, G2, G3, env4, { k with nx := fun e => foldS (stpF C t b k) (xs.drop (i + 1)) e k.nx, ct := fun e => foldS (stpF C t b k) (xs.drop (i + 1)) e k.nx, bk := k.nx }, st4, sg.trans x3.gg, ⟨fun G6 H6 σ6 env6 st6 s6 h6 => ⟨G6, env6, st6, s6, h6⟩, fun G6 H6 σ6 env6 st6 s6 h6 => en.nx _ _ _ _ st6 ((sb.trans sg0).trans s6) h6, fun G6 H6 σ6 env6 st6 s6 h6 => ⟨G6, env6, st6, s6, h6⟩, en.rt, en.rz⟩, hst4⟩
    · have e0 : i = xs.length := by omega
      subst e0
      rw [List.drop_length] at hfold
      exact .inl ⟨wstop, en.nx _ _ _ _ st' ((sb.trans sg0).trans sg) hfold⟩
/-- while -/
theorem sm_whl {t : Expr} {body : List Stmt} {et : Ex} {b : Sms} {pos : Pos} (hp : PassesOwn (model X.prog X.w) X.A X.env X.xe) (ht : PT X t (tT X C E et)) (hb : PSs X body (tSs X C E b)) : PS X (.While t body [] pos) (tS X C E (.whl et b)) :=
  PS.imp (ps_while hp ht hb) fun D σ H ⟨S, G0, H0, Gb, G, env, k, st, sb, en, h⟩ => by
    simp only [Sm.rd] at h
    obtain ⟨n, h⟩ := h
    refine ⟨fun m σ' H' => ∃ G' env', StS X.K S G0 H0 G' H' σ' env' ∧ Sub Gb G' ∧ loopS (fun env' q out => et.rd C k.ex env' fun fr d => ∃ c, truth d = some c ∧ if c = true then b.rd C (aft et.vs fr d env') { k with nx := q, ct := q, bk := k.nx } else out (aft et.vs fr d env')) m env' k.nx, ⟨n, G, env, st, sb, h⟩, ?_⟩
    rintro m σ' H' ⟨G', env', st', sb', hl⟩
    cases m with
    | zero => exact hl.elim
    | succ m =>
      have hl' : et.rd C k.ex env' fun fr d => ∃ c, truth d = some c ∧ if c = true then b.rd C (aft et.vs fr d env') { k with nx := fun e => loopS _ m e k.nx, ct := fun e => loopS _ m e k.nx, bk := k.nx } else k.nx (aft et.vs fr d env') := hl
      refine st'.test en.rz hl' fun G2 H2 fr d st2 sg ⟨c, hc, q⟩ => ⟨c, hc, ?_⟩
      cases c with
      | true =>
        rw [if_pos rfl] at q ⊢
        refine ⟨fun σ3 H3 => ∃ G3 env3, StS X.K S G0 H0 G3 H3 σ3 env3 ∧ Sub Gb G3 ∧ loopS (fun env' q out => et.rd C k.ex env' fun fr d => ∃ c, truth d = some c ∧ if c = true then b.rd C (aft et.vs fr d env') { k with nx := q, ct := q, bk := k.nx } else out (aft et.vs fr d env')) m env3 k.nx, fun σ3 H3 h3 => ⟨m, by omega, h3⟩, ?_⟩
        exact ⟨S, G0, H0, Gb, G2, _, { k with nx := fun e => loopS (stpW C et b k) m e k.nx, ct := fun e => loopS (stpW C et b k) m e k.nx, bk := k.nx }, st2, sb'.trans sg, ⟨fun G6 H6 σ6 env6 st6 s6 h6 => ⟨G6, env6, st6, s6, h6⟩, fun G6 H6 σ6 env6 st6 s6 h6 => en.nx _ _ _ _ st6 s6 h6, fun G6 H6 σ6 env6 st6 s6 h6 => ⟨G6, env6, st6, s6, h6⟩, en.rt, en.rz⟩, q⟩
      | false =>
        rw [if_neg Bool.false_ne_true] at q ⊢
        exact en.nx _ _ _ _ st2 (sb'.trans sg) q

/-! ### several targets at once -/
/-- values one behind another, the new ones apart from each other -/
def RSs (K : PySem.W.Frag) (σ : L2.St) (env : Env) (H0 G H : Hp) : List V → List (Bool × PyData) → Prop
  | [], [] => True
  | v :: vs, p :: ps => RS K σ env H0 G H p.1 v p.2 ∧ (p.1 = true → ∀ (j : Nat) (w : V) (q : Bool × PyData), vs[j]? = some w → ps[j]? = some q → q.1 = true → w ≠ v) ∧ RSs K σ env H0 G H vs ps
  | _, _ => False
def setAll : List Nat → List V → L2.St → L2.St
  | i :: is, v :: vs, σ => setAll is vs (σ.set i (some v))
  | _, _, σ => σ
theorem RSs.length {K : PySem.W.Frag} : ∀ {vs : List V} {ps : List (Bool × PyData)}, RSs K σ env H0 G H vs ps → vs.length = ps.length
  | [], [], _ => rfl
  | _ :: _, _ :: _, h => by rw [List.length_cons, List.length_cons, RSs.length h.2.2]
  | [], _ :: _, h => h.elim
  | _ :: _, [], h => h.elim
/-- a slot is stored: what else is held stays -/
theorem RS.stored {K : PySem.W.Frag} {i : Nat} {v w : V} {f f' : Bool} {d d' : PyData} (h : RS K σ env H0 G H f v d) (r : RS K σ env H0 G H f' w d') (ne : f = true → f' = true → v ≠ w) : RS K (σ.set i (some w)) (env.set i (put f' d')) H0 G H f v d := by
  cases f with
  | false => exact h
  | true =>
    simp only [RS, if_true] at h ⊢
    refine ⟨h.1, fun a ea => ⟨(h.2 a ea).1, fun j d2 e1 e2 => ?_⟩⟩
    by_cases hj : i = j
    · subst hj
      have hl : i < σ.length := by
        by_cases hl : i < σ.length
        · exact hl
        · rw [List.getElem?_eq_none (by simpa using hl)] at e2; cases e2
      rw [List.getElem?_set_self hl] at e2
      have ew : w = v := Option.some.inj (Option.some.inj e2)
      have hl2 : i < env.length := by
        by_cases hl2 : i < env.length
        · exact hl2
        · rw [List.getElem?_eq_none (by simpa using hl2)] at e1; cases e1
      rw [List.getElem?_set_self hl2] at e1
      cases f' with
      | false => simp [put] at e1
      | true => exact ne rfl rfl ew.symm
    · rw [List.getElem?_set_ne hj] at e1 e2
      exact (h.2 a ea).2 j d2 e1 e2
theorem RSs.stored {K : PySem.W.Frag} {i : Nat} {w : V} {f' : Bool} {d' : PyData} (r : RS K σ env H0 G H f' w d') : ∀ {vs : List V} {ps : List (Bool × PyData)}, RSs K σ env H0 G H vs ps → (f' = true → ∀ (j : Nat) (u : V) (q : Bool × PyData), vs[j]? = some u → ps[j]? = some q → q.1 = true → u ≠ w) → RSs K (σ.set i (some w)) (env.set i (put f' d')) H0 G H vs ps
  | [], [], _, _ => trivial
  | v :: vs, p :: ps, h, ne => ⟨h.1.stored r fun a b => ne b 0 v p rfl rfl a, h.2.1, RSs.stored r h.2.2 fun a j u q e1 e2 => ne a (j + 1) u q (by simpa using e1) (by simpa using e2)⟩
  | [], _ :: _, h, _ => h.elim
  | _ :: _, [], h, _ => h.elim
theorem StS.putAll : ∀ {is : List Nat} {vs : List V} {ps : List (Bool × PyData)} {σ : L2.St} {env : Env}, StS X.K S G0 H0 G H σ env → RSs X.K σ env H0 G H vs ps → StS X.K S G0 H0 G H (setAll is vs σ) (putAll is ps env)
  | [], vs, ps, σ, env, st, h => by
    unfold setAll DL.putAll
    exact st
  | i :: is, [], [], σ, env, st, h => by
    unfold setAll DL.putAll
    exact st
  | i :: is, v :: vs, p :: ps, σ, env, st, h => by
    unfold setAll DL.putAll
    exact StS.putAll (st.put h.1) (RSs.stored h.1 h.2.2 h.2.1)
  | i :: is, [], _ :: _, σ, env, st, h => h.elim
  | i :: is, _ :: _, [], σ, env, st, h => h.elim
theorem aft_ow {vs : List Nat} {f : Bool} {d d' : PyData} {i : Nat} (h : (aft vs f d env)[i]? = some (Sl.ow d')) : env[i]? = some (Sl.ow d') := by
  unfold aft at h
  split at h
  · exact h
  · obtain ⟨s0, e0, z⟩ := frz_get h
    obtain ⟨rfl, _⟩ := frz1_ow z.symm
    exact e0
/-- what several expressions leave as it is -/
structure StF (S : Sx) (σ : L2.St) (env env' : Env) (G H G' H' : Hp) (vs : List V) (fs : List (Bool × PyData)) : Prop where
  sub : Sub G G'
  kp : ∀ a o, H a = some o → nsrc S a → H' a = some o
  nw : ∀ a, (H a).isSome = true → G a = none → (∀ (i : Nat) (d : PyData), env[i]? = some (Sl.ow d) → σ[i]? ≠ some (some (.ref a))) → G' a = none
  ow : ∀ (i : Nat) (d : PyData), env'[i]? = some (Sl.ow d) → env[i]? = some (Sl.ow d)
  new : ∀ (j : Nat) (w : V) (q : Bool × PyData), vs[j]? = some w → fs[j]? = some q → q.1 = true → ∀ a, w = .ref a → H a = none
def tF (X : Cx) (C : Nat → Fs) (E : XK) (es : Exs) : TA := fun σ H Qh => ∃ S G0 H0 G env Ep Q, StS X.K S G0 H0 G H σ env ∧ Rz X.mg S G0 H0 Ep E ∧ es.rdf C Ep env Q ∧ ∀ vs G' H' fs env', StS X.K S G0 H0 G' H' σ env' → RSs X.K σ env' H0 G' H' vs fs →
  StF S σ env env' G H G' H' vs fs → Q fs env' → Qh vs H'
theorem sf_nil : PA X [] (tF X C E .nil) := PA.imp pa_nil fun σ H Qh ⟨S, G0, H0, G, env, Ep, Q, st, rz, h, k⟩ =>
  k [] G H [] env st trivial ⟨.refl G, fun _ _ e _ => e, fun _ _ e _ => e, fun _ _ e => e, fun j w q e => by simp at e⟩ (by simpa only [Exs.rdf] using h)
theorem sf_cons {e : Expr} {es : List Expr} {x : Ex} {xs : Exs} (ha : PE X e (tE X C E x)) (hr : PA X es (tF X C E xs)) (ns : ∀ v p, e ≠ .Starred v p) : PA X (e :: es) (tF X C E (.cons x xs)) :=
  PA.imp (pa_cons ha hr (star_of ns)) fun σ H Qh ⟨S, G0, H0, G, env, Ep, Q, st, rz, h, k⟩ =>
    st.eval rz (by simpa only [Exs.rdf] using h) fun v G1 H1 f d st1 r1 p1 q1 => by
      refine ⟨S, G0, H0, G1, aft x.vs f d env, Ep, _, st1, rz, q1, fun vs G2 H2 fs env2 st2 rs p2 q2 => ?_⟩
      have some1 : ∀ a, (H a).isSome = true → nsrc S a → (H1 a).isSome = true := fun a hs ns => by
        obtain ⟨o, ho⟩ := Option.isSome_iff_exists.mp hs
        rw [p1.kp a o ho ns]; rfl
      have rv : RS X.K σ env2 H0 G2 H2 f v d := by
        cases f with
        | false => simp only [RS, Bool.false_eq_true, if_false] at r1 ⊢; exact r1.mono p2.sub
        | true =>
          simp only [RS, if_true] at r1 ⊢
          refine ⟨r1.1.move p2.sub (fun a o ea ho => p2.kp a o ho (nsrc_fresh st.so (r1.2 a ea).1)) (fun a ea ga => ?_), fun a ea => ⟨(r1.2 a ea).1, fun i d' e1 => (r1.2 a ea).2 i d' (p2.ow i d' e1)⟩⟩
          obtain ⟨a', o', ea', ho', _⟩ := r1.1.at
          rw [ea] at ea'; cases ea'
          refine p2.nw a (by rw [ho']; rfl) ga fun i d' e1 => ?_
          have z := (r1.2 a ea).2 i d' e1
          rw [ea] at z
          exact z
      refine k (v :: vs) G2 H2 ((f, d) :: fs) env2 st2 ⟨rv, fun hf j w q ew eq hq => ?_, rs⟩ ⟨p1.sub.trans p2.sub, fun a o ho ns => p2.kp a o (p1.kp a o ho ns) ns, fun a hs ga no => ?_, fun i d' e1 => aft_ow (p2.ow i d' e1), fun j w q ew eq hq a ea => ?_⟩ q2
      · rintro rfl
        have hf' : f = true := hf
        subst hf'
        simp only [RS, if_true] at r1
        obtain ⟨a, o, ea, ho, _⟩ := r1.1.at
        have z := p2.new j w q ew eq hq a ea
        rw [ho] at z; cases z
      · by_cases ns : nsrc S a
        · exact p2.nw a (some1 a hs ns) (p1.nw a hs ga no) fun i d' e1 => no i d' (aft_ow e1)
        · exact (st2.x.src.isSome ns).2
      · cases j with
        | zero =>
          have e1 : v = w := by simpa using ew
          have e2 : (f, d) = q := by simpa using eq
          subst e1 e2
          exact p1.new hq a ea
        | succ j =>
          have z := p2.new j w q (by simpa using ew) (by simpa using eq) hq a ea
          by_cases ns : nsrc S a
          · cases hz : H a with
            | none => rfl
            | some o => rw [p1.kp a o hz ns] at z; cases z
          · have := (st1.x.src.isSome ns).1
            rw [z] at this; cases this
/-- a, b = e1, e2 : by swapped stores -/
theorem sm_par2 {st : Stmt} {i j : Nat} {xs : Exs} (h : PS X st (tPar i j (tF X C E xs))) : PS X st (tS X C E (.par [i, j] xs)) :=
  PS.imp h fun D σ H ⟨S, G0, H0, Gb, G, env, k, st, sb, en, h⟩ => by
    refine ⟨S, G0, H0, G, env, k.ex, _, st, en.rz, by simpa only [Sm.rd] using h, fun vs G' H' fs env' st' rs p q => ?_⟩
    obtain ⟨hl, q⟩ := q
    have e := rs.length
    rw [hl] at e
    match vs, e, rs with
    | [v, w], _, rs => exact ⟨v, w, rfl, en.nx _ _ _ _ (st'.putAll (is := [i, j]) rs) (sb.trans p.sub) q⟩
theorem sm_par3 {st : Stmt} {i j l : Nat} {xs : Exs} (h : PS X st (tPar3 i j l (tF X C E xs))) : PS X st (tS X C E (.par [i, j, l] xs)) :=
  PS.imp h fun D σ H ⟨S, G0, H0, Gb, G, env, k, st, sb, en, h⟩ => by
    refine ⟨S, G0, H0, G, env, k.ex, _, st, en.rz, by simpa only [Sm.rd] using h, fun vs G' H' fs env' st' rs p q => ?_⟩
    obtain ⟨hl, q⟩ := q
    have e := rs.length
    rw [hl] at e
    match vs, e, rs with
    | [u, v, w], _, rs => exact ⟨u, v, w, rfl, en.nx _ _ _ _ (st'.putAll (is := [i, j, l]) rs) (sb.trans p.sub) q⟩
/-- targets that are names -/
def nmsR : List Nat → TGs
  | [] => gNil
  | i :: r => gCons (gName i) (nmsR r)
theorem nms_ok : ∀ {is : List Nat} {vs : List V} {σ : L2.St} {H : Hp} {Q : L2.St → Hp → Prop}, vs.length = is.length → Q (setAll is vs σ) H → nmsR is vs σ H Q
  | [], [], σ, H, Q, _, h => ⟨rfl, h⟩
  | i :: is, v :: vs, σ, H, Q, e, h => ⟨v, vs, rfl, nms_ok (by simpa using e) h⟩
theorem RSs.later {K : PySem.W.Frag} {p : Addr} {o : HO} (n : H p = none) : ∀ {vs : List V} {fs : List (Bool × PyData)}, RSs K σ env H0 G H vs fs → RSs K σ env H0 G (upd H p o) vs fs
  | [], [], h => trivial
  | v :: vs, q :: fs, h => by
    refine ⟨?_, h.2.1, RSs.later n h.2.2⟩
    have h1 := h.1
    unfold RS at h1 ⊢
    split
    · rename_i hq
      rw [if_pos hq] at h1
      exact ⟨h1.1.move (.refl G) (fun a u _ hu => by rw [upd_ne (ne_of_none hu n)]; exact hu) (fun _ _ g => g), h1.2⟩
    · rename_i hq
      rw [if_neg hq] at h1
      exact h1
  | [], _ :: _, h => h.elim
  | _ :: _, [], h => h.elim
/-- a, b = e1, e2 : by a tuple -/
theorem sm_parT {st : Stmt} {is : List Nat} {xs : Exs} (hsz : is.length ≤ 1000) (h : PS X st (tAsg (tTup (tF X C E xs)) (gTup X.K is.length (nmsR is)))) : PS X st (tS X C E (.par is xs)) :=
  PS.imp h fun D σ H ⟨S, G0, H0, Gb, G, env, k, st, sb, en, h⟩ => by
    refine ⟨S, G0, H0, G, env, k.ex, _, st, en.rz, by simpa only [Sm.rd] using h, fun vs G' H' fs env' st' rs p q => ?_⟩
    obtain ⟨hl, q⟩ := q
    have e := rs.length
    rw [hl] at e
    refine ⟨by rw [e, sizeLine_eq]; omega, fun a ha => ⟨a, vs, rfl, SqT.of upd_same, e, nms_ok e ?_⟩⟩
    exact en.nx _ _ _ _ ((st'.later (.newO st'.x.gh st'.x.src ha)).putAll (rs.later ha)) (sb.trans p.sub) q
end
end DL
set_option Elab.async false
set_option linter.all false
set_option maxRecDepth 100000
set_option maxHeartbeats 4000000
/-! D9: the row's own syntax into mine. -/
namespace DL
open PySem PySem.Spec PyProof.Rows L2

structure Tc where
  N : List Str
  sc : Scope
  ft : List (Str × Nat)
  gl : List (Str × PyData) := []
def nix : List Str → Str → Option Nat
  | [], _ => none
  | y :: r, x => if y = x then some 0 else (nix r x).map (· + 1)
theorem nix_get : ∀ {N : List Str} {x : Str} {i : Nat}, nix N x = some i → N[i]? = some x
  | [], _, _, h => by cases h
  | y :: r, x, i, h => by
    unfold nix at h
    split at h
    · cases h; rename_i e; subst e; rfl
    · simp only [Option.map_eq_some_iff] at h
      obtain ⟨j, h1, rfl⟩ := h
      simpa using nix_get h1
/-- a def's number -/
def fnIx : List (Str × Nat) → Str → Option Nat
  | [], _ => none
  | p :: r, x => if p.1 = x then some p.2 else fnIx r x
theorem fnIx_get : ∀ {N : List (Str × Nat)} {x : Str} {j : Nat}, fnIx N x = some j → (x, j) ∈ N
  | [], _, _, h => by cases h
  | p :: r, x, j, h => by
    unfold fnIx at h
    split at h
    · cases h; rename_i e; subst e; exact List.mem_cons_self ..
    · exact List.mem_cons_of_mem _ (fnIx_get h)
def Tc.kind (c : Tc) (x : Str) : Option NameKind := c.sc.names.lookup x
def visK : Option NameKind → Bool
  | some .local => true | some .cell => true | some .free => true | _ => false
def locK : Option NameKind → Bool
  | some .local => true | some .cell => true | _ => false
def glK : Option NameKind → Bool
  | some .globalImplicit => true | _ => false
def trV (c : Tc) (x : Str) : Option Nat := if visK (c.kind x) && !(x == ("__debug__" : Str)) && !(x == ("__classdict__" : Str)) then nix c.N x else none
def trC : Const → Option PyData
  | .none => some .none | .bool b => some (.bool b) | .int i => some (.int i) | .str x => some (.str x) | _ => none
def trOp : Operator → Option Bop
  | .Add => some .add | .Sub => some .sub | .Mult => some .mul | .FloorDiv => some .fdiv | .Mod => some .mod | .Pow => some .pow | .LShift => some .shl | .RShift => some .shr
  | .BitAnd => some .band | .BitOr => some .bor | .BitXor => some .bxor | _ => none
def trCop : CmpOp → Cop
  | .Eq => .eq | .NotEq => .ne | .Lt => .lt | .LtE => .le | .Gt => .gt | .GtE => .ge | .Is => .isnt true | .IsNot => .isnt false | .In => .in_ true | .NotIn => .in_ false
theorem trCop_is (op : CmpOp) : CmpIs op (trCop op) := by cases op <;> constructor
def mapX (f : Expr → Option Ex) : List Expr → Option Exs
  | [] => some .nil
  | e :: r => match f e, mapX f r with
    | some x, some xs => some (.cons x xs)
    | _, _ => none
def isVar : Ex → Bool
  | .var _ => true | _ => false
/-- a call's arguments -/
def mapA (v : Str → Option Nat) (f : Expr → Option Ex) : List Expr → Option Exs
  | [] => some .nil
  | e :: r => match mapA v f r with
    | none => none
    | some xs => match e with
      | .Name x p => match v x with
        | some i => some (.cons (.var i) xs)
        | none => match f (.Name x p) with
          | some y => if isVar y then none else some (.cons y xs)
          | none => none
      | e => match f e with
        | some y => if isVar y then none else some (.cons y xs)
        | none => none
def trB (f : Expr → Option Ex) (mk : Ex → Ex → Ex) : List Expr → Option Ex
  | [] => none
  | [a] => f a
  | a :: b :: r => match f a, trB f mk (b :: r) with
    | some x, some y => some (mk x y)
    | _, _ => none
def mkB : BoolOp → Ex → Ex → Ex
  | .And => .and_ | .Or => .or_
def trCmp (f : Expr → Option Ex) (a : Expr) : List CmpOp → List Expr → Option Ex
  | [op], [b] => match behindInMarks op b, f a, f b with
    | false, some x, some y => some (.cmp (trCop op) x y)
    | _, _, _ => none
  | [op, op'], [b, d] => match lastMarks [op, op'] [b, d], f a, f b, f d with
    | false, some x, some y, some z => some (.cmp2 (trCop op) (trCop op') x y z)
    | _, _, _, _ => none
  | _, _ => none
def biOf (x : Str) : Option Bi :=
  if x = "len" then some .len else if x = "abs" then some .abs else if x = "max" then some .max else if x = "min" then some .min else if x = "int" then some .int
  else if x = "tuple" then some .tuple else if x = "list" then some .list else if x = "sum" then some .sum else if x = "repr" then some .repr else if x = "sorted" then some .sorted
  else if x = "all" then some .all else if x = "any" then some .any else none
/-- the built-ins that are named -/
def blts : List Str := ["len", "abs", "max", "min", "int", "tuple", "list", "sum", "range", "repr", "sorted", "all", "any", "isinstance", "zip", "enumerate", "bool", "str", "dict"]
def tyOf (x : Str) : Option Ty :=
  if x = "tuple" then some .tup else if x = "int" then some .int else if x = "bool" then some .bool else if x = "str" then some .str else if x = "list" then some .list else if x = "dict" then some .dict else none
def isaOf (c : Tc) (g : Expr → Option Ex) (a : Expr) : List Expr → Option Ex
  | [.Name t _] => if glK (c.kind t) then (match tyOf t, g a with
    | some T, some x => some (.isa x T)
    | _, _ => none) else none
  | _ => none
def nameOf (c : Tc) (x : Str) : Option Ex := if glK (c.kind x) && !(x == ("__debug__" : Str)) then (c.gl.lookup x).map .lit else (trV c x).map .var
def isM1 : Expr → Bool
  | .UnaryOp .USub (.Constant (.int 1) _ _) _ => true
  | _ => false
def isTupE : Expr → Bool
  | .Tuple .. => true | _ => false
def kwOf : List Keyword → Bool
  | [⟨some k, .Constant (.bool true) _ _, _⟩] => k == ("strict" : Str)
  | _ => false
def isSet : Expr → Bool
  | .Set .. => true | _ => false
def isBare : Expr → Bool
  | .Call (.Name _ _) [] [] _ => true | _ => false
/-- methods with arguments -/
def mtOf (m : Str) : Option Mt := if m = ("index" : Str) then some .index else if m = ("get" : Str) then some .get else if m = ("count" : Str) then some .count else none
theorem mtOf_ok {m : Str} {t : Mt} (h : mtOf m = some t) : m = mtName t ∧ t ≠ .bits := by
  unfold mtOf at h
  split at h
  · cases h; exact ⟨by assumption, by intro z; cases z⟩
  · split at h
    · cases h; exact ⟨by assumption, by intro z; cases z⟩
    · split at h
      · cases h; exact ⟨by assumption, by intro z; cases z⟩
      · cases h
def ownOf (N : List Str) (sc : Scope) : List (Str × Nat) := sc.names.filterMap fun p => if locK (some p.2) then (nix N p.1).map fun i => (p.1, i) else none
def trO (f : Expr → Option Ex) : Option Expr → Option Exo
  | none => some .no
  | some e => (f e).map .so
def mapT (f : Expr → Option Tg) : List Expr → Option Tgs
  | [] => some .nil
  | e :: r => match f e, mapT f r with
    | some x, some xs => some (.cons x xs)
    | _, _ => none
def trTg : Nat → Tc → Expr → Option Tg
  | 0, _, _ => none
  | n + 1, c, e => match e with
    | .Name x _ => if locK (c.kind x) then (nix c.N x).map .nm else none
    | .Tuple es _ _ => (mapT (trTg n c) es).map .tp
    | _ => none
def subB (a b : List Nat) : Bool := a.all fun i => b.contains i
/-- list(range(n)) -/
def lrngOf (c : Tc) (g : Expr → Option Ex) (f : Str) : List Expr → Option Ex
  | [.Call (.Name r _) [b] [] _] => if decide (f = ("list" : Str)) && (decide (r = ("range" : Str)) && glK (c.kind r)) then (g b).map .lrng else none
  | _ => none
/-- sorted(dict(a)) -/
def sdkOf (c : Tc) (g : Expr → Option Ex) (f : Str) : List Expr → Option Ex
  | [.Call (.Name r _) [b] [] _] => if decide (f = ("sorted" : Str)) && (decide (r = ("dict" : Str)) && glK (c.kind r)) then (g b).map .sdk else none
  | _ => none
/-- (*a, b) -/
def starOf (g : Expr → Option Ex) : List Expr → Option Ex
  | [.Starred a _, b] => match g a, g b with
    | some x, some y => some (.star x y)
    | _, _ => none
  | _ => none
mutual
def trE : Nat → Tc → Expr → Option Ex
  | 0, _, _ => none
  | n + 1, c, e => match e with
    | .Name x _ => nameOf c x
    | .Dict [] [] _ => some .dic0
    | .Constant k _ _ => (trC k).map .lit
    | .Tuple es _ _ => match starOf (trE n c) es with
      | some x => some x
      | none => (mapX (trE n c) es).map .tup
    | .List es _ => (mapX (trE n c) es).map .lst
    | .BinOp a op b _ => match trOp op, trE n c a, trE n c b with
      | some o, some x, some y => some (.bin o x y)
      | _, _, _ => none
    | .UnaryOp .USub a _ => (trE n c a).map .neg
    | .UnaryOp .Not a _ => (trE n c a).map .not_
    | .BoolOp op vs _ => trB (trE n c) (mkB op) vs
    | .Compare a ops bs _ => trCmp (trE n c) a ops bs
    | .IfExp t a b _ => match trT n c t, trE n c a, trE n c b with
      | some z, some x, some y => some (.ite z x y)
      | _, _, _ => none
    | .Call (.Name f _) (a :: es) [] _ => if glK (c.kind f) then
        match lrngOf c (trE n c) f (a :: es) with
        | some x => some x
        | none => match sdkOf c (trE n c) f (a :: es) with
        | some x => some x
        | none => match biOf f with
        | some b => (mapX (trE n c) (a :: es)).map (.bi b)
        | none => if f = ("isinstance" : Str) then isaOf c (trE n c) a es else match fnIx c.ft f, mapA (trV c) (trE n c) (a :: es) with
          | some j, some xs => if f == ("__debug__" : Str) then none else some (.call j xs)
          | _, _ => none
      else none
    | .Call (.Name f _) [a] [⟨some kw, .Name g _, _⟩] _ => if f = ("sorted" : Str) && kw == ("key" : Str) && glK (c.kind f) && glK (c.kind g) && !(g == ("__debug__" : Str)) then
        match fnIx c.ft g, mapA (trV c) (trE n c) [a] with
        | some j, some xs => if decide (j < 10000) then some (.call (10000 + j) xs) else none
        | _, _ => none
      else none
    | .Call (.Attribute o m ap) [] [] p => if m = ("bit_length" : Str) && !isBare o && ap.endLine == p.line then (trE n c o).map fun x => .mth .bits x .nil else none
    | .Call (.Attribute o m ap) (a :: es) [] p => match mtOf m, trE n c o, mapX (trE n c) (a :: es) with
      | some t, some x, some xs => if !isBare o && (ap.endLine == p.line) && decide ((a :: es).length < 20) then some (.mth t x xs) else none
      | _, _, _ => none
    | .Subscript o i _ => match i with
      | .Slice lo hi none _ => match trE n c o, trO (trE n c) lo, trO (trE n c) hi with
        | some x, some l, some h => some (.slc x l h)
        | _, _, _ => none
      | .Slice none none (some st) _ => if isM1 st then (trE n c o).map .rev else none
      | .Slice _ _ (some _) _ => none
      | i => match trE n c o, trE n c i with
        | some x, some y => some (.ix x y)
        | _, _ => none
    | .ListComp elt [g] scope _ =>
      if blkC c.N c.sc scope (ownOf c.N scope) && decide (g.is_async = 0) && !isSet g.iter && decide (g.ifs.length ≤ 1) then
        match trI n c (isTupE g.target) g.iter, trTg n { c with sc := scope } g.target, mapX (trT n { c with sc := scope }) g.ifs, trE n { c with sc := scope } elt with
        | some it, some t, some cs, some x => if subB t.sl ((ownOf c.N scope).map (·.2)) then some (.comp x t it cs ((ownOf c.N scope).map (·.2))) else none
        | _, _, _, _ => none
      else none
    | _ => none
def trT : Nat → Tc → Expr → Option Ex
  | 0, _, _ => none
  | n + 1, c, e => match e with
    | .UnaryOp .Not a _ => (trT n c a).map .not_
    | .BoolOp op vs _ => trB (trT n c) (mkB op) vs
    | .Compare a ops bs _ => trCmp (trE n c) a ops bs
    | .IfExp .. => none
    | e => trE n c e
def trI : Nat → Tc → Bool → Expr → Option It
  | 0, _, _, _ => none
  | n + 1, c, tt, e => match e with
    | .Call (.Name f _) [a] [] _ => if f = ("range" : Str) then (if glK (c.kind f) then (trE n c a).map .range1 else none)
      else if f = ("enumerate" : Str) then (if glK (c.kind f) && tt then (trE n c a).map .enum else none) else (trE n c e).map .seq
    | .Call (.Name f _) [a, b] [] _ => if f = ("range" : Str) then (if glK (c.kind f) then (match trE n c a, trE n c b with
      | some x, some y => some (.range2 x y)
      | _, _ => none) else none)
      else if f = ("zip" : Str) then (if glK (c.kind f) && tt then (match trE n c a, trE n c b with
      | some x, some y => some (.zip x y)
      | _, _ => none) else none) else (trE n c e).map .seq
    | .Call (.Name f _) [a, b, s] [] _ => if f = ("range" : Str) then (if glK (c.kind f) && isM1 s then (match trE n c a, trE n c b with
      | some x, some y => some (.rangd x y)
      | _, _ => none) else none) else (trE n c e).map .seq
    | .Call (.Name f _) [a, b] (k :: ks) _ => if f = ("zip" : Str) && glK (c.kind f) && tt && kwOf (k :: ks) then (match trE n c a, trE n c b with
      | some x, some y => some (.zips x y)
      | _, _ => none) else none
    | e => (trE n c e).map .seq
end
/-- what is unpacked at once has a tuple's target -/
theorem trI_wk : ∀ {n : Nat} {c : Tc} {tt : Bool} {e : Expr} {it : It}, trI n c tt e = some it → it.wk = true → tt = true
  | 0, _, _, _, _, h, _ => by simp [trI] at h
  | n + 1, c, tt, e, it, h, w => by
    have seq : (trE n c e).map It.seq = some it → tt = true := fun h => by
      simp only [Option.map_eq_some_iff] at h
      obtain ⟨y, _, rfl⟩ := h
      cases w
    simp only [trI] at h
    split at h
    · split at h
      · split at h
        · simp only [Option.map_eq_some_iff] at h
          obtain ⟨y, _, rfl⟩ := h
          cases w
        · cases h
      · split at h
        · split at h
          · rename_i hg
            simp only [Bool.and_eq_true] at hg
            exact hg.2
          · cases h
        · exact seq h
    · split at h
      · split at h
        · split at h
          · cases h; cases w
          · cases h
        · cases h
      · split at h
        · split at h
          · rename_i hg
            simp only [Bool.and_eq_true] at hg
            exact hg.2
          · cases h
        · exact seq h
    · split at h
      · split at h
        · split at h
          · cases h; cases w
          · cases h
        · cases h
      · exact seq h
    · split at h
      · rename_i hg
        simp only [Bool.and_eq_true] at hg
        exact hg.1.2
      · cases h
    · exact seq h
theorem trTg_tp : ∀ {n : Nat} {c : Tc} {tg : Expr} {t : Tg}, trTg n c tg = some t → isTupE tg = true → t.isTp = true
  | 0, _, _, _, h, _ => by simp [trTg] at h
  | n + 1, c, tg, t, h, w => by
    cases tg with
    | Tuple es k p =>
      simp only [trTg, Option.map_eq_some_iff] at h
      obtain ⟨u, _, rfl⟩ := h
      rfl
    | _ => exact (Bool.false_ne_true w).elim
end DL
set_option Elab.async false
set_option linter.all false
set_option maxRecDepth 100000
set_option maxHeartbeats 4000000
/-! Dk: sorted(xs, key=f), f a def. -/
namespace DL
open PySem PySem.Spec PyProof.Rows L2
/-- what sorted(xs, key=f) is worth, by what f is worth -/
def SortP (c : Fs) : Fs := fun sl Q _ => ∃ (xs : List PyData) (k : PyData → PyData), sl = [.sh (.list xs)] ∧ (∀ x ∈ xs, c [.sh x] (fun _ d => d = k x) fun _ => False) ∧ okS (xs.map k) ∧ xs.length ≤ lim ∧ Q true (.list (xs.mergeSort (PySem.W.dataLe false k)))
/-- keys are gathered: what was known stands -/
structure KeyW (K : PySem.W.Frag) (G H Gn Hn : Hp) : Prop where
  gg : Sub G Gn
  gh : Sub Gn Hn
  kp : ∀ b o, H b = some o → Hn b = some o
  nw : ∀ b, (H b).isSome = true → Gn b = G b
theorem KeyW.refl {K : PySem.W.Frag} {G H : Hp} (s : Sub G H) : KeyW K G H G H := ⟨.refl G, s, fun _ _ e => e, fun _ _ => rfl⟩
section
variable {X : Cx} {pins : List (Addr × Obj)} {σ : L2.St} {lv : Nat} {f : Addr} {fd : FuncData} {ps : List Str} {c : Fs}
/-- a key -/
theorem key_call {G0 H0 G H : Hp} {s : Shared} {E : Value → Shared → Prop} {v : V} {u : Value} {d kd : PyData} {Q : Value → Shared → Prop} (F : FnG X.prog X.w X.K X.mg X.base lv f fd ps (SpOf X.K X.mg c)) (room : Room lv X.A.in1.in1) (calm : Calm X.A) (hb : L2.Binds X.K fd ps [])
    (I : Inv X pins σ H s) (w : KeyW X.K G0 H0 G H) (rv : L2.RelV v u) (r : R X.K G v d) (key : c [.sh d] (fun _ z => z = kd) fun _ => False)
    (q : ∀ u' s' G' H' v', Inv X pins σ H' s' → KeyW X.K G0 H0 G' H' → Sub G G' → (∀ b o, s.heap.get? b = some o → H b = none → b ≠ X.env.locals → b ∉ X.fs → s'.heap.get? b = some o) → (∀ b o, s.heap.get? b = some o → H b = none → H' b = none) → L2.RelV v' u' → R X.K G' v' kd → Q u' s') :
    wpAny (model X.prog X.w) X.A.in1.in1 (call (.ref f) [u]) Q E s := by
  have sp : SpOf X.K X.mg c [v] H (fun v' H' => Post X.K none G H (fun _ z => z = kd) v' H') E0 :=
    ⟨none, G, [.sh d], fun _ z => z = kd, fun _ => False, w.gh, .no, .cons r .nil, key, fun x v' G' H' _ z => z.elim, fun v' H' p => p⟩
  have el : ([u] ++ []).length = ps.length := by rw [List.append_nil]; exact F.len _ _ _ _ sp
  have bt := hb s [u] I.kIn el
  rw [List.append_nil] at bt
  have e0 : Env0 X.prog X.w X.K X.mg X.base X.A.in1.in1 X.stack s H := ⟨I.env0.frames, I.env0.mod, I.env0.bs, I.env0.bsz, I.env0.funs, I.env0.frf, I.env0.hok, I.env0.bare⟩
  refine wpAny_call (codeAny_mono (F.run X.A.in1.in1 X.stack s H ⟨[u], []⟩ [u] [v] _ _ room calm.in1.in1 e0 bt (.cons rv .nil) sp) ?_)
  intro out s' got
  match out, got with
  | .error z, got =>
    obtain ⟨_, _, _, _, _, _, _, _, _, _, _, _, bad⟩ := got
    exact bad.elim
  | .ok (.ret z), got =>
    obtain ⟨v', H', os, bare, un, hok, rz, p⟩ := got
    obtain ⟨hh, g, dr, tk, os'⟩ := s'
    obtain rfl : os' = s.os := os
    have p : Post X.K none G H (fun _ z => z = kd) v' H' := p
    obtain ⟨G', fr, d', x, r', e⟩ := p.frz .no
    have e : d' = kd := e
    subst e
    refine q _ _ G' H' v' (I.call (h' := hh) (g' := g) (d' := dr) (t' := tk) (ch := []) un hok bare (fun b z => absurd z (by simp)))
      ⟨w.gg.trans x.gg, x.gh, fun b o e => x.kp b o (w.kp b o e) nsrc_none, fun b e => ?_⟩ x.gg (fun b o e n h1 h2 => un.keep b o e n (fun z => (List.mem_cons.mp (I.stkSub b z)).elim h1 h2) (by simp)) (fun b o e n => un.free b o e n (by simp)) rz r'
    obtain ⟨o, ho⟩ := Option.isSome_iff_exists.mp e
    rw [x.nw b (by rw [w.kp b o ho]; rfl), w.nw b e]
/-- all keys, then the items in their sequence -/
theorem sortK_rest {G H : Hp} {s : Shared} {E : Value → Shared → Prop} {P : PySem.Fin → Shared → Prop} {a kS : Addr} {e1 : Nat} {vs : List Value} {ys : List V} {xs : List PyData} {k : PyData → PyData} (F : FnG X.prog X.w X.K X.mg X.base lv f fd ps (SpOf X.K X.mg c)) (room : Room lv X.A.in1.in1) (calm : Calm X.A) (hb : L2.Binds X.K fd ps [])
    (sy : SysD X.base) (I : Inv X pins σ H s) (sub : Sub G H) (vr : Vals ys vs) (ra : RAll X.K G ys xs) (key : ∀ x ∈ xs, c [.sh x] (fun _ z => z = k x) fun _ => False) (ok : okS (xs.map k)) (hz : xs.length ≤ sizeLine)
    (fa : FpOk X pins H a) (fk : FpOk X pins H kS) (hka : kS ≠ a) (na : s.heap.get? a = some (seqObj "list" #[] e1)) (nk : s.heap.get? kS = some (seqObj "list" #[] 0))
    (h : ∀ s' Gn Hn zs, Inv X pins σ (upd Hn a (.lst zs)) s' → KeyW X.K G H Gn Hn → Hn a = none → RAll X.K Gn zs (xs.mergeSort (PySem.W.dataLe false k)) → P (.done (.ret .none)) s') :
    wpAny (model X.prog X.w) X.A.in1.in1 (ksk_rest a (.ref f) false vs.toArray e1 (.ref kS)) P E s := by
  have lens : vs.length = xs.length := by rw [← vr.length, ra.length]
  obtain ⟨al, so, dp, hnn⟩ := okS_ok ok
  unfold ksk_rest
  refine wpAny_bind (wpAny_rule ?_)
  rw [List.forIn_toArray]
  refine wpAny_bind (ksk_fold (fun i s' => ∃ Gi Hi kvs kA ep, Inv X pins σ Hi s' ∧ KeyW X.K G H Gi Hi ∧ FpOk X pins Hi a ∧ FpOk X pins Hi kS ∧ s'.heap.get? a = some (seqObj "list" #[] e1) ∧ s'.heap.get? kS = some (seqObj "list" kA ep) ∧ Vals kvs kA.toList ∧ RAll X.K Gi kvs ((xs.take i).map k)) vs 0 s
    ⟨G, H, [], #[], 0, I, .refl sub, fa, fk, na, nk, .nil, by simpa using RAll.nil⟩ ?_ ?_)
  · rintro j u s' hu ⟨Gi, Hi, kvs, kA, ep, Ii, w, fai, fki, nai, nki, kv, kr⟩
    simp only [Nat.zero_add] at kr ⊢
    have hj : j < vs.length := (List.getElem?_eq_some_iff.mp hu).1
    obtain ⟨v, hv, rv⟩ := vals_get vr hu
    obtain ⟨d, hd, rd⟩ := ra.getV j hv
    have kl : kA.size = j := by
      have h1 : kvs.length = kA.toList.length := Vals.length kv
      have h2 : kvs.length = ((xs.take j).map k).length := kr.length
      rw [List.length_map, List.length_take] at h2
      have h3 : kA.toList.length = kA.size := Array.length_toList
      omega
    refine wpAny_bind (wpAny_attempt (key_call F room calm hb Ii w rv (rd.mono w.gg) (key d (List.mem_of_getElem? hd)) ?_))
    intro u' s2 G' H' v' I' w' gg keep free rv' rk
    have na2 := keep a _ nai fai.1 fai.2.1 fai.2.2.1
    have nk2 := keep kS _ nki fki.1 fki.2.1 fki.2.2.1
    have fa2 : FpOk X pins H' a := ⟨free a _ nai fai.1, fai.2⟩
    have fk2 : FpOk X pins H' kS := ⟨free kS _ nki fki.1, fki.2⟩
    have sb := Heap.SameBut.update s2.heap kS (Obj.mapSeq (·.push u'))
    refine wpAny_bind (listUpdate_at nk2 rfl ?_ (by omega) (by rw [Array.size_push]; omega))
    refine wpAny_pure ⟨rfl, G', H', kvs ++ [v'], kA.push u', _, I'.turned (t' := s2.toks) (fun b o hb e => (sb.2 b hb).trans e) fk2.1 fk2.2.1 fk2.2.2.2.1 fk2.2.2.2.2.1 fk2.2.2.2.2.2, w', fa2, fk2, (sb.2 a hka.symm).trans na2, get?_update_seq nk2 (·.push u'), ?_, ?_⟩
    · rw [Array.toList_push]
      exact kv.append (.cons rv' .nil)
    · rw [List.take_add_one, hd, Option.toList_some, List.map_append]
      exact (RAll.mono gg kr).append (.one rk)
  · rintro s' ⟨Gi, Hi, kvs, kA, ep, Ii, w, fai, fki, nai, nki, kv, kr⟩
    rw [Nat.zero_add, lens, List.take_length] at kr
    have kl : kA.size = vs.length := by
      have h1 : kvs.length = kA.toList.length := Vals.length kv
      have h2 : kvs.length = (xs.map k).length := kr.length
      rw [List.length_map] at h2
      have h3 : kA.toList.length = kA.size := Array.length_toList
      omega
    refine wpAny_bind (listItems_at nki rfl ?_)
    obtain ⟨Gh, g1, g2⟩ := restrict s'.heap fun b => decide (b ≠ kS)
    have gk : Gh.get? kS = none := g2 kS (decide_eq_false fun z => z rfl)
    have gs : ∀ b o, b ≠ kS → s'.heap.get? b = some o → Gh.get? b = some o := fun b o hb e => by rw [g1 b (decide_eq_true hb)]; exact e
    have gb : ∀ b o, Gh.get? b = some o → s'.heap.get? b = some o := fun b o e => by
      by_cases hb : b = kS
      · rw [hb, gk] at e; cases e
      · rw [← g1 b (decide_eq_true hb)]; exact e
    have I2 : Inv X pins σ Hi { s' with heap := Gh, toks := s'.toks } := Ii.turned gs fki.1 fki.2.1 fki.2.2.2.1 fki.2.2.2.2.1 fki.2.2.2.2.2
    obtain ⟨as, rds, -⟩ := kr.reads Ii sy w.gh kv
    have hk : PySem.W.EachIs (fun v d => ∃ as, Reads s'.heap v d as) kA.toList (xs.map k) := each_read rds
    refine PySem.W.keyH_end (κ := PySem.W.dataKind s'.heap (xs.map k)) (h₁ := Gh) (fun b o _ e => gb b o e) gk nki nai hka
      (sorts_data hk al so hnn fun d hd => by have := depth_mem hd; show X.A.units + 2 + d.depth < cLine; have := room.un; have e : X.A.in1.in1.units = X.A.units + 2 := rfl; omega) kl (by omega) fun h' tk cc kp hn => ?_
    have ko : PySem.W.KeyedOut false (xs.map k) vs (PySem.W.sortVals (PySem.W.dataKind s'.heap (xs.map k)) false kA.toList vs) := ⟨s'.heap, kA.toList, al, rfl, hk⟩
    have ho := ko.length (by rw [List.length_map]; exact lens.symm)
    have eo := PySem.W.keyedOut_each k ko (ru_each (h := s'.heap) vr (RAll.mono w.gg ra))
    obtain ⟨zs, z1, z2⟩ := each_ru eo
    refine h { s' with heap := h', toks := tk } Gi Hi zs (Inv.take (s := { s' with heap := Gh, toks := s'.toks }) (h' := h') (t' := tk) I2 (fun b ob hb e => kp b ob hb e) fai ⟨by rw [z1.length]; omega, _, cc, z1, hn⟩) w fai.1 z2
def rSortK (X : Cx) (f : Addr) (c : Fs) : List V → List V → Hp → VK → Prop := fun ws zs H Qh => ∃ G v xs k, Sub G H ∧ R X.K G v (.list xs) ∧ ws = [v] ∧ zs = [.ref f] ∧ (∀ x ∈ xs, c [.sh x] (fun _ z => z = k x) fun _ => False) ∧ okS (xs.map k) ∧ xs.length ≤ lim ∧
  ∀ p Gn Hn ys, H p = none → Hn p = none → KeyW X.K G H Gn Hn → RAll X.K Gn ys (xs.mergeSort (PySem.W.dataLe false k)) → Qh (.ref p) (upd Hn p (.lst ys))
theorem call_sortK (F : FnG X.prog X.w X.K X.mg X.base lv f fd ps (SpOf X.K X.mg c)) (room : Room lv X.A.in1.in1) (calm : Calm X.A) (hb : L2.Binds X.K fd ps []) (sy : SysD X.base) : CallRK X (.builtin "sorted") [Str.ofString "key"] (rSortK X f c) := by
  rintro pins s σ H ws zs us vs Q I vr vz ⟨G, v, xs, k, sub, r, rfl, rfl, key, ok, hz, q⟩
  obtain ⟨a, ys, rfl, h1, q1⟩ := r.lst'
  obtain rfl := Vals.ref1 vr
  obtain rfl := Vals.ref1 vz
  obtain ⟨its, iv, p, hs⟩ := I.list (SqL.of (sub _ _ h1))
  have li : its.length = xs.length := by
    have l1 : ys.length = its.length := Vals.length iv
    have l2 := q1.length
    omega
  have hz2 := lim_size hz
  refine PySem.W.sorted_of_sort (vs := its) p.isList (by omega) (PyProof.Rows.ksk_s1 _ _) (fun _ => PyProof.Rows.ksk_l1 _ _) fun E' => ?_
  rw [show Builtin.«list.sort» ⟨[.ref (s.heap.objs.size + 1)], [Str.ofString "key"].zip [Value.ref f]⟩ = ksk_tree (s.heap.objs.size + 1) (.ref f) false from PyProof.Rows.ksk_t1 _ _]
  have at0 := PySem.W.copyHeap_at s.heap its
  have sz0 : s.heap.objs.size + 1 < (PySem.W.copyHeap s.heap its).objs.size := Heap.lt_size at0
  have old0 : ∀ b o, s.heap.get? b = some o → (PySem.W.copyHeap s.heap its).get? b = some o := fun b o e => PySem.W.copyHeap_old e
  generalize PySem.W.copyHeap s.heap its = h0 at *
  have neA : ∀ b o, s.heap.get? b = some o → b ≠ (s.heap.objs.size + 1) := fun b o e => Nat.ne_of_lt (Nat.lt_succ_of_lt (Heap.lt_size e))
  obtain ⟨e1, at1⟩ : ∃ e1, (h0.update (s.heap.objs.size + 1) (Obj.mapSeq fun _ => (#[] : Array Value))).get? (s.heap.objs.size + 1) = some (seqObj "list" #[] e1) := ⟨_, get?_update_seq at0 fun _ => #[]⟩
  have sb1 := Heap.SameBut.update h0 (s.heap.objs.size + 1) (Obj.mapSeq fun _ => (#[] : Array Value))
  have sz1 : (h0.update (s.heap.objs.size + 1) (Obj.mapSeq fun _ => (#[] : Array Value))).objs.size = h0.objs.size := Heap.size_update ..
  unfold ksk_tree
  refine wpAny_bind (listItems_at at0 rfl ?_)
  refine wpAny_bind (listUpdate_at at0 rfl ?_ (by rw [List.size_toArray]; omega) (Nat.zero_le _))
  refine wpAny_bind (seqEpoch_at at1 rfl ?_)
  refine wpAny_bind (wpAny_newTuple ?_ (by show its.toArray.toList.length ≤ _; simp; omega))
  refine wpAny_bind (wpAny_newList ?_ (Nat.zero_le _))
  refine wpAny_holding ?_
  generalize h0.update (s.heap.objs.size + 1) (Obj.mapSeq fun _ => (#[] : Array Value)) = h1' at *
  have kk : ∀ b o, s.heap.get? b = some o → ((h1'.push { cls := .type "tuple", data := .seq its.toArray.toList.toArray }).push (seqObj "list" #[] 0)).get? b = some o := fun b o e =>
    Heap.get?_push_of_some _ (Heap.get?_push_of_some _ ((sb1.2 b (neA b o e)).trans (old0 b o e)))
  have I1 : Inv X pins σ H { s with heap := (h1'.push { cls := .type "tuple", data := .seq its.toArray.toList.toArray }).push (seqObj "list" #[] 0), toks := s.toks } := I.kept kk
  have szk : (h1'.push { cls := .type "tuple", data := .seq its.toArray.toList.toArray }).objs.size = h0.objs.size + 1 := by rw [size_push', sz1]
  have hAn : H (s.heap.objs.size + 1) = none := I.hok.fresh (by omega)
  refine sortK_rest (vs := its) (ys := ys) (xs := xs) (k := k) (a := (s.heap.objs.size + 1)) (kS := (h1'.push { cls := .type "tuple", data := .seq its.toArray.toList.toArray }).objs.size) (e1 := e1) F room calm hb sy I1 sub iv q1 key ok hz2
    (I.fpOk (Nat.le_succ _) hAn) (I.fpOk (by rw [szk]; omega) (I.hok.fresh (by rw [szk]; omega))) (by rw [szk]; exact Nat.ne_of_gt (by omega)) (Heap.get?_push_of_some _ (Heap.get?_push_of_some _ at1)) (Heap.get?_push_size _ rfl) fun s' Gn Hn zs In w nA rn => ⟨rfl, ?_⟩
  exact ⟨.ref (s.heap.objs.size + 1), _, In, rfl, q (s.heap.objs.size + 1) Gn Hn zs hAn nA w rn⟩
variable {C : Nat → Fs} {E : XK} {e : Expr} {xs : Exs} {pos p gp kp : Pos}
theorem sd_sortK {j : Nat} {g : Str} (hg : Gl X "sorted") (hm : X.mg "sorted" = none) (Fa : FnAt X lv g (C j)) (hgl : Gl X g) (hgd : (g == ("__debug__" : Str)) = false) (room : Room lv X.A.in1.in1) (calm : Calm X.A) (sy : SysD X.base) (hs : C (10000 + j) = SortP (C j))
    (ha : PA X [e] (tAa X C E xs)) (ns : ∀ v p, e ≠ .Starred v p) : PE X (.Call (.Name "sorted" p) [e] [⟨some "key", .Name g gp, kp⟩] pos) (tE X C E (.call (10000 + j) xs)) := by
  obtain ⟨f, fd, ps, hmf, hkf, hb, ok⟩ := Fa
  refine PE.imp (pe_callBK (call_sortK ok room calm hb sy) hg hm (by decide +kernel) ha (pk_cons (pe_glob (v := .ref f) hgl hmf rfl hgd) pk_nil) (by decide) (by decide) (by rw [star_of ns]; rfl) (by rw [star_of ns]; rfl) (by rfl) (by rfl) (by rfl)) fun σ H Qh ⟨S, G, env, Ep, Q, q0, h⟩ => ?_
  refine ⟨S, G, env, Ep, _, q0.st, q0.rz, by simpa only [Ex.rd] using h, fun ws G' H' sl x1 r1 q1 => ?_⟩
  have p1 := q0.go x1
  rw [hs] at q1
  obtain ⟨ds, k, rfl, key, ok2, len, q1⟩ := q1
  cases r1 with
  | cons r r1 =>
    cases r1
    refine ⟨G', _, ds, k, p1.sub, r, rfl, rfl, key, ok2, len, fun q Gn Hn ys nq nn w rn => p1.fin _ _ ⟨Gn, true, _, ?_, ?_, q1⟩⟩
    · have gq : Gn q = none := by
        cases z : Gn q with
        | none => rfl
        | some u => rw [w.gh _ _ z] at nn; cases nn
      refine ⟨w.gg, w.gh.upr gq, fun b o z _ => ?_, w.nw, fun sa ca z => ?_⟩
      · rw [upd_ne (fun y => by rw [y, nq] at z; cases z)]
        exact w.kp b o z
      · obtain ⟨g1, g2, ne, ns, l, m, t, h1, h2, hr⟩ := p1.st.src sa ca z
        have n1 : sa ≠ q := fun y => by rw [y, nq] at h1; cases h1
        have n2 : ca ≠ q := fun y => by rw [y, nq] at h2; cases h2
        exact ⟨by rw [w.nw _ (by rw [h1]; rfl)]; exact g1, by rw [w.nw _ (by rw [h2]; rfl)]; exact g2, ne, ns, l, m, t, by rw [upd_ne n1]; exact w.kp _ _ h1, by rw [upd_ne n2]; exact w.kp _ _ h2, hr⟩
    · simp only [RF, if_true]
      refine ⟨⟨q, ys, rfl, upd_same, ?_, rn⟩, fun b z => by cases z; exact nq⟩
      cases z : Gn q with
      | none => rfl
      | some u => rw [w.gh _ _ z] at nn; cases nn
end
end DL
set_option Elab.async false
set_option linter.all false
set_option maxRecDepth 100000
set_option maxHeartbeats 4000000
/-! D10: the translation of expressions is sound. -/
namespace DL
open PySem PySem.Spec PyProof.Rows L2

/-- the module's name x is the constant d -/
def GlV (mg : Str → Option Value) (x : Str) : PyData → Prop
  | .int i => ∃ t, mg x = some (.int i t)
  | .str z => ∃ t, mg x = some (.str z t)
  | _ => False
/-- a context that the translation fits -/
structure Cok (X : Cx) (c : Tc) (C : Nat → Fs) (E : XK) (lv : Nat) : Prop where
  N : X.N = c.N
  nd : c.N.Nodup
  sk : X.env.scope.kind = .function
  lk : ∀ x k, c.sc.names.lookup x = some k → k ≠ .free → X.env.scope.names.lookup x = some k
  fr : ∀ x, c.sc.names.lookup x = some .free → X.env.scope.names.lookup x = some .free ∨ X.env.scope.names.lookup x = some .cell
  fn : ∀ x, c.sc.names.lookup x = some .cell → X.fn x = true
  calm : X.calm = true
  room : Room lv X.A
  room2 : Room lv X.A.in1.in1
  srt : ∀ j, j < 10000 → C (10000 + j) = SortP (C j)
  gd : Calm X.A
  pass : Passes (L2.CX X.prog X.w) X E
  fns : ∀ j x, (x, j) ∈ c.ft → FnAt X lv x (C j)
  bi : ∀ x ∈ blts, X.mg x = none
  sy : SysD X.base
  gls : ∀ x d, c.gl.lookup x = some d → GlV X.mg x d

section
variable {X : Cx} {c : Tc} {C : Nat → Fs} {E : XK} {lv : Nat}
theorem Cok.hu (k : Cok X c C E lv) : X.A.units + 65 < cLine := by have := k.room.un; omega
theorem vis_of (k : Cok X c C E lv) {x : Str} (h : visK (c.kind x) = true) : Vis X.env.scope x := by
  unfold Tc.kind at h
  cases e : c.sc.names.lookup x with
  | none => rw [e] at h; cases h
  | some q =>
    rw [e] at h
    cases q with
    | «local» => exact .inl (k.lk x _ e (by decide))
    | cell => exact .inr (.inl (k.lk x _ e (by decide)))
    | free =>
      rcases k.fr x e with z | z
      · exact .inr (.inr z)
      · exact .inr (.inl z)
    | globalExplicit => cases h
    | globalImplicit => cases h
theorem loc_of (k : Cok X c C E lv) {x : Str} (h : locK (c.kind x) = true) : Loc X.env.scope x ∧ (X.fn x = true ∨ X.env.scope.names.lookup x = some .local) := by
  unfold Tc.kind at h
  cases e : c.sc.names.lookup x with
  | none => rw [e] at h; cases h
  | some q =>
    rw [e] at h
    cases q with
    | «local» => exact ⟨.inl (k.lk x _ e (by decide)), .inr (k.lk x _ e (by decide))⟩
    | cell => exact ⟨.inr (k.lk x _ e (by decide)), .inl (k.fn x e)⟩
    | free => cases h
    | globalExplicit => cases h
    | globalImplicit => cases h
theorem gl_of (k : Cok X c C E lv) {x : Str} (h : glK (c.kind x) = true) : Gl X x := by
  unfold Tc.kind at h
  cases e : c.sc.names.lookup x with
  | none => rw [e] at h; cases h
  | some q =>
    rw [e] at h
    cases q with
    | globalImplicit => exact k.lk x _ e (by decide)
    | «local» => cases h
    | cell => cases h
    | free => cases h
    | globalExplicit => cases h
theorem trV_ok (k : Cok X c C E lv) {x : Str} {i : Nat} {pos : Pos} (h : trV c x = some i) : PE X (.Name x pos) (tVar i) ∧ PE X (.Name x pos) (tE X C E (.var i)) := by
  unfold trV at h
  split at h
  · rename_i hc
    simp only [Bool.and_eq_true, Bool.not_eq_true'] at hc
    have hN : X.N[i]? = some x := by rw [k.N]; exact nix_get h
    exact ⟨pe_var hN (vis_of k hc.1.1) hc.1.2 hc.2, sd_var hN (vis_of k hc.1.1) hc.1.2 hc.2⟩
  · cases h
theorem name_ok (k : Cok X c C E lv) {x : Str} {e : Ex} {pos : Pos} (h : nameOf c x = some e) : PE X (.Name x pos) (tE X C E e) := by
  unfold nameOf at h
  split at h
  · rename_i hc
    simp only [Bool.and_eq_true, Bool.not_eq_true'] at hc
    simp only [Option.map_eq_some_iff] at h
    obtain ⟨d, hd, rfl⟩ := h
    have g := k.gls x d hd
    cases d with
    | int i => obtain ⟨t, ht⟩ := g; exact sd_lit (pe_glob (v := .int i) (gl_of k hc.1) ht ⟨t, rfl⟩ hc.2) fun G => .int i
    | str z => obtain ⟨t, ht⟩ := g; exact sd_lit (pe_glob (v := .str z) (gl_of k hc.1) ht ⟨t, rfl⟩ hc.2) fun G => .str z
    | none => exact g.elim
    | bool b => exact g.elim
    | list _ => exact g.elim
    | tuple _ => exact g.elim
    | dict _ => exact g.elim
  · simp only [Option.map_eq_some_iff] at h
    obtain ⟨i, hi, rfl⟩ := h
    exact (trV_ok k hi).2
theorem nostar {n : Nat} {v : Expr} {p : Pos} : trE n c (.Starred v p) = none := by
  cases n <;> simp [trE]
theorem ns_of {n : Nat} {e : Expr} {x : Ex} (h : trE n c e = some x) : ∀ v p, e ≠ .Starred v p := fun v p z => by
  rw [z, nostar] at h; cases h
theorem mapX_cons {f : Expr → Option Ex} {e : Expr} {r : List Expr} {xs : Exs} (h : mapX f (e :: r) = some xs) : ∃ y ys, f e = some y ∧ mapX f r = some ys ∧ xs = .cons y ys := by
  simp only [mapX] at h
  split at h
  · rename_i y ys h1 h2; cases h; exact ⟨y, ys, h1, h2, rfl⟩
  · cases h
theorem plain_of {f : Expr → Option Ex} (hn : ∀ e x, f e = some x → ∀ v p, e ≠ .Starred v p) : ∀ {es : List Expr} {xs : Exs} {pos : Pos} {env : PySem.Env}, mapX f es = some xs → (backTo pos (starEach es env)).any (·.1) = false
  | [], xs, pos, env, h => rfl
  | e :: r, xs, pos, env, h => by
    obtain ⟨y, ys, h1, h2, rfl⟩ := mapX_cons h
    rw [star_of (hn e y h1)]
    show (false || (backTo pos (starEach r env)).any (·.1)) = false
    rw [plain_of hn h2]; rfl
theorem mapX_A {f : Expr → Option Ex} (hf : ∀ e x, f e = some x → PE X e (tE X C E x)) (hn : ∀ e x, f e = some x → ∀ v p, e ≠ .Starred v p) : ∀ {es : List Expr} {xs : Exs}, mapX f es = some xs → PA X es (tA X C E xs)
  | [], xs, h => by cases h; exact sa_nil
  | e :: r, xs, h => by
    obtain ⟨y, ys, h1, h2, rfl⟩ := mapX_cons h
    exact sa_cons (hf e y h1) (mapX_A hf hn h2) (hn e y h1)
theorem mapX_F {f : Expr → Option Ex} (hf : ∀ e x, f e = some x → PE X e (tE X C E x)) (hn : ∀ e x, f e = some x → ∀ v p, e ≠ .Starred v p) : ∀ {es : List Expr} {xs : Exs}, mapX f es = some xs → PA X es (tF X C E xs)
  | [], xs, h => by cases h; exact sf_nil
  | e :: r, xs, h => by
    obtain ⟨y, ys, h1, h2, rfl⟩ := mapX_cons h
    exact sf_cons (hf e y h1) (mapX_F hf hn h2) (hn e y h1)
theorem mapA_ok {v : Str → Option Nat} {f : Expr → Option Ex} (hf : ∀ e x, f e = some x → PE X e (tE X C E x)) (hv : ∀ x i p, v x = some i → PE X (.Name x p) (tVar i)) (hn : ∀ e x, f e = some x → ∀ v p, e ≠ .Starred v p) : ∀ {es : List Expr} {xs : Exs}, mapA v f es = some xs → PA X es (tAa X C E xs) ∧ ∀ {pos : Pos} {env : PySem.Env}, (backTo pos (starEach es env)).any (·.1) = false
  | [], xs, h => by cases h; exact ⟨saa_nil, rfl⟩
  | e :: r, xs, h => by
    unfold mapA at h
    split at h
    · cases h
    · rename_i ys hr
      obtain ⟨ih, ih2⟩ := mapA_ok hf hv hn hr
      have fin : ∀ (ns : ∀ v p, e ≠ .Starred v p) {pos : Pos} {env : PySem.Env}, (backTo pos (starEach (e :: r) env)).any (·.1) = false := fun ns {pos env} => by
        rw [star_of ns]
        show (false || (backTo pos (starEach r env)).any (·.1)) = false
        rw [ih2]; rfl
      split at h
      · rename_i x p
        split at h
        · rename_i i hi
          cases h
          exact ⟨saa_var (hv x i p hi) ih (fun _ _ z => by cases z), fin (fun _ _ z => by cases z)⟩
        · split at h
          · rename_i y hy
            split at h
            · cases h
            · rename_i hvar
              cases h
              exact ⟨saa_cons (hf _ y hy) (fun i z => by subst z; exact hvar rfl) ih (hn _ y hy), fin (hn _ y hy)⟩
          · cases h
      · split at h
        · rename_i y hy
          split at h
          · cases h
          · rename_i hvar
            cases h
            exact ⟨saa_cons (hf e y hy) (fun i z => by subst z; exact hvar rfl) ih (hn e y hy), fin (hn e y hy)⟩
        · cases h
theorem trB_cons {f : Expr → Option Ex} {mk : Ex → Ex → Ex} {a b : Expr} {r : List Expr} {x : Ex} (h : trB f mk (a :: b :: r) = some x) : ∃ y z, f a = some y ∧ trB f mk (b :: r) = some z ∧ x = mk y z := by
  simp only [trB] at h
  split at h
  · rename_i y z h1 h2; cases h; exact ⟨y, z, h1, h2, rfl⟩
  · cases h
theorem trB_E {f : Expr → Option Ex} (hf : ∀ e x, f e = some x → PE X e (tE X C E x)) {op : BoolOp} {pos : Pos} : ∀ {vs : List Expr} {x : Ex}, trB f (mkB op) vs = some x → PE X (.BoolOp op vs pos) (tE X C E x)
  | [], x, h => by cases h
  | [a], x, h => sd_one (hf a x h)
  | a :: b :: r, x, h => by
    obtain ⟨y, z, h1, h2, rfl⟩ := trB_cons h
    cases op with
    | And => exact sd_and (hf a y h1) (trB_E hf h2)
    | Or => exact sd_or (hf a y h1) (trB_E hf h2)
theorem trB_T {f : Expr → Option Ex} (hf : ∀ e x, f e = some x → PT X e (tT X C E x)) {op : BoolOp} {pos : Pos} : ∀ {vs : List Expr} {x : Ex}, trB f (mkB op) vs = some x → PW X (.BoolOp op vs pos) (tT X C E x)
  | [], x, h => by cases h
  | [a], x, h => st_one (hf a x h)
  | a :: b :: r, x, h => by
    obtain ⟨y, z, h1, h2, rfl⟩ := trB_cons h
    cases op with
    | And => exact st_and (hf a y h1) (trB_T hf h2)
    | Or => exact st_or (hf a y h1) (trB_T hf h2)
theorem trCmp_ok {f : Expr → Option Ex} (hu : X.A.units + 65 < cLine) (hf : ∀ e x, f e = some x → PE X e (tE X C E x)) {a : Expr} {ops : List CmpOp} {bs : List Expr} {x : Ex} {pos : Pos} (h : trCmp f a ops bs = some x) : PE X (.Compare a ops bs pos) (tE X C E x) ∧ PT X (.Compare a ops bs pos) (tT X C E x) := by
  unfold trCmp at h
  split at h
  · split at h
    · rename_i op b y z h0 h1 h2
      cases h
      exact ⟨sd_cmp hu (trCop_is _) h0 (hf _ _ h1) (hf _ _ h2), st_cmp hu (trCop_is _) h0 (hf _ _ h1) (hf _ _ h2)⟩
    · cases h
  · split at h
    · rename_i op op' b d y z u h0 h1 h2 h3
      cases h
      exact ⟨sd_cmp2 hu (trCop_is _) (trCop_is _) h0 (hf _ _ h1) (hf _ _ h2) (hf _ _ h3), st_cmp2 hu (trCop_is _) (trCop_is _) h0 (hf _ _ h1) (hf _ _ h2) (hf _ _ h3)⟩
    · cases h
  · cases h
theorem trOp_ok {a b : Expr} {op : Operator} {o : Bop} {x y : Ex} {pos : Pos} (h : trOp op = some o) (ha : PE X a (tE X C E x)) (hb : PE X b (tE X C E y)) : PE X (.BinOp a op b pos) (tE X C E (.bin o x y)) := by
  cases op <;> cases h
  · exact sd_add ha hb
  · exact sd_sub ha hb
  · exact sd_mul ha hb
  · exact sd_mod ha hb
  · exact sd_pow ha hb
  · exact sd_shl ha hb
  · exact sd_shr ha hb
  · exact sd_bor ha hb
  · exact sd_bxor ha hb
  · exact sd_band ha hb
  · exact sd_fdiv ha hb
theorem trC_ok {k : Const} {d : PyData} {j : Nat} {pos : Pos} (h : trC k = some d) : PE X (.Constant k j pos) (tE X C E (.lit d)) := by
  cases k <;> cases h
  · exact sd_lit pe_non fun _ => .non
  · exact sd_lit pe_bl fun _ => .bl _
  · exact sd_lit pe_int fun _ => .int _
  · exact sd_lit pe_str fun _ => .str _

/-! ### a comprehension's block -/
theorem relabel_keep {env : PySem.Env} : ∀ {names : List (Str × NameKind)} {x : Str} {k : NameKind}, names.lookup x = some k → k ≠ .free →
    (names.map fun (n, k) => if (k == NameKind.free && env.scope.kind == .function && env.kindOf n == some .cell) then (n, NameKind.cell) else (n, k)).lookup x = some k
  | [], x, k, h, _ => by simp at h
  | (n, q) :: r, x, k, h, hk => by
    rw [List.lookup_cons] at h
    rw [List.map_cons]
    cases hb : x == n with
    | true =>
      rw [hb] at h
      have hq : q = k := Option.some.inj h
      have e : (q == NameKind.free && env.scope.kind == .function && env.kindOf n == some .cell) = false := by
        have : (q == NameKind.free) = false := by rw [hq]; simpa using hk
        rw [this]; rfl
      show List.lookup x ((if (q == NameKind.free && env.scope.kind == .function && env.kindOf n == some .cell) = true then (n, NameKind.cell) else (n, q)) :: _) = some k
      rw [if_neg (by rw [e]; decide), List.lookup_cons, hb, hq]
    | false =>
      rw [hb] at h
      have ih := relabel_keep (env := env) h hk
      show List.lookup x ((if (q == NameKind.free && env.scope.kind == .function && env.kindOf n == some .cell) = true then (n, NameKind.cell) else (n, q)) :: _) = some k
      have z : (if (q == NameKind.free && env.scope.kind == .function && env.kindOf n == some .cell) = true then (n, NameKind.cell) else (n, q)).1 = n := by split <;> rfl
      rw [List.lookup_cons, z, hb]
      exact ih
theorem relabel_free {env : PySem.Env} : ∀ {names : List (Str × NameKind)} {x : Str}, names.lookup x = some .free →
    (names.map fun (n, k) => if (k == NameKind.free && env.scope.kind == .function && env.kindOf n == some .cell) then (n, NameKind.cell) else (n, k)).lookup x = some .free ∨ (names.map fun (n, k) => if (k == NameKind.free && env.scope.kind == .function && env.kindOf n == some .cell) then (n, NameKind.cell) else (n, k)).lookup x = some .cell
  | [], x, h => by simp at h
  | (n, q) :: r, x, h => by
    rw [List.lookup_cons] at h
    rw [List.map_cons]
    show (List.lookup x ((if (q == NameKind.free && env.scope.kind == .function && env.kindOf n == some .cell) = true then (n, NameKind.cell) else (n, q)) :: _) = some .free) ∨ (List.lookup x ((if (q == NameKind.free && env.scope.kind == .function && env.kindOf n == some .cell) = true then (n, NameKind.cell) else (n, q)) :: _) = some .cell)
    have z : (if (q == NameKind.free && env.scope.kind == .function && env.kindOf n == some .cell) = true then (n, NameKind.cell) else (n, q)).1 = n := by split <;> rfl
    rw [List.lookup_cons, z]
    cases hb : x == n with
    | true =>
      rw [hb] at h
      have hq : q = .free := Option.some.inj h
      subst hq
      by_cases e : (NameKind.free == NameKind.free && env.scope.kind == .function && env.kindOf n == some .cell) = true
      · right; rw [if_pos e]
      · left; rw [if_neg e]
    | false =>
      rw [hb] at h
      exact relabel_free (env := env) h
theorem Cok.blk (k : Cok X c C E lv) {scope : Scope} (hk : scope.kind = .function) (s : Shared) (H : Hp) (C' : Addr) (cl : List (Str × Addr)) (fp : List Addr) : Cok (X.blk s H scope (compEnvC scope cl C' X.env) fp) { c with sc := scope } C E0 lv where
  N := k.N
  nd := k.nd
  sk := hk
  lk := fun x q h hq => relabel_keep h hq
  fr := fun x h => relabel_free h
  fn := fun x h => by
    show (scope.names.lookup x == some .cell) = true
    have h' : scope.names.lookup x = some .cell := h
    rw [h']; rfl
  calm := k.calm
  room := k.room
  room2 := k.room2
  srt := k.srt
  gd := k.gd
  pass := passL
  fns := k.fns
  bi := k.bi
  sy := k.sy
  gls := k.gls
theorem blkOk_of (k : Cok X c C E lv) {scope : Scope} {own : List (Str × Nat)} (h : blkC c.N c.sc scope own = true) : BlkOk X.N X.env.scope scope own := by
  obtain ⟨h1, h2, h3, h4, h5⟩ := blkOk_by h
  refine ⟨h1, h2, by rw [k.N]; exact h3, fun y hy e => ?_, by rw [k.N]; exact h5⟩
  rcases h4 y hy e with z | z
  · exact .inl (k.lk _ _ z (by decide))
  · exact (k.fr _ z).symm
theorem folded_of {e : Expr} (h : isSet e = false) : ∀ x, foldedSetIterable e X.env x = pure x := fun x => by
  cases e <;> first | rfl | (simp [isSet] at h)
theorem base_of {o : Expr} {m : Str} (h : isBare o = false) : attributeBase o m X.env (eval o X.env) = eval o X.env := by
  cases o with
  | Call f args kws p =>
    cases f with
    | Name y q =>
      cases args with
      | nil =>
        cases kws with
        | nil => simp [isBare] at h
        | cons _ _ => rfl
      | cons _ _ => rfl
    | _ => rfl
  | _ => rfl
theorem plainIx_of {b : Expr} (h : ∀ lo hi p, b ≠ .Slice lo hi none p) : PlainIx b := fun o i => by
  cases b with
  | Slice lo hi st p =>
    cases st with
    | none => exact absurd rfl (h _ _ _)
    | some _ => rfl
  | _ => rfl

/-! ### targets -/
def Pgs (X : Cx) (ts : Tgs) (es : List Expr) : Prop := PGs X es (tgsR X.K ts) ∧ (assignEach es X.env).length = ts.len ∧ (assignEach es X.env).findIdx? (·.1) = none
theorem trTg_ok : ∀ (n : Nat) {X : Cx} {c : Tc} {C : Nat → Fs} {E : XK} {lv : Nat} (k : Cok X c C E lv) {e : Expr} {t : Tg}, trTg n c e = some t → PG X e (tgR X.K t) ∧ ∀ v p, e ≠ .Starred v p
  | 0, X, c, C, E, lv, k, e, t, h => by simp [trTg] at h
  | n + 1, X, c, C, E, lv, k, e, t, h => by
    have hs : ∀ {es : List Expr} {ts : Tgs}, mapT (trTg n c) es = some ts → Pgs X ts es := fun {es ts} => by
      induction es generalizing ts with
      | nil => intro h; cases h; exact ⟨pgs_nil, rfl, rfl⟩
      | cons e r ih =>
        intro h
        simp only [mapT] at h
        split at h
        · rename_i y ys h1 h2
          cases h
          obtain ⟨a, ns⟩ := trTg_ok n k h1
          obtain ⟨i1, i2, i3⟩ := ih h2
          have ea : assignEach (e :: r) X.env = (false, assign e X.env) :: assignEach r X.env := by
            cases e <;> first | rfl | exact absurd rfl (ns _ _)
          refine ⟨pgs_cons a i1 (by rw [ea]; rfl), by rw [ea, List.length_cons, i2, Tgs.len], ?_⟩
          rw [ea, List.findIdx?_cons]
          simp [i3]
        · cases h
    simp only [trTg] at h
    split at h
    · split at h
      · rename_i x p hl
        simp only [Option.map_eq_some_iff] at h
        obtain ⟨i, hi, rfl⟩ := h
        obtain ⟨l1, l2⟩ := loc_of k hl
        have hN : X.N[i]? = some x := by rw [k.N]; exact nix_get hi
        exact ⟨pg_name (by rw [k.N]; exact k.nd) hN l1 l2, fun _ _ z => by cases z⟩
      · cases h
    · simp only [Option.map_eq_some_iff] at h
      obtain ⟨ts, h1, rfl⟩ := h
      obtain ⟨i1, i2, i3⟩ := hs h1
      exact ⟨pg_tup k.calm i1 i2 i3, fun _ _ z => by cases z⟩
    · cases h
end
end DL
set_option Elab.async false
set_option linter.all false
set_option maxRecDepth 100000
set_option maxHeartbeats 4000000
/-! D11: the translation of expressions, as a whole. -/
namespace DL
open PySem PySem.Spec PyProof.Rows L2

def SndE (n : Nat) : Prop := ∀ {X : Cx} {c : Tc} {C : Nat → Fs} {E : XK} {lv : Nat}, Cok X c C E lv → ∀ {e : Expr} {x : Ex}, trE n c e = some x → PE X e (tE X C E x)
def SndT (n : Nat) : Prop := ∀ {X : Cx} {c : Tc} {C : Nat → Fs} {E : XK} {lv : Nat}, Cok X c C E lv → ∀ {e : Expr} {x : Ex}, trT n c e = some x → PT X e (tT X C E x)
def SndI (n : Nat) : Prop := ∀ {X : Cx} {c : Tc} {C : Nat → Fs} {E : XK} {lv : Nat}, Cok X c C E lv → ∀ {tg e : Expr} {x : It}, trI n c (isTupE tg) e = some x → PI X tg e (tI X C E x)

section
variable {X : Cx} {c : Tc} {C : Nat → Fs} {E : XK} {lv n : Nat}
theorem snd_bi (k : Cok X c C E lv) {f : Str} {b : Bi} {a : Expr} {es : List Expr} {xs : Exs} {p pos : Pos} (hb : biOf f = some b) (hg : glK (c.kind f) = true) (hA : PA X (a :: es) (tA X C E xs)) (ns : ∀ v p, a ≠ .Starred v p) (hpl : (backTo pos (starEach es X.env)).any (·.1) = false) :
    PE X (.Call (.Name f p) (a :: es) [] pos) (tE X C E (.bi b xs)) := by
  have G := gl_of k hg
  unfold biOf at hb
  repeat' split at hb
  all_goals first
    | cases hb
    | skip
  all_goals rename_i e1 <;> (try subst e1)
  · exact sd_len rfl G (k.bi _ (by decide)) hA ns hpl
  · exact sd_abs rfl G (k.bi _ (by decide)) hA ns hpl
  · exact sd_max k.sy k.calm k.hu rfl G (k.bi _ (by decide)) hA ns hpl
  · exact sd_min k.sy k.calm k.hu rfl G (k.bi _ (by decide)) hA ns hpl
  · exact sd_int rfl G (k.bi _ (by decide)) hA ns hpl
  · exact sd_tupleOf rfl G (k.bi _ (by decide)) hA ns hpl
  · exact sd_listOf rfl G (k.bi _ (by decide)) hA ns hpl
  · exact sd_sum k.calm rfl G (k.bi _ (by decide)) hA ns hpl
  · exact sd_repr k.sy k.gd k.hu rfl G (k.bi _ (by decide)) hA ns hpl
  · exact sd_sorted k.sy k.hu rfl G (k.bi _ (by decide)) hA ns hpl
  · exact sd_all k.calm rfl G (k.bi _ (by decide)) hA ns hpl
  · exact sd_any k.calm rfl G (k.bi _ (by decide)) hA ns hpl
theorem lrng_ok (k : Cok X c C E lv) {f : Str} {es : List Expr} {x : Ex} {p q : Pos} {g : Expr → Option Ex} (hg : glK (c.kind f) = true) (hf : ∀ e x, g e = some x → PE X e (tE X C E x)) (hn : ∀ e x, g e = some x → ∀ v p, e ≠ .Starred v p)
    (h : lrngOf c g f es = some x) : PE X (.Call (.Name f q) es [] p) (tE X C E x) := by
  unfold lrngOf at h
  split at h
  · split at h
    · rename_i hc
      simp only [Bool.and_eq_true, decide_eq_true_eq] at hc
      obtain ⟨rfl, rfl, h2⟩ := hc
      simp only [Option.map_eq_some_iff] at h
      obtain ⟨y, h1, rfl⟩ := h
      exact sd_lrng k.calm (gl_of k hg) (k.bi _ (by decide)) (gl_of k h2) (k.bi _ (by decide)) (hf _ _ h1) (hn _ _ h1)
    · cases h
  · cases h
theorem sdk_ok (k : Cok X c C E lv) {f : Str} {es : List Expr} {x : Ex} {p q : Pos} {g : Expr → Option Ex} (hg : glK (c.kind f) = true) (hf : ∀ e x, g e = some x → PE X e (tE X C E x)) (hn : ∀ e x, g e = some x → ∀ v p, e ≠ .Starred v p)
    (h : sdkOf c g f es = some x) : PE X (.Call (.Name f q) es [] p) (tE X C E x) := by
  unfold sdkOf at h
  split at h
  · split at h
    · rename_i hc
      simp only [Bool.and_eq_true, decide_eq_true_eq] at hc
      obtain ⟨rfl, rfl, h2⟩ := hc
      simp only [Option.map_eq_some_iff] at h
      obtain ⟨y, h1, rfl⟩ := h
      exact sd_sdk k.calm (gl_of k hg) (k.bi _ (by decide)) (gl_of k h2) (k.bi _ (by decide)) (hf _ _ h1) (hn _ _ h1)
    · cases h
  · cases h
theorem isa_ok (k : Cok X c C E lv) {a : Expr} {es : List Expr} {x : Ex} {p q : Pos} {f : Expr → Option Ex} (hg : glK (c.kind ("isinstance" : Str)) = true) (hf : ∀ e x, f e = some x → PE X e (tE X C E x)) (hn : ∀ e x, f e = some x → ∀ v p, e ≠ .Starred v p)
    (h : isaOf c f a es = some x) : PE X (.Call (.Name ("isinstance" : Str) q) (a :: es) [] p) (tE X C E x) := by
  unfold isaOf at h
  split at h
  · rename_i t tp
    split at h
    · rename_i hgt
      split at h
      · rename_i T y h1 h2
        cases h
        have key : t = Str.ofString (tyN T) ∧ t ∈ blts := by
          unfold tyOf at h1
          repeat' split at h1
          all_goals first
            | cases h1
            | skip
          all_goals (rename_i e1; subst e1; exact ⟨rfl, by decide⟩)
        exact sd_isa k.sy key.1 rfl (gl_of k hg) (k.bi _ (by decide)) (gl_of k hgt) (k.bi _ key.2) (hf _ _ h2) (hn _ _ h2)
      · cases h
    · cases h
  · cases h
theorem mapX_one {f : Expr → Option Ex} {es : List Expr} {xs : Exs} (h : mapX f es = some xs) (hl : es.length ≤ 1) : (es = [] ∧ xs = .nil) ∨ ∃ e y, es = [e] ∧ xs = .cons y .nil ∧ f e = some y := by
  cases es with
  | nil => cases h; exact .inl ⟨rfl, rfl⟩
  | cons e r =>
    cases r with
    | nil =>
      obtain ⟨y, ys, h1, h2, rfl⟩ := mapX_cons h
      cases h2
      exact .inr ⟨e, y, rfl, rfl, h1⟩
    | cons _ _ => simp at hl
theorem subB_mem {a b : List Nat} (h : subB a b = true) : ∀ i ∈ a, i ∈ b := fun i hi => by
  unfold subB at h
  have := List.all_eq_true.mp h i hi
  simpa using this
theorem snd_lc (hE : SndE n) (hT : SndT n) (hI : SndI n) (k : Cok X c C E lv) {elt : Expr} {g : Comprehension} {scope : Scope} {pos : Pos} {x : Ex}
    (h : trE (n + 1) c (.ListComp elt [g] scope pos) = some x) : ∃ (it : It) (t : Tg) (cs : Exs) (e : Ex), x = .comp e t it cs ((ownOf c.N scope).map (·.2)) ∧ g.is_async = 0 ∧ BlkOk X.N X.env.scope scope (ownOf c.N scope) ∧ PI X g.target g.iter (tI X C E it) ∧
      (∀ (s : Shared) (H : Hp) (C' : Addr) (cl : List (Str × Addr)) (fp : List Addr), PG (X.blk s H scope (compEnvC scope cl C' X.env) fp) g.target (tgR X.K t)) ∧
      (∀ (s : Shared) (H : Hp) (C' : Addr) (cl : List (Str × Addr)) (fp : List Addr), PTs (X.blk s H scope (compEnvC scope cl C' X.env) fp) g.ifs (tTs X C E0 cs)) ∧
      (∀ (s : Shared) (H : Hp) (C' : Addr) (cl : List (Str × Addr)) (fp : List Addr), PE (X.blk s H scope (compEnvC scope cl C' X.env) fp) elt (tE X C E0 e)) ∧
      (∀ x, foldedSetIterable g.iter X.env x = pure x) ∧ (∀ {σ H Q}, tE X C E x σ H Q → tLc (tI X C E it) (tgR X.K t) (tTs X C E0 cs) (tE X C E0 e) ((ownOf c.N scope).map (·.2)) σ H Q) := by
  simp only [trE] at h
  split at h
  · rename_i hc
    simp only [Bool.and_eq_true, decide_eq_true_eq, Bool.not_eq_true'] at hc
    obtain ⟨⟨⟨h1, h2⟩, h3⟩, h4⟩ := hc
    split at h
    · rename_i it t cs y e1 e2 e3 e4
      split at h
      · rename_i hs
        cases h
        have ok := blkOk_of k h1
        have kb := fun s H C' cl fp => k.blk (scope := scope) ok.kind s H C' cl fp
        have hi := hI k (tg := g.target) e1
        have hg := fun s H C' cl fp => (trTg_ok n (kb s H C' cl fp) e2).1
        have he : ∀ (s : Shared) (H : Hp) (C' : Addr) (cl : List (Str × Addr)) (fp : List Addr), PE (X.blk s H scope (compEnvC scope cl C' X.env) fp) elt (tE X C E0 y) := fun s H C' cl fp =>
          PE.imp (hE (kb s H C' cl fp) e4) fun σ H Q ⟨S, G, env, Ep, Q', p, h⟩ => ⟨S, G, env, Ep, Q', ⟨p.st, p.rz, p.fin⟩, h⟩
        have hcs := mapX_one e3 h4
        have ht : ∀ (s : Shared) (H : Hp) (C' : Addr) (cl : List (Str × Addr)) (fp : List Addr), PTs (X.blk s H scope (compEnvC scope cl C' X.env) fp) g.ifs (tTs X C E0 cs) := fun s H C' cl fp => by
          rcases hcs with ⟨z1, z2⟩ | ⟨e0, y0, z1, z2, z3⟩
          · rw [z1, z2]; exact pts_nil
          · rw [z1, z2]; exact pts_one (hT (kb s H C' cl fp) z3)
        have hcs' : cs = .nil ∨ ∃ c0, cs = .cons c0 .nil := by
          rcases hcs with ⟨_, z2⟩ | ⟨_, y0, _, z2, _⟩
          · exact .inl z2
          · exact .inr ⟨y0, z2⟩
        exact ⟨it, t, cs, y, rfl, h2, ok, hi, hg, ht, he, folded_of h3, sd_comp (pos := pos) k.calm (by rw [k.N]; exact k.nd) ok (subB_mem hs) (fun w => trTg_tp e2 (trI_wk e1 w)) hcs' hi hg ht he (folded_of h3)⟩
      · cases h
    · cases h
  · cases h
theorem snd_E (hE : SndE n) (hT : SndT n) (hI : SndI n) : SndE (n + 1) := by
  intro X c C E lv k e x h
  have fE : ∀ e x, trE n c e = some x → PE X e (tE X C E x) := fun e x h => hE k h
  have fn : ∀ e x, trE n c e = some x → ∀ v p, e ≠ .Starred v p := fun e x h => ns_of h
  cases e with
  | Name y p =>
    simp only [trE] at h
    exact name_ok k h
  | Dict ks vs p =>
    cases ks <;> cases vs <;> simp [trE] at h
    subst h
    exact sd_dic0
  | Constant q j p =>
    simp only [trE, Option.map_eq_some_iff] at h
    obtain ⟨d, hd, rfl⟩ := h
    exact trC_ok hd
  | Tuple es q p =>
    simp only [trE] at h
    split at h
    · rename_i y hs
      cases h
      unfold starOf at hs
      split at hs
      · split at hs
        · rename_i u w h1 h2
          cases hs
          exact sd_star (fE _ _ h1) (fE _ _ h2) (fn _ _ h2)
        · cases hs
      · cases hs
    simp only [Option.map_eq_some_iff] at h
    obtain ⟨xs, h1, rfl⟩ := h
    exact sd_tup (mapX_A fE fn h1)
  | List es p =>
    simp only [trE, Option.map_eq_some_iff] at h
    obtain ⟨xs, h1, rfl⟩ := h
    exact sd_lst (mapX_A fE fn h1)
  | BinOp a op b p =>
    simp only [trE] at h
    split at h
    · rename_i o y z h1 h2 h3; cases h; exact trOp_ok h1 (fE _ _ h2) (fE _ _ h3)
    · cases h
  | UnaryOp op a p =>
    cases op with
    | USub => simp only [trE, Option.map_eq_some_iff] at h; obtain ⟨y, h1, rfl⟩ := h; exact sd_neg (fE _ _ h1)
    | Not => simp only [trE, Option.map_eq_some_iff] at h; obtain ⟨y, h1, rfl⟩ := h; exact sd_not (fE _ _ h1)
    | UAdd => simp [trE] at h
    | Invert => simp [trE] at h
  | BoolOp op vs p => simp only [trE] at h; exact trB_E fE h
  | Compare a ops bs p => simp only [trE] at h; exact (trCmp_ok k.hu fE h).1
  | IfExp t a b p =>
    simp only [trE] at h
    split at h
    · rename_i z y w h1 h2 h3; cases h; exact sd_ite (hT k h1) (fE _ _ h2) (fE _ _ h3)
    · cases h
  | Call f args kws p =>
    cases f with
    | Name g q =>
      cases args with
      | nil => cases kws <;> simp [trE] at h
      | cons a es =>
        cases kws with
        | cons kw kws =>
          cases es with
          | cons _ _ => simp [trE] at h
          | nil =>
          cases kws with
          | cons _ _ => simp [trE] at h
          | nil =>
          obtain ⟨kn, kv, kp⟩ := kw
          cases kn with
          | none => simp [trE] at h
          | some kn =>
          cases kv with
          | Name z zp =>
            simp only [trE] at h
            split at h
            · rename_i hc
              simp only [Bool.and_eq_true, Bool.not_eq_true', decide_eq_true_eq, beq_iff_eq] at hc
              obtain ⟨⟨⟨⟨e1, e2⟩, e3⟩, e4⟩, e5⟩ := hc
              subst e1
              subst e2
              split at h
              · rename_i j xs h1 h2
                split at h
                · rename_i hj
                  cases h
                  obtain ⟨hA, _⟩ := mapA_ok fE (fun y i p hv => (trV_ok k hv).1) fn h2
                  have ns : ∀ v p, a ≠ .Starred v p := by
                    intro v p z
                    subst z
                    rcases hs2 : mapA (trV c) (trE n c) [.Starred v p] with _ | _
                    · rw [hs2] at h2; cases h2
                    · unfold mapA at hs2
                      simp only [mapA, nostar] at hs2
                      cases hs2
                  exact sd_sortK (gl_of k e3) (k.bi _ (by decide)) (k.fns _ _ (fnIx_get h1)) (gl_of k e4) e5 k.room2 k.gd k.sy (k.srt _ (of_decide_eq_true hj)) hA ns
                · cases h
              · cases h
            · cases h
          | _ => simp [trE] at h
        | nil =>
          simp only [trE] at h
          split at h
          · rename_i hg
            split at h
            · rename_i y hl
              cases h
              exact lrng_ok k hg fE fn hl
            split at h
            · rename_i y hl
              cases h
              exact sdk_ok k hg fE fn hl
            split at h
            · rename_i b hb
              simp only [Option.map_eq_some_iff] at h
              obtain ⟨xs, h1, rfl⟩ := h
              obtain ⟨y, ys, h2, h3, rfl⟩ := mapX_cons h1
              exact snd_bi k hb hg (mapX_A fE fn h1) (fn _ _ h2) (plain_of fn h3)
            · split at h
              · rename_i hf
                subst hf
                exact isa_ok k hg fE fn h
              split at h
              · rename_i j xs h1 h2
                split at h
                · cases h
                · rename_i hdb
                  cases h
                  obtain ⟨hA, _⟩ := mapA_ok fE (fun y i p hv => (trV_ok k hv).1) fn h2
                  have ha : ∃ ys, mapA (trV c) (trE n c) es = some ys ∧ ∀ v p, a ≠ .Starred v p := by
                    unfold mapA at h2
                    split at h2
                    · cases h2
                    · rename_i ys hr
                      refine ⟨ys, hr, fun v p z => ?_⟩
                      subst z
                      split at h2
                      · rename_i zz; cases zz
                      · rw [nostar] at h2; cases h2
                  obtain ⟨ys, hr, ns⟩ := ha
                  exact sd_call k.room k.gd (k.fns _ _ (fnIx_get h1)) (gl_of k hg) k.pass hA ns ((mapA_ok fE (fun y i p hv => (trV_ok k hv).1) fn hr).2) (by simpa using hdb)
              · cases h
          · cases h
    | Attribute o m ap =>
      cases args with
      | cons a es =>
        cases kws with
        | cons _ _ => simp [trE] at h
        | nil =>
          simp only [trE] at h
          split at h
          · rename_i t y ys h1 h2 h3
            split at h
            · rename_i hc
              cases h
              simp only [Bool.and_eq_true, decide_eq_true_eq, Bool.not_eq_true'] at hc
              obtain ⟨⟨c1, c2⟩, c3⟩ := hc
              obtain ⟨e1, nb⟩ := mtOf_ok h1
              subst e1
              obtain ⟨z, zs, h4, h5, rfl⟩ := mapX_cons h3
              exact sd_mth k.hu nb (fE _ _ h2) (mapX_A fE fn h3) (base_of c1) c2 c3 (fn _ _ h4) (plain_of fn h3) (plain_of fn h5)
            · cases h
          · cases h
      | nil =>
        cases kws with
        | cons _ _ => simp [trE] at h
        | nil =>
          simp only [trE] at h
          split at h
          · rename_i hc
            simp only [Bool.and_eq_true, decide_eq_true_eq, Bool.not_eq_true'] at hc
            obtain ⟨⟨h1, h2⟩, h3⟩ := hc
            subst h1
            simp only [Option.map_eq_some_iff] at h
            obtain ⟨y, h4, rfl⟩ := h
            exact sd_bits (fE _ _ h4) (base_of h2) h3
          · cases h
    | _ => cases args <;> cases kws <;> simp [trE] at h
  | Subscript o i p =>
    cases i with
    | Slice lo hi st q =>
      cases st with
      | some s =>
        cases lo <;> cases hi <;> simp only [trE] at h <;> first | cases h | skip
        split at h
        · rename_i hm
          simp only [Option.map_eq_some_iff] at h
          obtain ⟨y, h1, rfl⟩ := h
          have sh : ∃ k p1 p2, s = .UnaryOp .USub (.Constant (.int 1) k p1) p2 := by
            unfold isM1 at hm
            split at hm
            · exact ⟨_, _, _, rfl⟩
            · cases hm
          obtain ⟨k1, p1, p2, rfl⟩ := sh
          exact sd_rev (fE _ _ h1)
        · cases h
      | none =>
        simp only [trE] at h
        have fO : ∀ {e : Option Expr} {y : Exo}, trO (trE n c) e = some y → PO X e (tO X C E y) := fun {e y} h => by
          cases e with
          | none => cases h; exact so_no
          | some e => simp only [trO, Option.map_eq_some_iff] at h; obtain ⟨z, h1, rfl⟩ := h; exact so_so (fE _ _ h1)
        split at h
        · rename_i y l u h1 h2 h3; cases h; exact sd_slc (fE _ _ h1) (fO h2) (fO h3)
        · cases h
    | _ =>
      simp only [trE] at h
      split at h
      · rename_i y z h1 h2; cases h; exact sd_ix k.hu (plainIx_of (by intros _ _ _ z; cases z)) (fE _ _ h1) (fE _ _ h2)
      · cases h
  | ListComp elt gs scope p =>
    cases gs with
    | nil => simp [trE] at h
    | cons g r =>
      cases r with
      | cons _ _ => simp [trE] at h
      | nil =>
        obtain ⟨it, t, cs, y, rfl, ha, ok, hi, hg, ht, he, hs, imp⟩ := snd_lc hE hT hI k h
        obtain ⟨tg, iter, ifs, asy⟩ := g
        cases ha
        exact PE.imp (pe_lc k.calm (by rw [k.N]; exact k.nd) hi ok hg ht he hs) fun σ H Q q => imp q
  | _ => simp [trE] at h
theorem isTrue_plain {e : Expr} {env : PySem.Env} (h1 : ∀ a p, e ≠ .UnaryOp .Not a p) (h2 : ∀ o v p, e ≠ .BoolOp o v p) (h3 : ∀ a b c p, e ≠ .IfExp a b c p) (h4 : ∀ a b c p, e ≠ .Compare a b c p) :
    ∀ whole, isTrue e env whole = (do let v ← whole; standAt e.pos; holding [v] (truthy v)) := fun whole => by
  cases e with
  | UnaryOp op a p =>
    cases op with
    | Not => exact absurd rfl (h1 _ _)
    | _ => rfl
  | BoolOp o v p => exact absurd rfl (h2 _ _ _)
  | IfExp a b c p => exact absurd rfl (h3 _ _ _ _)
  | Compare a b c p => exact absurd rfl (h4 _ _ _ _)
  | _ => rfl
theorem snd_T (hE : SndE n) (hT : SndT n) (hI : SndI n) : SndT (n + 1) := by
  intro X c C E lv k e x h
  have fE : ∀ e x, trE n c e = some x → PE X e (tE X C E x) := fun e x h => hE k h
  have fT : ∀ e x, trT n c e = some x → PT X e (tT X C E x) := fun e x h => hT k h
  cases e with
  | BoolOp op vs p => simp only [trT] at h; exact (trB_T fT h).pt
  | Compare a ops bs p => simp only [trT] at h; exact (trCmp_ok k.hu fE h).2
  | IfExp t a b p => simp [trT] at h
  | UnaryOp op a p =>
    cases op with
    | Not => simp only [trT, Option.map_eq_some_iff] at h; obtain ⟨y, h1, rfl⟩ := h; exact st_not (fT _ _ h1)
    | _ => simp only [trT] at h; exact st_plain (fE _ _ h) (isTrue_plain (by intros; intro z; cases z) (by intros; intro z; cases z) (by intros; intro z; cases z) (by intros; intro z; cases z))
  | _ => simp only [trT] at h; exact st_plain (fE _ _ h) (isTrue_plain (by intros; intro z; cases z) (by intros; intro z; cases z) (by intros; intro z; cases z) (by intros; intro z; cases z))
theorem tup_of {tg : Expr} (h : isTupE tg = true) : ∃ ts k p, tg = .Tuple ts k p := by
  cases tg <;> first | exact ⟨_, _, _, rfl⟩ | cases h
theorem kw_of {ks : List Keyword} (h : kwOf ks = true) : ∃ cj cp kp, ks = [⟨some "strict", .Constant (.bool true) cj cp, kp⟩] := by
  unfold kwOf at h
  split at h
  · rename_i k cj cp kp
    have e : k = ("strict" : Str) := by simpa using h
    subst e
    exact ⟨_, _, _, rfl⟩
  · cases h
theorem snd_I (hE : SndE n) (hT : SndT n) (hI : SndI n) : SndI (n + 1) := by
  intro X c C E lv k tg e x h
  have fE : ∀ e x, trE n c e = some x → PE X e (tE X C E x) := fun e x h => hE k h
  have fn : ∀ e x, trE n c e = some x → ∀ v p, e ≠ .Starred v p := fun e x h => ns_of h
  have seq : (trE n c e).map It.seq = some x → PI X tg e (tI X C E x) := fun h => by
    simp only [Option.map_eq_some_iff] at h
    obtain ⟨y, h1, rfl⟩ := h
    exact si_seq (fE _ _ h1)
  simp only [trI] at h
  split at h
  · split at h
    · rename_i hf
      subst hf
      split at h
      · rename_i hg
        simp only [Option.map_eq_some_iff] at h
        obtain ⟨y, h1, rfl⟩ := h
        exact si_range1 (gl_of k hg) (k.bi _ (by decide)) (fE _ _ h1) (fn _ _ h1)
      · cases h
    · split at h
      · rename_i hf
        subst hf
        split at h
        · rename_i hg
          simp only [Bool.and_eq_true] at hg
          simp only [Option.map_eq_some_iff] at h
          obtain ⟨y, h1, rfl⟩ := h
          obtain ⟨ts, kk, tp, rfl⟩ := tup_of hg.2
          exact si_enum (gl_of k hg.1) (k.bi _ (by decide)) (fE _ _ h1) (fn _ _ h1)
        · cases h
      · exact seq h
  · split at h
    · rename_i hf
      subst hf
      split at h
      · rename_i hg
        split at h
        · rename_i y z h1 h2
          cases h
          exact si_range2 (gl_of k hg) (k.bi _ (by decide)) (fE _ _ h1) (fE _ _ h2) (fn _ _ h1) (fn _ _ h2)
        · cases h
      · cases h
    · split at h
      · rename_i hf
        subst hf
        split at h
        · rename_i hg
          simp only [Bool.and_eq_true] at hg
          split at h
          · rename_i y z h1 h2
            cases h
            obtain ⟨ts, kk, tp, rfl⟩ := tup_of hg.2
            exact si_zip (gl_of k hg.1) (k.bi _ (by decide)) (fE _ _ h1) (fE _ _ h2) (fn _ _ h1) (fn _ _ h2)
          · cases h
        · cases h
      · exact seq h
  · split at h
    · rename_i hf
      subst hf
      split at h
      · rename_i hg
        simp only [Bool.and_eq_true] at hg
        split at h
        · rename_i y z h1 h2
          cases h
          obtain ⟨hg, hs⟩ := hg
          unfold isM1 at hs
          split at hs
          · exact si_rangd (gl_of k hg) (k.bi _ (by decide)) (fE _ _ h1) (fE _ _ h2) (sd_neg (trC_ok rfl)) (fn _ _ h1) (fn _ _ h2) (fun v p z => nomatch z)
          · cases hs
        · cases h
      · cases h
    · exact seq h
  · split at h
    · rename_i hg
      simp only [Bool.and_eq_true, decide_eq_true_eq] at hg
      obtain ⟨⟨⟨hf, hg⟩, ht⟩, hk⟩ := hg
      subst hf
      split at h
      · rename_i y z h1 h2
        cases h
        obtain ⟨ts, kk, tp, rfl⟩ := tup_of ht
        obtain ⟨cj, cp, kp, ek⟩ := kw_of hk
        rw [ek]
        exact si_zips (gl_of k hg) (k.bi _ (by decide)) (fE _ _ h1) (fE _ _ h2) (fn _ _ h1) (fn _ _ h2)
      · cases h
    · cases h
  · exact seq h
end
theorem snd : ∀ n, SndE n ∧ SndT n ∧ SndI n
  | 0 => ⟨fun {X c C E lv} k {e x} h => by simp [trE] at h, fun {X c C E lv} k {e x} h => by simp [trT] at h, fun {X c C E lv} k {tg e x} h => by simp [trI] at h⟩
  | n + 1 => let ⟨a, b, c⟩ := snd n; ⟨snd_E a b c, snd_T a b c, snd_I a b c⟩
end DL
set_option Elab.async false
set_option linter.all false
set_option maxRecDepth 100000
set_option maxHeartbeats 4000000
/-! D12: the translation of statements; a def keeps the promise of its reading. -/
namespace DL
open PySem PySem.Spec PyProof.Rows L2

def notStar : Expr → Bool
  | .Starred .. => false | _ => true
section
variable {x y z : Str} {px py pz pt pt2 : Pos} {kt k2 : Nat} {a b d : Expr} {env : PySem.Env}
theorem sw2_yes (hk : env.scope.kind = .function) (hx : env.scope.names.lookup x = some .local) (hy : env.scope.names.lookup y = some .local) (hl : py.line = px.line) (hxy : x ≠ y) (sa : notStar a = true) (sb : notStar b = true)
    (hf : (foldedForSure 8 a && foldedForSure 8 b) = false) (hc : (constantsAlone 8 a && constantsAlone 8 b) = false) : swappedStores [.Tuple [.Name x px, .Name y py] kt pt] (.Tuple [a, b] k2 pt2) env = pure (some [x, y]) := by
  have hb : env.blockKind = .function := by unfold Env.blockKind; rw [hk]; rfl
  have kx : env.kindOf x = some .local := hx
  have ky : env.kindOf y = some .local := hy
  unfold swappedStores
  simp only [List.length_cons, List.length_nil, hb, List.any_cons, List.any_nil, List.filterMap_cons, List.filterMap_nil, kx, ky, List.head?_cons, Option.map_some, Option.getD_some, Expr.pos, hl, List.all_cons, List.all_nil, Bool.and_true, hf, hc]
  have hd : [x, y].eraseDups = [x, y] := by
    simp [List.eraseDups_cons, hxy, Ne.symm hxy, beq_eq_false_iff_ne.mpr (Ne.symm hxy)]
  simp [hd]
  intro h
  exfalso
  rcases h with h | h
  · split at h
    · cases sa
    · cases h
  · split at h
    · cases sb
    · cases h
theorem sw2_no (hk : env.scope.kind = .function) (h : env.scope.names.lookup x ≠ some .local ∨ env.scope.names.lookup y ≠ some .local) : swappedStores [.Tuple [.Name x px, .Name y py] kt pt] (.Tuple [a, b] k2 pt2) env = pure none := by
  have hb : env.blockKind = .function := by unfold Env.blockKind; rw [hk]; rfl
  unfold swappedStores
  simp only []
  split
  · rfl
  split
  · rfl
  rw [if_pos]
  rw [Bool.or_eq_true]
  left
  rcases h with h | h
  · have kx : (env.kindOf x == some .local) = false := by
      rw [beq_eq_false_iff_ne]; exact h
    simp only [List.filterMap_cons, List.filterMap_nil, kx, Bool.false_and, Bool.false_eq_true, if_false]
    split <;> simp_all <;> (split <;> simp)
  · have kx : (env.kindOf y == some .local) = false := by
      rw [beq_eq_false_iff_ne]; exact h
    simp only [List.filterMap_cons, List.filterMap_nil, kx, Bool.false_and, Bool.false_eq_true, if_false]
    split <;> simp_all <;> (split <;> simp)
theorem sw3_yes (hk : env.scope.kind = .function) (hx : env.scope.names.lookup x = some .local) (hy : env.scope.names.lookup y = some .local) (hz : env.scope.names.lookup z = some .local) (hl : py.line = px.line) (hl2 : pz.line = px.line) (hxy : x ≠ y) (hxz : x ≠ z) (hyz : y ≠ z) (sa : notStar a = true) (sb : notStar b = true) (sd : notStar d = true)
    (hf : (foldedForSure 8 a && (foldedForSure 8 b && foldedForSure 8 d)) = false) (hc : (constantsAlone 8 a && (constantsAlone 8 b && constantsAlone 8 d)) = false) : swappedStores [.Tuple [.Name x px, .Name y py, .Name z pz] kt pt] (.Tuple [a, b, d] k2 pt2) env = pure (some [x, y, z]) := by
  have hb : env.blockKind = .function := by unfold Env.blockKind; rw [hk]; rfl
  have kx : env.kindOf x = some .local := hx
  have ky : env.kindOf y = some .local := hy
  have kz : env.kindOf z = some .local := hz
  unfold swappedStores
  simp only [List.length_cons, List.length_nil, hb, List.any_cons, List.any_nil, List.filterMap_cons, List.filterMap_nil, kx, ky, kz, List.head?_cons, Option.map_some, Option.getD_some, Expr.pos, hl, hl2, List.all_cons, List.all_nil, Bool.and_true, hf, hc]
  have hd : [x, y, z].eraseDups = [x, y, z] := by
    simp [List.eraseDups_cons, Ne.symm hxy, Ne.symm hxz, Ne.symm hyz, beq_eq_false_iff_ne.mpr (Ne.symm hxy), beq_eq_false_iff_ne.mpr (Ne.symm hxz), beq_eq_false_iff_ne.mpr (Ne.symm hyz)]
  simp [hd]
  intro h
  exfalso
  rcases h with h | h | h
  · split at h
    · cases sa
    · cases h
  · split at h
    · cases sb
    · cases h
  · split at h
    · cases sd
    · cases h
theorem sw3_no (hk : env.scope.kind = .function) (h : env.scope.names.lookup x ≠ some .local ∨ env.scope.names.lookup y ≠ some .local ∨ env.scope.names.lookup z ≠ some .local) : swappedStores [.Tuple [.Name x px, .Name y py, .Name z pz] kt pt] (.Tuple [a, b, d] k2 pt2) env = pure none := by
  have hb : env.blockKind = .function := by unfold Env.blockKind; rw [hk]; rfl
  unfold swappedStores
  simp only []
  split
  · rfl
  split
  · rfl
  rw [if_pos]
  rw [Bool.or_eq_true]
  left
  have lt : ∀ {f : Expr → Option Str} {l : List Expr} {e : Expr}, e ∈ l → f e = none → ((l.filterMap f).length != l.length) = true := fun {f l e} he hf => by
    have : ∀ l : List Expr, (l.filterMap f).length ≤ l.length := fun l => List.length_filterMap_le ..
    rw [bne_iff_ne]
    induction l with
    | nil => cases he
    | cons u r ih =>
      rw [List.filterMap_cons]
      rcases List.mem_cons.mp he with rfl | he
      · rw [hf]
        have h1 := this r
        simp only [List.length_cons]
        omega
      · have i := ih he
        have h1 := this r
        split <;> simp only [List.length_cons] <;> omega
  rcases h with h | h | h
  · refine lt (e := .Name x px) (by simp) ?_
    have kx : (env.kindOf x == some .local) = false := by
      rw [beq_eq_false_iff_ne]; exact h
    simp [kx]
  · refine lt (e := .Name y py) (by simp) ?_
    have kx : (env.kindOf y == some .local) = false := by
      rw [beq_eq_false_iff_ne]; exact h
    simp [kx]
  · refine lt (e := .Name z pz) (by simp) ?_
    have kx : (env.kindOf z == some .local) = false := by
      rw [beq_eq_false_iff_ne]; exact h
    simp [kx]
theorem swn_no {ts vs : List Expr} (hk : env.scope.kind = .function) (h : ts.length ≠ 2 ∧ ts.length ≠ 3) : swappedStores [.Tuple ts kt pt] (.Tuple vs k2 pt2) env = pure none := by
  unfold swappedStores
  simp only []
  rw [if_pos]
  simp [h.1, h.2]
theorem swf_no {ts vs : List Expr} (h : vs.all (foldedForSure 8) = true) : swappedStores [.Tuple ts kt pt] (.Tuple vs k2 pt2) env = pure none := by
  unfold swappedStores
  simp only [h, if_true]
  repeat' split
  all_goals rfl
end

def isComp : Expr → Bool
  | .ListComp .. => true | .SetComp .. => true | .DictComp .. => true | _ => false
theorem swp_no {e : Expr} {t : Option Expr} {l : Nat} {env : PySem.Env} (h : isComp e = false) : swapsWith e t l env = pure false := by
  cases e <;> first | rfl | cases h
theorem swl_no {elt : Expr} {gs : List Comprehension} {scope : Scope} {p py : Pos} {y : Str} {l : Nat} {env : PySem.Env} (h : env.scope.names.lookup y ≠ some .local) : swapsWith (.ListComp elt gs scope p) (some (.Name y py)) l env = pure false := by
  have k : (env.kindOf y == some .local) = false := by
    rw [beq_eq_false_iff_ne]; exact h
  unfold swapsWith
  simp only [k, Bool.and_false, Bool.false_and]
theorem sst_name {y : Str} {p : Pos} {e : Expr} {env : PySem.Env} : swappedStores [.Name y p] e env = pure none := by cases e <;> rfl
theorem sst_sub {o i : Expr} {p : Pos} {e : Expr} {env : PySem.Env} : swappedStores [.Subscript o i p] e env = pure none := by cases e <;> rfl
theorem sst_tup {ts : List Expr} {k : Nat} {p : Pos} {e : Expr} {env : PySem.Env} (h : isTupE e = false) : swappedStores [.Tuple ts k p] e env = pure none := by cases e <;> first | rfl | cases h

def kLoc (c : Tc) (x : Str) : Bool := decide (c.kind x = some .local)
def trNms (c : Tc) : List Expr → Option (List Nat)
  | [] => some []
  | .Name x _ :: r => match locK (c.kind x), nix c.N x, trNms c r with
    | true, some i, some is => some (i :: is)
    | _, _, _ => none
  | _ => none
/-- whether the stores are swapped -/
def trPar (c : Tc) (ts vs : List Expr) : Option Bool :=
  if vs.all (foldedForSure 8) then some false else
  if ts.length ≠ 2 ∧ ts.length ≠ 3 then some false else
  match ts, vs with
  | [.Name x px, .Name y py], [a, b] =>
    if kLoc c x && kLoc c y then
      (if decide (py.line = px.line) && decide (x ≠ y) && notStar a && notStar b && !(constantsAlone 8 a && constantsAlone 8 b) then some true else none)
    else some false
  | [.Name x px, .Name y py, .Name z pz], [a, b, d] =>
    if kLoc c x && (kLoc c y && kLoc c z) then
      (if decide (py.line = px.line) && decide (pz.line = px.line) && decide (x ≠ y) && decide (x ≠ z) && decide (y ≠ z) && notStar a && notStar b && notStar d && !(constantsAlone 8 a && (constantsAlone 8 b && constantsAlone 8 d)) then some true else none)
    else some false
  | _, _ => none
def trAug : Operator → Option Bop
  | .Add => some .add | .Sub => some .sub | .Mult => some .mul | .FloorDiv => some .fdiv | .Mod => some .mod | .LShift => some .shl | .RShift => some .shr
  | .BitAnd => some .band | .BitOr => some .bor | .BitXor => some .bxor | _ => none
def ownHas (sc : Scope) (y : Str) : Bool := sc.names.any fun (n, k) => n == y && (k == .local || k == .cell)
def mapS (f : Stmt → Option Sm) : List Stmt → Option Sms
  | [] => some .nil
  | s :: r => match f s, mapS f r with
    | some x, some xs => some (.cons x xs)
    | _, _ => none
def isSl : Expr → Bool
  | .Slice .. => true | _ => false
/-- y = v, v no comprehension -/
def asgOf (c : Tc) (f : Expr → Option Ex) (y : Str) (v : Expr) : Option Sm := match isComp v, locK (c.kind y), nix c.N y, f v with
  | false, true, some i, some x => some (.asg (.nm i) x)
  | _, _, _, _ => none
/-- y = [..] -/
def asgLc (c : Tc) (f : Expr → Option Ex) (y : Str) (py p : Pos) (scope : Scope) (v : Expr) : Option Sm := match kLoc c y, locK (c.kind y), nix c.N y, f v with
  | true, _, some i, some x => if decide (py.line = p.line) && !ownHas scope y then some (.asg (.nm i) x) else none
  | false, true, some i, some x => some (.asg (.nm i) x)
  | _, _, _, _ => none
def asgTp (c : Tc) (g : Expr → Option Tg) (f : Expr → Option Ex) (tg v : Expr) : Option Sm := match isComp v, g tg, f v with
  | false, some t, some x => some (.asg t x)
  | _, _, _ => none
def asgPar (c : Tc) (f : Expr → Option Ex) (ts vs : List Expr) : Option Sm := match trNms c ts, trPar c ts vs, mapX f vs with
  | some is, some _, some xs => if ts.length = vs.length ∧ ts.length ≤ 1000 ∧ is.Nodup then some (.par is xs) else none
  | _, _, _ => none
def asgSub (c : Tc) (f : Expr → Option Ex) (o j v : Expr) : Option Sm := match o with
  | .Name y _ => match isComp v, isSl j, trV c y, f j, f v with
    | false, false, some i, some z, some x => some (.setx i z x)
    | _, _, _, _, _ => none
  | _ => none
def retOf (f : Expr → Option Ex) (e : Expr) : Option Sm := match f e with
  | some x => if isVar x then none else some (.ret x)
  | none => none
def exprOf (f : Expr → Option Ex) (e : Expr) : Option Sm := match isComp e, f e with
  | false, some x => some (.expr x)
  | _, _ => none
def extOf (c : Tc) (f : Expr → Option Ex) (m y : Str) (ap cp : Pos) (a : Expr) : Option Sm := match decide (m = ("extend" : Str)), decide (ap.endLine = cp.line), trV c y, f a with
  | true, true, some i, some x => some (.ext i x)
  | _, _, _, _ => none
def appOf (c : Tc) (f : Expr → Option Ex) (m y : Str) (ap cp : Pos) (a : Expr) : Option Sm := match decide (m = ("append" : Str)), decide (ap.endLine = cp.line), trV c y, f a with
  | true, true, some i, some x => some (.app i x)
  | _, _, _, _ => none
/-- x.m(a) as a statement -/
def mcall : Expr → Option (Str × Pos × Str × Pos × Expr × Pos)
  | .Call (.Attribute (.Name y yp) m ap) [a] [] cp => some (y, yp, m, ap, a, cp)
  | _ => none
theorem mcall_eq {e a : Expr} {y m : Str} {yp ap cp : Pos} (h : mcall e = some (y, yp, m, ap, a, cp)) : e = .Call (.Attribute (.Name y yp) m ap) [a] [] cp := by
  unfold mcall at h
  split at h
  · cases h; rfl
  · cases h
def trAsg (n : Nat) (c : Tc) (tg v : Expr) : Option Sm := match tg with
  | .Name y py => match v with
    | .ListComp elt gs scope p => asgLc c (trE n c) y py p scope (.ListComp elt gs scope p)
    | v => asgOf c (trE n c) y v
  | .Tuple ts k p => match v with
    | .Tuple vs _ _ => asgPar c (trE n c) ts vs
    | v => asgTp c (trTg n c) (trE n c) (.Tuple ts k p) v
  | .Subscript o j _ => asgSub c (trE n c) o j v
  | _ => none
/-- x = y[j] -/
def asxOf (c : Tc) (g : Expr → Option Tg) (f : Expr → Option Ex) (tg v : Expr) : Option Sm := match v with
  | .Subscript (.Name y _) j _ => match isSl j, trV c y, f j, g tg with
    | false, some i, some z, some t => some (.asx t i z)
    | _, _, _, _ => none
  | _ => none
def trRet (n : Nat) (c : Tc) (e : Expr) : Option Sm := match e with
  | .Name y _ => (trV c y).map fun i => .ret (.var i)
  | e => retOf (trE n c) e
/-- what is shown not to be reached -/
def noSm : Sm := .expr (.ix (.lit .none) (.lit .none))
theorem sm_no {X : Cx} {C : Nat → Fs} {E : XK} {s : Stmt} : PS X s (tS X C E noSm) := ⟨fun pins s σ H D I ⟨S, G0, H0, Gb, G, env, k, st, sb, en, h⟩ => by
  simp only [noSm, Sm.rd, Ex.rd, IxP] at h⟩
def trS : Nat → Tc → Stmt → Option Sm
  | 0, _, _ => none
  | n + 1, c, s => match s with
    | .Assign [tg] v _ => match asxOf c (trTg n c) (trE n c) tg v with
      | some z => some z
      | none => trAsg n c tg v
    | .AugAssign (.Name y _) op e _ => match locK (c.kind y), nix c.N y, trAug op, trE n c e with
      | true, some i, some o, some x => some (.aug i o x)
      | _, _, _, _ => none
    | .AugAssign (.Subscript (.Name y _) j _) op e _ => match isSl j, trV c y, trAug op, trE n c j, trE n c e with
      | false, some i, some o, some z, some x => some (.augx i z o x)
      | _, _, _, _, _ => none
    | .Expr e _ => match mcall e with
      | some (y, _, m, ap, a, cp) => match appOf c (trE n c) m y ap cp a with
        | some z => some z
        | none => extOf c (trE n c) m y ap cp a
      | none => exprOf (trE n c) e
    | .If t a b _ => match trT n c t, mapS (trS n c) a, mapS (trS n c) b with
      | some z, some x, some y => some (.ite z x y)
      | _, _, _ => none
    | .For tg it b [] _ => match isSet it, trTg n c tg, trI n c (isTupE tg) it, mapS (trS n c) b with
      | false, some t, some i, some x => some (.for_ t i x)
      | _, _, _, _ => none
    | .While t b [] _ => match trT n c t, mapS (trS n c) b with
      | some z, some x => some (.whl z x)
      | _, _ => none
    | .Return none _ => some .retn
    | .Return (some e) _ => trRet n c e
    | .Pass _ => some .pass
    | .Break _ => some .brk
    | .Continue _ => some .cnt
    | .Raise .. => some noSm
    | _ => none
structure CokS (X : Cx) (c : Tc) (C : Nat → Fs) (E : XK) (lv : Nat) : Prop extends Cok X c C E lv where
  sc : X.env.scope = c.sc
  pow : PassesOwn (model X.prog X.w) X.A X.env X.xe
section
variable {X : Cx} {c : Tc} {C : Nat → Fs} {E : XK} {lv n : Nat}
theorem mapS_ok {f : Stmt → Option Sm} (hf : ∀ s x, f s = some x → PS X s (tS X C E x)) : ∀ {ss : List Stmt} {xs : Sms}, mapS f ss = some xs → PSs X ss (tSs X C E xs)
  | [], xs, h => by cases h; exact ss_nil
  | s :: r, xs, h => by
    simp only [mapS] at h
    split at h
    · rename_i y ys h1 h2; cases h; exact ss_cons (hf _ _ h1) (mapS_ok hf h2)
    · cases h
theorem kLoc_of (k : CokS X c C E lv) {x : Str} (h : kLoc c x = true) : X.env.scope.names.lookup x = some .local := by
  rw [k.sc]; exact of_decide_eq_true h
theorem kLoc_no (k : CokS X c C E lv) {x : Str} (h : kLoc c x = false) : X.env.scope.names.lookup x ≠ some .local := by
  rw [k.sc]; exact of_decide_eq_false h
theorem trNms_ok (k : Cok X c C E lv) : ∀ {ts : List Expr} {is : List Nat}, trNms c ts = some is → PGs X ts (nmsR is) ∧ (assignEach ts X.env).length = is.length ∧ (assignEach ts X.env).findIdx? (·.1) = none ∧ ts.length = is.length
  | [], is, h => by cases h; exact ⟨pgs_nil, rfl, rfl, rfl⟩
  | .Name x p :: r, is, h => by
    simp only [trNms] at h
    split at h
    · rename_i i js h1 h2 h3
      cases h
      obtain ⟨i1, i2, i3, i4⟩ := trNms_ok k h3
      obtain ⟨l1, l2⟩ := loc_of k h1
      have hN : X.N[i]? = some x := by rw [k.N]; exact nix_get h2
      have ea : assignEach (.Name x p :: r) X.env = (false, assign (.Name x p) X.env) :: assignEach r X.env := rfl
      refine ⟨pgs_cons (pg_name (by rw [k.N]; exact k.nd) hN l1 l2) i1 rfl, by rw [ea, List.length_cons, i2, List.length_cons], ?_, by rw [List.length_cons, i4, List.length_cons]⟩
      rw [ea, List.findIdx?_cons]
      simp [i3]
    · cases h
theorem trAug_ok {op : Operator} {o : Bop} (h : trAug op = some o) : (op = .Add ∧ o = .add) ∨ (op = .Sub ∧ o = .sub) ∨ (op = .Mult ∧ o = .mul) ∨ (op = .FloorDiv ∧ o = .fdiv) ∨ (op = .Mod ∧ o = .mod) ∨ (op = .LShift ∧ o = .shl) ∨ (op = .RShift ∧ o = .shr) ∨ (op = .BitAnd ∧ o = .band) ∨ (op = .BitOr ∧ o = .bor) ∨ (op = .BitXor ∧ o = .bxor) := by
  cases op <;> cases h <;> simp
theorem snd_par (k : CokS X c C E lv) {ts vs : List Expr} {is : List Nat} {b : Bool} {xs : Exs} {kt k2 : Nat} {p p2 pos : Pos} (h1 : trNms c ts = some is) (h2 : trPar c ts vs = some b) (hl : ts.length = vs.length) (hz : ts.length ≤ 1000) (nd : is.Nodup) (hF : PA X vs (tF X C E xs)) :
    PS X (.Assign [.Tuple ts kt p] (.Tuple vs k2 p2) pos) (tS X C E (.par is xs)) := by
  obtain ⟨g1, g2, g3, g4⟩ := trNms_ok k.toCok h1
  have reg : swappedStores [.Tuple ts kt p] (.Tuple vs k2 p2) X.env = pure none → PS X (.Assign [.Tuple ts kt p] (.Tuple vs k2 p2) pos) (tS X C E (.par is xs)) := fun hw =>
    sm_parT (by omega) (ps_asg (pe_tup hF) (pg_tup k.calm g1 g2 g3) rfl hw)
  unfold trPar at h2
  split at h2
  · rename_i hf; exact reg (swf_no hf)
  split at h2
  · rename_i hn; exact reg (swn_no k.sk hn)
  split at h2
  · rename_i x px y py a b' hn hf
    split at h2
    · rename_i hk
      rw [Bool.and_eq_true] at hk
      split at h2
      · rename_i hc
        simp only [Bool.and_eq_true, decide_eq_true_eq, Bool.not_eq_true'] at hc
        obtain ⟨⟨⟨⟨c1, c2⟩, c3⟩, c4⟩, c5⟩ := hc
        have hf' : (foldedForSure 8 a && foldedForSure 8 b') = false := by simpa using hf
        have lx := kLoc_of k hk.1
        have ly := kLoc_of k hk.2
        simp only [trNms] at h1
        split at h1
        · rename_i i js q1 q2 q3
          split at q3
          · rename_i j ls r1 r2 r3
            cases r3; cases q3; cases h1
            have hij : i ≠ j := by
              intro z; subst z; simp at nd
            exact sm_par2 (ps_par k.calm (by rw [k.N]; exact k.nd) (by rw [k.N]; exact nix_get q2) (by rw [k.N]; exact nix_get r2) hij lx ly hF (sw2_yes k.sk lx ly c1 c2 c3 c4 hf' c5) rfl)
          · cases q3
        · cases h1
      · cases h2
    · rename_i hk
      refine reg (sw2_no k.sk ?_)
      rw [Bool.and_eq_true, Classical.not_and_iff_not_or_not] at hk
      rcases hk with hk | hk
      · exact .inl (kLoc_no k (by simpa using hk))
      · exact .inr (kLoc_no k (by simpa using hk))
  · rename_i x px y py z pz a b' d hn hf
    split at h2
    · rename_i hk
      rw [Bool.and_eq_true, Bool.and_eq_true] at hk
      split at h2
      · rename_i hc
        simp only [Bool.and_eq_true, decide_eq_true_eq, Bool.not_eq_true'] at hc
        obtain ⟨⟨⟨⟨⟨⟨⟨⟨c1, c1'⟩, c2⟩, c2'⟩, c2''⟩, c3⟩, c4⟩, c4'⟩, c5⟩ := hc
        have hf' : (foldedForSure 8 a && (foldedForSure 8 b' && foldedForSure 8 d)) = false := by simpa using hf
        have lx := kLoc_of k hk.1
        have ly := kLoc_of k hk.2.1
        have lz := kLoc_of k hk.2.2
        simp only [trNms] at h1
        split at h1
        · rename_i i js q1 q2 q3
          split at q3
          · rename_i j ls r1 r2 r3
            split at r3
            · rename_i l us s1 s2 s3
              cases s3; cases r3; cases q3; cases h1
              have hij : i ≠ j := by intro z; subst z; simp at nd
              have hil : i ≠ l := by intro z; subst z; simp at nd
              have hjl : j ≠ l := by intro z; subst z; simp at nd
              exact sm_par3 (ps_par3 k.calm (by rw [k.N]; exact k.nd) (by rw [k.N]; exact nix_get q2) (by rw [k.N]; exact nix_get r2) (by rw [k.N]; exact nix_get s2) hij hil hjl lx ly lz hF (sw3_yes k.sk lx ly lz c1 c1' c2 c2' c2'' c3 c4 c4' hf' c5) rfl)
            · cases r3
          · cases q3
        · cases h1
      · cases h2
    · rename_i hk
      refine reg (sw3_no k.sk ?_)
      rw [Bool.and_eq_true, Bool.and_eq_true, Classical.not_and_iff_not_or_not, Classical.not_and_iff_not_or_not] at hk
      rcases hk with hk | hk | hk
      · exact .inl (kLoc_no k (by simpa using hk))
      · exact .inr (.inl (kLoc_no k (by simpa using hk)))
      · exact .inr (.inr (kLoc_no k (by simpa using hk)))
  · cases h2
end
end DL
set_option Elab.async false
set_option linter.all false
set_option maxRecDepth 100000
set_option maxHeartbeats 4000000
/-! D13: the translation of statements is sound; a def keeps the promise of its reading. -/
namespace DL
open PySem PySem.Spec PyProof.Rows L2
section
variable {X : Cx} {c : Tc} {C : Nat → Fs} {E : XK} {lv : Nat}
theorem notVar {x : Ex} (h : isVar x = false) : ∀ i, x ≠ .var i := fun i z => by subst z; cases h
theorem swsole {t v : Expr} {l : Nat} {env : PySem.Env} (h : isComp v = false) : swapsWithSole [t] v l env = pure false := swp_no (e := v) (t := some t) h
theorem notSl {e : Expr} (h : isSl e = false) : ∀ a b d p, e ≠ .Slice a b d p := fun a b d p z => by subst z; cases h
theorem snd_asg (k : CokS X c C E lv) {y : Str} {py pos : Pos} {v : Expr} {i : Nat} {x : Ex} (hy : locK (c.kind y) = true) (hi : nix c.N y = some i) (hv : PE X v (tE X C E x)) (hs : swapsWith v (some (.Name y py)) pos.line X.env = pure false) : PS X (.Assign [.Name y py] v pos) (tS X C E (.asg (.nm i) x)) := by
  obtain ⟨l1, l2⟩ := loc_of k.toCok hy
  exact sm_asg (tg := v) (e := v) (ps_asg hv (pg_name (by rw [k.N]; exact k.nd) (by rw [k.N]; exact nix_get hi) l1 l2) hs sst_name)
theorem snd_asgs (k : CokS X c C E lv) {n : Nat} {tg v : Expr} {pos : Pos} {x : Sm} (h : trAsg n c tg v = some x) : PS X (.Assign [tg] v pos) (tS X C E x) := by
  have hE : ∀ {e x}, trE n c e = some x → PE X e (tE X C E x) := fun h => (snd n).1 k.toCok h
  have fn : ∀ e x, trE n c e = some x → ∀ v p, e ≠ .Starred v p := fun e x h => ns_of h
  cases tg with
  | Name y py =>
    by_cases hc : ∃ elt gs scope p, v = .ListComp elt gs scope p
    · obtain ⟨elt, gs, scope, p, rfl⟩ := hc
      have h' : asgLc c (trE n c) y py p scope (.ListComp elt gs scope p) = some x := h
      unfold asgLc at h'
      split at h'
      · rename_i i z hy h1 h2
        split at h'
        · rename_i hl
          cases h'
          simp only [Bool.and_eq_true, decide_eq_true_eq, Bool.not_eq_true'] at hl
          cases n with
          | zero => simp [trE] at h2
          | succ n =>
            match gs, h2 with
            | [g], h2 =>
              obtain ⟨it, t, cs, e, rfl, ha, ok, hi, hg, ht, he, hs, imp⟩ := snd_lc (snd n).1 (snd n).2.1 (snd n).2.2 k.toCok h2
              obtain ⟨tg, iter, ifs, asy⟩ := g
              cases ha
              have ly := kLoc_of k hy
              exact sm_asg (tg := .Name y py) (e := .Name y py) (PS.imp (ps_setLc (i := i) k.calm (by rw [k.N]; exact k.nd) (by rw [k.N]; exact nix_get h1) ly (sw_true k.sk ly (by rw [hl.1]; exact beq_self_eq_true _) hl.2) hi ok hg ht he hs) fun D σ H q => imp q)
            | [], h2 => simp [trE] at h2
            | _ :: _ :: _, h2 => simp [trE] at h2
        · cases h'
      · rename_i i z hy hy2 h1 h2
        cases h'
        exact snd_asg k hy2 h1 (hE h2) (swl_no (kLoc_no k hy))
      · cases h'
    · have h' : asgOf c (trE n c) y v = some x := by
        cases v <;> first | exact absurd ⟨_, _, _, _, rfl⟩ hc | exact h
      unfold asgOf at h'
      split at h'
      · rename_i i z h1 h2 h3 h4
        cases h'
        exact snd_asg k h2 h3 (hE h4) (swp_no h1)
      · cases h'
  | Tuple ts kt p =>
    by_cases hc : ∃ vs k2 p2, v = .Tuple vs k2 p2
    · obtain ⟨vs, k2, p2, rfl⟩ := hc
      have h' : asgPar c (trE n c) ts vs = some x := h
      unfold asgPar at h'
      split at h'
      · rename_i is b xs h1 h2 h3
        split at h'
        · rename_i hl
          cases h'
          exact snd_par k h1 h2 hl.1 hl.2.1 hl.2.2 (mapX_F (fun e x h => hE h) fn h3)
        · cases h'
      · cases h'
    · have h' : asgTp c (trTg n c) (trE n c) (.Tuple ts kt p) v = some x := by
        cases v <;> first | exact absurd ⟨_, _, _, rfl⟩ hc | exact h
      have ht : isTupE v = false := by
        cases v <;> first | exact absurd ⟨_, _, _, rfl⟩ hc | rfl
      unfold asgTp at h'
      split at h'
      · rename_i t z h1 h2 h3
        cases h'
        have g := (trTg_ok n k.toCok h2).1
        have tt : ∃ u, t = .tp u := by
          cases n with
          | zero => simp [trTg] at h2
          | succ n =>
            simp only [trTg, Option.map_eq_some_iff] at h2
            obtain ⟨u, _, rfl⟩ := h2
            exact ⟨u, rfl⟩
        obtain ⟨u, rfl⟩ := tt
        exact sm_asgT (ps_asg (hE h3) g (swsole h1) (sst_tup ht))
      · cases h'
  | Subscript o j tp =>
    have h' : asgSub c (trE n c) o j v = some x := h
    unfold asgSub at h'
    split at h'
    · split at h'
      · rename_i i z w h1 h2 h3 h4 h5
        cases h'
        exact sm_setx k.toCok.hu (trV_ok k.toCok h3).1 (hE h4) (notSl h2) (hE h5) (swsole h1) sst_sub
      · cases h'
    · cases h'
  | _ => cases h
theorem snd_asx (k : CokS X c C E lv) {n : Nat} {tg v : Expr} {pos : Pos} {x : Sm} (h : asxOf c (trTg n c) (trE n c) tg v = some x) : PS X (.Assign [tg] v pos) (tS X C E x) := by
  unfold asxOf at h
  split at h
  · rename_i y yp j sp
    split at h
    · rename_i i z t h1 h2 h3 h4
      cases h
      have g := (trTg_ok n k.toCok h4).1
      refine sm_asx (o := .Name y yp) (sp := sp) k.toCok.hu (trV_ok k.toCok h2).1 ((snd n).1 k.toCok h3) (plainIx_of (by intros lo hi p e; subst e; cases h1)) fun he => ?_
      cases n with
      | zero => simp [trTg] at h4
      | succ n =>
        cases tg with
        | Name q qp => exact ps_asg he g (swsole rfl) sst_name
        | Tuple ts kk qp => exact ps_asg he g (swsole rfl) (sst_tup rfl)
        | _ => simp [trTg] at h4
    · cases h
  · cases h
theorem snd_S : ∀ (n : Nat), CokS X c C E lv → ∀ {s : Stmt} {x : Sm}, trS n c s = some x → PS X s (tS X C E x)
  | 0, k, s, x, h => by simp [trS] at h
  | n + 1, k, s, x, h => by
    have hE : ∀ {e x}, trE n c e = some x → PE X e (tE X C E x) := fun h => (snd n).1 k.toCok h
    have hT : ∀ {e x}, trT n c e = some x → PT X e (tT X C E x) := fun h => (snd n).2.1 k.toCok h
    have hI : ∀ {tg e x}, trI n c (isTupE tg) e = some x → PI X tg e (tI X C E x) := fun h => (snd n).2.2 k.toCok h
    have hS : ∀ s x, trS n c s = some x → PS X s (tS X C E x) := fun s x h => snd_S n k h
    have fn : ∀ e x, trE n c e = some x → ∀ v p, e ≠ .Starred v p := fun e x h => ns_of h
    cases s with
    | Assign ts v pos =>
      match ts, h with
      | [tg], h =>
        simp only [trS] at h
        split at h
        · rename_i z hz
          cases h
          exact snd_asx k hz
        · exact snd_asgs k (n := n) h
      | [], h => simp [trS] at h
      | _ :: _ :: _, h => simp [trS] at h
    | AugAssign tg op e pos =>
      cases tg with
      | Name y py =>
        simp only [trS] at h
        split at h
        · rename_i i o z h1 h2 h3 h4
          cases h
          obtain ⟨l1, l2⟩ := loc_of k.toCok h1
          have hN : X.N[i]? = some y := by rw [k.N]; exact nix_get h2
          exact sm_aug (trAug_ok h3) (by rw [k.N]; exact k.nd) hN l1 l2 (fun he ho => ps_aug (by rw [k.N]; exact k.nd) hN l1 he ho l2) (hE h4)
        · cases h
      | Subscript ob j tp =>
        cases ob with
        | Name y py =>
          simp only [trS] at h
          split at h
          · rename_i i o z w h1 h2 h3 h4 h5
            cases h
            exact sm_augx k.toCok.hu (trAug_ok h3) (trV_ok k.toCok h2).1 (hE h4) (notSl h1) (hE h5)
          · cases h
        | _ => simp [trS] at h
      | _ => simp [trS] at h
    | Expr e pos =>
      simp only [trS] at h
      split at h
      · rename_i y yp m ap a cp hm
        have e1 := mcall_eq hm
        subst e1
        split at h
        · rename_i z0 ha
          cases h
          unfold appOf at ha
          split at ha
          · rename_i i z h1 h2 h3 h4
            cases ha
            have hm' := of_decide_eq_true h1
            subst hm'
            exact sm_app (trV_ok k.toCok h3).1 (hE h4) (fn _ _ h4) rfl (by rw [of_decide_eq_true h2]; exact beq_self_eq_true _) (by rw [star_of (fn _ _ h4)]; rfl)
          · cases ha
        · unfold extOf at h
          split at h
          · rename_i i z h1 h2 h3 h4
            cases h
            have hm' := of_decide_eq_true h1
            subst hm'
            exact sm_ext (trV_ok k.toCok h3).1 (hE h4) (fn _ _ h4) rfl (by rw [of_decide_eq_true h2]; exact beq_self_eq_true _) (by rw [star_of (fn _ _ h4)]; rfl)
          · cases h
      · unfold exprOf at h
        split at h
        · rename_i z h1 h2; cases h; exact sm_expr (hE h2) (swp_no h1)
        · cases h
    | If t a b pos =>
      simp only [trS] at h
      split at h
      · rename_i z y w h1 h2 h3; cases h; exact sm_ite (hT h1) (mapS_ok hS h2) (mapS_ok hS h3)
      · cases h
    | For tg it b els pos =>
      cases els with
      | cons _ _ => simp [trS] at h
      | nil =>
        simp only [trS] at h
        split at h
        · rename_i t i y h1 h2 h3 h4
          cases h
          exact sm_for k.pow k.calm (hI h3) (trTg_ok n k.toCok h2).1 (mapS_ok hS h4) (fun w => trTg_tp h2 (trI_wk h3 w)) (folded_of h1)
        · cases h
    | While t b els pos =>
      cases els with
      | cons _ _ => simp [trS] at h
      | nil =>
        simp only [trS] at h
        split at h
        · rename_i z y h1 h2; cases h; exact sm_whl k.pow (hT h1) (mapS_ok hS h2)
        · cases h
    | Return v pos =>
      cases v with
      | none => simp only [trS] at h; cases h; exact sm_retn
      | some e =>
        have h0 : trRet n c e = some x := by simpa only [trS] using h
        by_cases hc : ∃ y p, e = .Name y p
        · obtain ⟨y, p, rfl⟩ := hc
          simp only [trRet, Option.map_eq_some_iff] at h0
          obtain ⟨i, h1, rfl⟩ := h0
          exact sm_retv (trV_ok k.toCok h1).1
        · have h' : retOf (trE n c) e = some x := by
            cases e <;> first | exact absurd ⟨_, _, rfl⟩ hc | exact h0
          unfold retOf at h'
          split at h'
          · rename_i z h1
            split at h'
            · cases h'
            · rename_i hv
              cases h'
              exact sm_ret (notVar (by simpa using hv)) (hE h1)
          · cases h'
    | Pass pos => simp only [trS] at h; cases h; exact sm_pass
    | Break pos => simp only [trS] at h; cases h; exact sm_brk
    | Continue pos => simp only [trS] at h; cases h; exact sm_cnt
    | Raise e c pos => simp only [trS] at h; cases h; exact sm_no
    | _ => simp [trS] at h

/-! ### a def -/
def envOf (N : List Str) (sl : List Sl) : Env := sl ++ List.replicate (N.length - sl.length) .un
theorem paired_get {α β : Type} {F : α → β → Prop} : ∀ {xs : List α} {ys : List β}, Paired F xs ys → ∀ {i : Nat} {y : β}, ys[i]? = some y → ∃ x, xs[i]? = some x ∧ F x y
  | _, _, .nil, i, y, e => by simp at e
  | _, _, .cons h t, 0, y, e => by simp at e; subst e; exact ⟨_, rfl, h⟩
  | _, _, .cons h t, i + 1, y, e => by
    obtain ⟨x, e', r⟩ := paired_get t (i := i) (y := y) (by simpa using e)
    exact ⟨x, by simpa using e', r⟩
theorem start_ok {K : PySem.W.Frag} {S : Sx} {G H : Hp} {N : List Str} {ws : List V} {sl : List Sl} (s : Sub G H) (so : SrcOk S G H) (r : Paired (ArgOk K S G) ws sl) : StS K S G H G H (L2.start N ws) (envOf N sl) := by
  have hl : ws.length = sl.length := Paired.length r
  have at_ : ∀ (i : Nat) (l : Sl), (envOf N sl)[i]? = some l → (∃ v, (L2.start N ws)[i]? = some (some v) ∧ ArgOk K S G v l) ∨ l = .un := fun i l e => by
    unfold envOf at e
    by_cases hi : i < sl.length
    · rw [List.getElem?_append_left hi] at e
      obtain ⟨v, ev, h⟩ := paired_get r e
      refine .inl ⟨v, ?_, h⟩
      unfold L2.start
      rw [List.getElem?_append_left (by rw [List.length_map, hl]; exact hi), List.getElem?_map, ev]
      rfl
    · rw [List.getElem?_append_right (by omega)] at e
      rw [List.getElem?_replicate] at e
      split at e
      · cases e; exact .inr rfl
      · cases e
  refine ⟨.refl s so, so, fun i l e => ?_, fun i j d d' v _ e _ _ _ => ?_, by unfold L2.start envOf; simp [hl]⟩
  · rcases at_ i l e with ⟨v, ev, h⟩ | rfl
    · cases l with
      | un => trivial
      | sh d => exact ⟨v, ev, h⟩
      | src => obtain ⟨sa, ca, h1, rfl⟩ := h; exact ⟨sa, ca, h1, ev⟩
      | ow d => exact h.elim
    · trivial
  · rcases at_ i _ e with ⟨_, _, h⟩ | h
    · exact h.elim
    · cases h
/-- a def of the module, by its reading -/
theorem def_ok {P : Program} {w : World} {K : PySem.W.Frag} {mg : Str → Option Value} {base : Heap} {x qual : Str} {params : Arguments} {body : List Stmt} {scope : Scope} {f : Addr} {fd : FuncData} {N ps : List Str} {ft : List (Str × Nat)} {gl : List (Str × PyData)} {lv n : Nat} {c : Fs} {b : Sms}
    (F : FunD K x qual params body scope [] [] f fd) (Sc : FnScope N ps scope) (tr : mapS (trS n ⟨N, scope, ft, gl⟩) body = some b)
    (fns : ∀ (j : Nat) (y : Str), (y, j) ∈ ft → ∃ g gd qs, mg y = some (.ref g) ∧ PySem.W.keepIn K (.ref g) = true ∧ L2.Binds K gd qs [] ∧ FnG P w K mg base lv g gd qs (SpOf K mg (C j)))
    (srt : ∀ j, j < 10000 → C (10000 + j) = SortP (C j)) (bi : ∀ y ∈ blts, mg y = none) (sy : SysD base) (gls : ∀ x d, gl.lookup x = some d → GlV mg x d) (ar : ∀ sl Q Ep, c sl Q Ep → sl.length = ps.length)
    (rd : ∀ sl Q Ep, c sl Q Ep → b.rd C (envOf N sl) { nx := fun _ => Q false .none, rt := Q, ex := Ep }) : FnG P w K mg base (lv + 1) f fd ps (SpOf K mg c) := by
  refine fn_g F Sc (fun ws H Q E h => ?_) (fun cdv A outer s H ws Q E hr hcl h => ?_)
  · obtain ⟨S, G, sl, Qp, Ep, _, _, r, hc, _, _⟩ := h
    rw [Paired.length r]
    exact ar _ _ _ hc
  · obtain ⟨S, G, sl, Qp, Ep, s1, so, r, hc, rz, fin⟩ := h
    have ck : CokS (cxOf (L2.CX P w) P w K mg base N qual scope f cdv A outer s H E) ⟨N, scope, ft, gl⟩ C E lv := by
      refine ⟨⟨rfl, Sc.nd, Sc.kind, fun _ _ h _ => h, fun y h => ?_, fun _ _ => rfl, rfl, room_of2 hr, hr, srt, hcl, passes_call (takes_of rfl rfl rfl rfl) (fun _ _ _ _ h => h), fun j y hj => fns j y hj, bi, sy, gls⟩, rfl, passes_of rfl⟩
      exact .inl h
    refine ⟨tSs (cxOf (L2.CX P w) P w K mg base N qual scope f cdv A outer s H E) C E b, mapS_ok (fun s x h => snd_S n ck h) tr, ?_⟩
    refine ⟨S, G, H, G, G, envOf N sl, { nx := fun _ => Qp false .none, rt := Qp, ex := Ep }, start_ok s1 so r, .refl G, ⟨fun G' H' σ' env' st' _ h' => ?_, fun _ _ _ _ _ _ h' => h'.elim, fun _ _ _ _ _ _ h' => h'.elim, fun v H' p => fin v H' p, rz⟩, rd _ _ _ hc⟩
    exact fin _ _ (.of st'.x .non h')
end
end DL
set_option Elab.async false
set_option linter.all false
set_option maxRecDepth 100000
set_option maxHeartbeats 4000000
/-! Ds: the source of picks: what a pick does. -/
namespace DL
open PySem PySem.Spec PyProof.Rows L2
def srcD (ca : Addr) (l m t : Int) : List (Key × V) := [(kCells, .ref ca), (kLeft, .int l), (kMixed, .int m), (kTurn, .int t)]
section
variable {ca : Addr} {l m t : Int} {v : V}
theorem val_cells : valV (srcD ca l m t) kCells = some (.ref ca) := rfl
theorem val_left : valV (srcD ca l m t) kLeft = some (.int l) := rfl
theorem val_mixed : valV (srcD ca l m t) kMixed = some (.int m) := rfl
theorem val_turn : valV (srcD ca l m t) kTurn = some (.int t) := rfl
theorem put_left {i : Int} : putK (srcD ca l m t) kLeft (.int i) = srcD ca i m t := rfl
theorem put_mixed {i : Int} : putK (srcD ca l m t) kMixed (.int i) = srcD ca l i t := rfl
theorem put_turn {i : Int} : putK (srcD ca l m t) kTurn (.int i) = srcD ca l m i := rfl
end
/-- only the source has changed -/
structure SrcStep (H H' : Hp) (sa ca : Addr) : Prop where
  at_ : SrcAt H' sa ca
  same : ∀ a, a ≠ sa → a ≠ ca → H' a = H a
def rInt1 : List V → Hp → VK → Prop := fun xs H Q => (∃ i, xs = [V.int i] ∧ Q (.int i) H) ∨ ∃ k, xs = [V.bl k] ∧ Q (.int (if k = true then 1 else 0)) H
def rMax2 : List V → Hp → VK → Prop := fun xs H Q => ∃ i j, xs = [V.int i, V.int j] ∧ Q (.int (if j > i then j else i)) H
def rLen1 (K : PySem.W.Frag) : List V → Hp → VK → Prop := fun xs H Q => ∃ x n, xs = [x] ∧ LenV K x H n ∧ Q (.int (n : Nat)) H
def gSrc (k : Str) : TE := tDGet (tVar 0) (tC (.str k))
def pSrc (k : Str) (t : TE) : TS := sDPut (tVar 0) (tC (.str k)) t
def eMany : TE := tCB rMax2 (tCons (tC (.int 1)) (tCons (tVar 1) tNil))
def eInt (t : TE) : TE := tCB rInt1 (tCons t tNil)
def eMod (a b : TE) : TE := tOp (rI (fun _ j => 0 < j) fun i j => V.int (i % j)) a b
def eAdd (a b : TE) : TE := tOp (rI0 fun i j => V.int (i + j)) a b
def eMul (a b : TE) : TE := tOp (rI CMul fun i j => V.int (i * j)) a b
def eDiv (a b : TE) : TE := tOp (rI CDivW fun i j => V.int (i / j)) a b
def cPick (K : PySem.W.Frag) : TT := tAnd (tB (tGt (tVar 1) (tC (.int 1)))) (tAnd (tB (tLt (gSrc "left") (tC (.int 2)))) (tB (tGt (tCB (rLen1 K) (tCons (gSrc "cells") tNil)) (tC (.int 0)))))
def lPick (K : PySem.W.Frag) : TS := tWhile (cPick K) (pSrc "left" (tBM0 K "list" rPop (gSrc "cells")))
def iPick : TS := tIfS (tOr (tB (tLt (tVar 1) (tC (.int 2)))) (tB (tGt (tVar 2) (tC (.int 1))))) (tSeq (pSrc "left" (eDiv (tVar 2) eMany)) (tRet (eMod (eInt (tVar 2)) eMany))) tNext
def tPick (K : PySem.W.Frag) : TS := tSeq (lPick K) (tSeq (tAsg (gSrc "left") (gName 2)) (tSeq iPick (tSeq (pSrc "turn" (eAdd (gSrc "turn") (tC (.int 1))))
  (tSeq (tAsg (eMod (eInt (eAdd (gSrc "mixed") (eMul (gSrc "turn") (tC (.int 104729))))) (tC (.int 998244353))) (gName 3))
  (tSeq (tAsg (eMod (eInt (eAdd (eMul (tVar 3) (tVar 3)) (eMul (gSrc "turn") (tC (.int 17))))) (tC (.int 2147483647))) (gName 3))
  (tSeq (pSrc "mixed" (tVar 3)) (tRet (eMod (eInt (eDiv (tVar 3) (tC (.int 16)))) (tVar 1)))))))))
section
variable {K : PySem.W.Frag} {H : Hp} {sa ca : Addr} {m : Int}
theorem dget_src {l mi t : Int} {k : Key} {u : V} (e : H sa = some (.dK (srcD ca l mi t))) (hv : valV (srcD ca l mi t) k = some u) : DGet H sa (kV k) (some u) := .inl ⟨_, k, .inl e, rfl, hv.symm⟩
theorem small4 {l mi t : Int} : (srcD ca l mi t).length < sizeLine := by rw [sizeLine_eq]; show 4 < _; decide
theorem g_src {σ : L2.St} {Q : VK} {l mi t : Int} {k : Str} {u : V} (e0 : σ[0]? = some (some (.ref sa))) (e : H sa = some (.dK (srcD ca l mi t))) (hv : valV (srcD ca l mi t) (.inr k) = some u) (q : Q u H) : gSrc k σ H Q :=
  ⟨_, e0, sa, u, rfl, .inl ⟨_, .inr k, .inl e, rfl, hv.symm⟩, q⟩
theorem p_src {σ : L2.St} {D : Ends} {l mi t l' mi' t' : Int} {k : Str} {v : V} (e0 : σ[0]? = some (some (.ref sa))) (e : H sa = some (.dK (srcD ca l mi t))) (hp : putK (srcD ca l mi t) (.inr k) v = srcD ca l' mi' t')
    (q : D.nx σ (upd H sa (.dK (srcD ca l' mi' t')))) : tVar 0 σ H fun x H2 => tC (.str k) σ H2 fun y H3 => ∃ a H4, x = .ref a ∧ DPut H3 a y v H4 ∧ D.nx σ H4 :=
  ⟨_, e0, sa, _, rfl, .inl ⟨_, .inr k, e, rfl, small4, by rw [hp]⟩, q⟩
theorem e_many {σ : L2.St} {Q : VK} (e1 : σ[1]? = some (some (.int m))) (q : Q (.int (if m > 1 then m else 1)) H) : eMany σ H Q := ⟨_, e1, 1, m, rfl, q⟩
def RngP (m r : Int) : Prop := 0 ≤ r ∧ (1 ≤ m → r < m) ∧ (m < 1 → r = 0)
theorem upd2 {H : Hp} {a : Addr} {o o' : HO} : upd (upd H a o) a o' = upd H a o' := by
  funext b
  by_cases h : b = a
  · subst h; rw [upd_same, upd_same]
  · rw [upd_ne h, upd_ne h, upd_ne h]
theorem log2_small {n : Int} (h : n.natAbs < 2147483648) : n.natAbs.log2 < 9000 := by
  by_cases z : n.natAbs = 0
  · rw [z]; decide
  · have := (Nat.log2_lt z (k := 9000)).mpr (Nat.lt_of_lt_of_le h (by
      have : (2147483648 : Nat) = 2 ^ 31 := by decide
      rw [this]; exact Nat.pow_le_pow_right (by decide) (by decide)))
    exact this
/-- behind the loop -/
theorem pick_rest {D : Ends} (ne : sa ≠ ca) {H0 : Hp} {ns : List Int} {l mi t : Int} (e1 : H sa = some (.dK (srcD ca l mi t))) (e2 : H ca = some (.lst (ns.map V.int))) (n0 : ∀ n ∈ ns, 0 ≤ n) (l0 : 0 ≤ l) (m0 : 0 ≤ mi) (m1 : mi < 2147483647) (t0 : 0 ≤ t) (len : ns.length ≤ 63)
    (same : ∀ a, a ≠ sa → a ≠ ca → H a = H0 a) (big : m.natAbs.log2 < 9000) (want : ∀ r H', RngP m r → SrcStep H0 H' sa ca → D.rt (.int r) H') :
    tSeq (tAsg (gSrc "left") (gName 2)) (tSeq iPick (tSeq (pSrc "turn" (eAdd (gSrc "turn") (tC (.int 1))))
      (tSeq (tAsg (eMod (eInt (eAdd (gSrc "mixed") (eMul (gSrc "turn") (tC (.int 104729))))) (tC (.int 998244353))) (gName 3))
      (tSeq (tAsg (eMod (eInt (eAdd (eMul (tVar 3) (tVar 3)) (eMul (gSrc "turn") (tC (.int 17))))) (tC (.int 2147483647))) (gName 3))
      (tSeq (pSrc "mixed" (tVar 3)) (tRet (eMod (eInt (eDiv (tVar 3) (tC (.int 16)))) (tVar 1)))))))) D [some (.ref sa), some (.int m), none, none] H := by
  have at_ : ∀ {H' : Hp} {l' mi' t' : Int}, H' = upd H sa (.dK (srcD ca l' mi' t')) → 0 ≤ l' → 0 ≤ mi' → mi' < 2147483647 → 0 ≤ t' → SrcStep H0 H' sa ca := fun {H' l' mi' t'} e a b c d => by
    subst e
    refine ⟨⟨ne, ns, l', mi', t', upd_same, ?_, n0, a, b, c, d, len⟩, fun x h1 h2 => ?_⟩
    · rw [upd_ne ne.symm]; exact e2
    · rw [upd_ne h1]; exact same x h1 h2
  refine g_src (σ := [some (.ref sa), some (.int m), none, none]) rfl e1 val_left ?_
  have b1 : (if m > 1 then m else 1 : Int) > 0 := by split <;> omega
  have b2 : (if m > 1 then m else 1 : Int).natAbs.log2 < 9000 := by
    split
    · exact big
    · exact log2_small (by decide)
  have yes : (m < 2 ∨ 1 < l) → (tSeq (pSrc "left" (eDiv (tVar 2) eMany)) (tRet (eMod (eInt (tVar 2)) eMany))) D [some (.ref sa), some (.int m), some (.int l), none] H := fun _ => by
    refine ⟨.int l, rfl, e_many (σ := [some (.ref sa), some (.int m), some (.int l), none]) rfl ⟨l, _, rfl, rfl, ⟨b1, b2⟩, p_src (σ := [some (.ref sa), some (.int m), some (.int l), none]) rfl e1 put_left ?_⟩⟩
    refine ⟨.int l, rfl, .inl ⟨l, rfl, e_many (σ := [some (.ref sa), some (.int m), some (.int l), none]) rfl ⟨l, _, rfl, rfl, b1, ?_⟩⟩⟩
    refine want _ _ ⟨Int.emod_nonneg _ (by omega), fun h => ?_, fun h => ?_⟩ (at_ rfl (Int.ediv_nonneg l0 (by omega)) m0 m1 t0)
    · have := Int.emod_lt_of_pos l b1
      split at this <;> split <;> omega
    · have := Int.emod_lt_of_pos l b1
      have := Int.emod_nonneg l (b := if m > 1 then m else 1) (by omega)
      split at * <;> omega
  have no : ¬ m < 2 → (tSeq (pSrc "turn" (eAdd (gSrc "turn") (tC (.int 1))))
      (tSeq (tAsg (eMod (eInt (eAdd (gSrc "mixed") (eMul (gSrc "turn") (tC (.int 104729))))) (tC (.int 998244353))) (gName 3))
      (tSeq (tAsg (eMod (eInt (eAdd (eMul (tVar 3) (tVar 3)) (eMul (gSrc "turn") (tC (.int 17))))) (tC (.int 2147483647))) (gName 3))
      (tSeq (pSrc "mixed" (tVar 3)) (tRet (eMod (eInt (eDiv (tVar 3) (tC (.int 16)))) (tVar 1))))))) D [some (.ref sa), some (.int m), some (.int l), none] H := fun hm => by
    have e3 : upd H sa (.dK (srcD ca l mi (t + 1))) sa = some (.dK (srcD ca l mi (t + 1))) := upd_same
    have s2 : ∀ y, 0 ≤ y → y < 2147483647 → (tSeq (pSrc "mixed" (tVar 3)) (tRet (eMod (eInt (eDiv (tVar 3) (tC (.int 16)))) (tVar 1)))) D [some (.ref sa), some (.int m), some (.int l), some (.int y)] (upd H sa (.dK (srcD ca l mi (t + 1)))) := fun y y0 y1 => by
      refine ⟨.int y, rfl, p_src (σ := [some (.ref sa), some (.int m), some (.int l), some (.int y)]) rfl e3 put_mixed ?_⟩
      refine ⟨.int y, rfl, y, 16, rfl, rfl, ⟨by decide, by decide⟩, .inl ⟨_, rfl, .int m, rfl, y / 16, m, rfl, rfl, (by show 0 < m; omega), ?_⟩⟩
      refine want _ _ ⟨Int.emod_nonneg _ (by omega), fun h => Int.emod_lt_of_pos _ (by omega), fun h => by omega⟩ (at_ upd2 l0 y0 y1 (by omega))
    have s1 : ∀ x, 0 ≤ x → x < 998244353 → (tSeq (tAsg (eMod (eInt (eAdd (eMul (tVar 3) (tVar 3)) (eMul (gSrc "turn") (tC (.int 17))))) (tC (.int 2147483647))) (gName 3))
      (tSeq (pSrc "mixed" (tVar 3)) (tRet (eMod (eInt (eDiv (tVar 3) (tC (.int 16)))) (tVar 1))))) D [some (.ref sa), some (.int m), some (.int l), some (.int x)] (upd H sa (.dK (srcD ca l mi (t + 1)))) := fun x x0 x1 => by
      refine ⟨.int x, rfl, .int x, rfl, x, x, rfl, rfl, .inl ⟨by omega, by omega⟩, ?_⟩
      refine g_src (σ := [some (.ref sa), some (.int m), some (.int l), some (.int x)]) rfl e3 val_turn ⟨t + 1, 17, rfl, rfl, .inr ⟨by decide, by decide⟩, x * x, (t + 1) * 17, rfl, rfl, ?_⟩
      exact .inl ⟨_, rfl, x * x + (t + 1) * 17, 2147483647, rfl, rfl, (by show (0 : Int) < 2147483647; decide), s2 _ (Int.emod_nonneg _ (by decide)) (Int.emod_lt_of_pos _ (by decide))⟩
    refine g_src (σ := [some (.ref sa), some (.int m), some (.int l), none]) rfl e1 val_turn ⟨t, 1, rfl, rfl, p_src (σ := [some (.ref sa), some (.int m), some (.int l), none]) rfl e1 put_turn ?_⟩
    refine g_src (σ := [some (.ref sa), some (.int m), some (.int l), none]) rfl e3 val_mixed (g_src (σ := [some (.ref sa), some (.int m), some (.int l), none]) rfl e3 val_turn ⟨t + 1, 104729, rfl, rfl, .inr ⟨by decide, by decide⟩, mi, (t + 1) * 104729, rfl, rfl, ?_⟩)
    exact .inl ⟨_, rfl, mi + (t + 1) * 104729, 998244353, rfl, rfl, (by show (0 : Int) < 998244353; decide), s1 _ (Int.emod_nonneg _ (by decide)) (Int.emod_lt_of_pos _ (by decide))⟩
  refine ⟨.int m, rfl, m, 2, rfl, rfl, decide (m < 2), rfl, ?_⟩
  by_cases hm : m < 2
  · rw [decide_eq_true hm]
    exact yes (.inl hm)
  · rw [decide_eq_false hm]
    refine ⟨.int l, rfl, l, 1, rfl, rfl, decide (1 < l), rfl, ?_⟩
    by_cases hl : 1 < l
    · rw [decide_eq_true hl]
      exact yes (.inr hl)
    · rw [decide_eq_false hl]
      exact no hm
theorem pick_sem {D : Ends} (h : SrcAt H sa ca) (big : m.natAbs.log2 < 9000) (want : ∀ r H', RngP m r → SrcStep H H' sa ca → D.rt (.int r) H') :
    tPick K D [some (.ref sa), some (.int m), none, none] H := by
  refine while_by (fun σ G => σ = [some (.ref sa), some (.int m), none, none] ∧ SrcStep H G sa ca) (fun _ G => match G ca with
    | some (.lst xs) => xs.length
    | _ => 0) ⟨rfl, h, fun _ _ _ => rfl⟩ ?_ ?_
  · rintro σ G ⟨rfl, ⟨ne, ns, l, mi, t, e1, e2, n0, l0, m0, m1, t0, len⟩, same⟩
    replace e1 : G sa = some (.dK (srcD ca l mi t)) := e1
    have rest := pick_rest (D := D) ne e1 e2 n0 l0 m0 m1 t0 len same big want
    refine ⟨.int m, rfl, m, 1, rfl, rfl, decide (1 < m), rfl, ?_⟩
    by_cases hm : 1 < m
    · rw [decide_eq_true hm]
      refine g_src (σ := [some (.ref sa), some (.int m), none, none]) rfl e1 val_left ⟨l, 2, rfl, rfl, decide (l < 2), rfl, ?_⟩
      by_cases hl : l < 2
      · rw [decide_eq_true hl]
        refine g_src (σ := [some (.ref sa), some (.int m), none, none]) rfl e1 val_cells ⟨.ref ca, ns.length, rfl, .inl ⟨ns.map V.int, SqL.of e2, by simp⟩, _, _, rfl, rfl, decide (0 < ((ns.length : Nat) : Int)), rfl, ?_⟩
        by_cases hn : 0 < ((ns.length : Nat) : Int)
        · rw [decide_eq_true hn]
          have hn' : 0 < ns.length := by omega
          have last : (ns.map V.int)[(ns.map V.int).length - 1]? = some (.int (ns[ns.length - 1]'(by omega))) := by
            rw [List.length_map, List.getElem?_map, List.getElem?_eq_getElem (by omega)]; rfl
          have e4 : upd G ca (.lst (ns.map V.int).dropLast) sa = some (.dK (srcD ca l mi t)) := by rw [upd_ne ne]; exact e1
          refine g_src (σ := [some (.ref sa), some (.int m), none, none]) rfl e1 val_cells ⟨.inl ⟨rfl, _, SqL.of e2⟩, ca, _, _, rfl, rfl, e2, last, p_src (σ := [some (.ref sa), some (.int m), none, none]) rfl e4 put_left ?_⟩
          have e5 : (upd (upd G ca (.lst (ns.map V.int).dropLast)) sa (.dK (srcD ca (ns[ns.length - 1]'(by omega)) mi t))) ca = some (.lst (ns.dropLast.map V.int)) := by
            rw [upd_ne ne.symm, upd_same, List.map_dropLast]
          refine ⟨⟨rfl, ⟨ne, ns.dropLast, _, mi, t, upd_same, e5, fun n hn => n0 n ((List.dropLast_sublist ns).subset hn), n0 _ (List.getElem_mem _), m0, m1, t0, by simp; omega⟩, fun x h1 h2 => ?_⟩, ?_⟩
          · rw [upd_ne h1, upd_ne h2]; exact same x h1 h2
          · rw [e5, e2]
            show (ns.dropLast.map V.int).length < (ns.map V.int).length
            simp
            omega
        · rw [decide_eq_false hn]
          exact rest
      · rw [decide_eq_false hl]
        exact rest
    · rw [decide_eq_false hm]
      exact rest
  · rintro σ G Q Q' k ⟨v, e, i, j, p1, p2, c, p3, h⟩
    refine ⟨v, e, i, j, p1, p2, c, p3, ?_⟩
    cases c with
    | false => exact k _ _ h
    | true =>
      obtain ⟨x, e0, a, u, ex, dg, i', j', q1, q2, c', q3, h'⟩ := h
      refine ⟨x, e0, a, u, ex, dg, i', j', q1, q2, c', q3, ?_⟩
      cases c' with
      | false => exact k _ _ h'
      | true =>
        obtain ⟨y, f0, b, z, ey, dg2, o, n, r1, r2, r3, r4, r5, r6, c'', r7, h''⟩ := h'
        exact ⟨y, f0, b, z, ey, dg2, o, n, r1, r2, r3, r4, r5, r6, c'', r7, k _ _ h''⟩
end
/-- what a pick is worth -/
def cPickF : Fs := fun sl Q _ => ∃ m : Int, sl = [.src, .sh (.int m)] ∧ m.natAbs.log2 < 9000 ∧ ∀ r, RngP m r → Q false (.int r)
theorem pick_spec {K : PySem.W.Frag} {mg : Str → Option Value} {xs : List V} {H : Hp} {Q : VK} {E : XK} (h : SpOf K mg cPickF xs H Q E) : tPick K { nx := fun _ G => Q .non G, rt := Q } (L2.start ["source", "many", "left", "mixed"] xs) H := by
  obtain ⟨S, G, sl, Qp, Ep, sub, so, pr, ⟨m, rfl, big, hq⟩, rz, fin⟩ := h
  cases pr with
  | cons a1 pr =>
  cases pr with
  | cons a2 pr =>
  cases pr
  obtain ⟨sa, ca, eS, rfl⟩ := a1
  have e2 := R.int' a2
  subst e2
  obtain ⟨g1, g2, at_⟩ := so sa ca eS
  refine pick_sem at_ big fun r H' hr st => fin _ _ ⟨G, false, .int r, ?_, .int r, hq r hr⟩
  have keep : ∀ a o, a ≠ sa → a ≠ ca → H a = some o → H' a = some o := fun a o h1 h2 e => by rw [st.same a h1 h2]; exact e
  refine ⟨.refl G, fun a o e => ?_, fun a o e n => ?_, fun _ _ => rfl, fun sa' ca' z => ?_⟩
  · exact keep a o (fun z => by subst z; rw [g1] at e; cases e) (fun z => by subst z; rw [g2] at e; cases e) (sub a o e)
  · obtain ⟨h1, h2⟩ := n sa ca eS
    exact keep a o h1 h2 e
  · rw [eS] at z
    cases z
    exact ⟨g1, g2, st.at_⟩

/-! ### the making of the source -/
def rAbs : List V → Hp → VK → Prop := fun xs H Q => ∃ i, xs = [V.int i] ∧ Q (.int (if i < 0 then -i else i)) H
def tSource (K : PySem.W.Frag) : TS := tSeq (tAsg (tC (.int 11)) (gName 1))
  (tSeq (tFor (iList K (tVar 0)) (gName 2) (tAsg (eMod (eInt (eAdd (eAdd (eMul (tVar 1) (tC (.int 69069))) (eMul (tVar 2) (tC (.int 31)))) (tC (.int 5)))) (tC (.int 2147483629))) (gName 1)))
  (tRet (tDisp [(tC (.str "cells"), tRevA K (tLc (iList K (tVar 0)) (gName 2) tYes (tCB rAbs (tCons (tVar 2) tNil)) [3, 2])), (tC (.str "left"), tC (.int 1)), (tC (.str "mixed"), tVar 1), (tC (.str "turn"), tC (.int 0))])))
def absI (i : Int) : Int := if i < 0 then -i else i
theorem source_sem {K : PySem.W.Frag} {D : Ends} {H : Hp} {a : Addr} {ns : List Int} (hS : SqL K H a (ns.map V.int)) (len : ns.length ≤ 63)
    (want : ∀ sa ca H', SrcAt H' sa ca → (∀ b o, H b = some o → H' b = some o) → H sa = none → H ca = none → D.rt (.ref sa) H') : tSource K D [some (.ref a), none, none, none] H := by
  refine ⟨_, rfl, a, rfl, ⟨_, hS⟩, for_list (fun i σ G => G = H ∧ ∃ m c, σ = [some (.ref a), some (.int m), c, none] ∧ 0 ≤ m ∧ m < 2147483647) ⟨rfl, 11, none, rfl, by decide, by decide⟩ (fun i σ G _ h => by obtain ⟨rfl, _⟩ := h; exact hS) ?_ ?_⟩
  · rintro i x σ G hx ⟨rfl, m, c, rfl, m0, m1⟩
    have xi : ∃ n, x = .int n := by
      rw [List.getElem?_map, Option.map_eq_some_iff] at hx
      obtain ⟨n, _, e⟩ := hx
      exact ⟨n, e.symm⟩
    obtain ⟨n, rfl⟩ := xi
    refine ⟨.int m, rfl, m, 69069, rfl, rfl, .inr ⟨by decide, by decide⟩, .int n, rfl, n, 31, rfl, rfl, .inr ⟨by decide, by decide⟩, m * 69069, n * 31, rfl, rfl, m * 69069 + n * 31, 5, rfl, rfl, ?_⟩
    refine .inl ⟨_, rfl, m * 69069 + n * 31 + 5, 2147483629, rfl, rfl, (by show (0 : Int) < 2147483629; decide), rfl, _, some (.int n), rfl, Int.emod_nonneg _ (by decide), ?_⟩
    have := Int.emod_lt_of_pos (m * 69069 + n * 31 + 5) (b := 2147483629) (by decide)
    omega
  · rintro σ G ⟨rfl, m, c, rfl, m0, m1⟩
    intro p np
    have s1 : Sub G (upd G p (.dK [])) := .nw np
    refine ⟨_, rfl, a, rfl, ⟨_, s1.l hS⟩, fun D0 nD => ?_⟩
    have gD : G D0 = none := s1.gnone nD
    have pD : p ≠ D0 := fun z => by rw [z, upd_same] at nD; cases nD
    let L := fun i => ((ns.take i).map fun n => V.int (absI n))
    refine ⟨fun i k I => k + i = ns.length ∧ I = upd (upd G p (.dK [])) D0 (.lst (L i)), ⟨ns.length, rfl, rfl⟩, ?_⟩
    rintro i k I ⟨hk, rfl⟩
    have s2 : Sub G (upd (upd G p (.dK [])) D0 (.lst (L i))) := s1.trans (.nw nD)
    by_cases hi : i < ns.length
    · have ex : (ns.map V.int)[i]? = some (.int ns[i]) := by rw [List.getElem?_map, List.getElem?_eq_getElem hi]; rfl
      refine .inr ⟨⟨_, _, s2.l hS, ex⟩, fun J => J = upd (upd G p (.dK [])) D0 (.lst (L (i + 1))), fun J e => ⟨k - 1, by omega, by omega, e⟩, ?_⟩
      rintro x J ⟨rfl, hx⟩
      have e2 := hx _ (s2.l hS)
      rw [ex] at e2
      cases e2
      refine ⟨rfl, ?_⟩
      refine ⟨.int ns[i], rfl, ns[i], rfl, L i, upd_same, ?_, ?_⟩
      · have : (L i).length ≤ 63 := by simp [L]; omega
        rw [sizeLine_eq]
        omega
      · have e5 : L (i + 1) = L i ++ [V.int (if ns[i] < 0 then -ns[i] else ns[i])] := by
          show (ns.take (i + 1)).map _ = _
          rw [List.take_succ, List.getElem?_eq_getElem hi, List.map_append]
          rfl
        rw [upd2, e5]
    · refine .inl ⟨⟨_, s2.l hS, by simp; omega⟩, D0, L i, rfl, .inl ⟨SqL.of upd_same, fun q nq => ?_⟩⟩
      have gq : G q = none := s2.gnone nq
      have qD : q ≠ D0 := fun z => by rw [z, upd_same] at nq; cases nq
      have qp : q ≠ p := fun z => by rw [z, upd_ne pD, upd_same] at nq; cases nq
      refine ⟨.int m, rfl, ?_, srcD q 1 m 0, rfl, (by show 4 ≤ 15; decide), want p q _ ⟨qp.symm, (ns.map absI).reverse, 1, m, 0, ?_, ?_, ?_, by decide, m0, m1, by decide, by simpa using len⟩ (fun b o e => ?_) np gq⟩
      · rw [upd_ne qp.symm, upd_ne pD, upd_same]
      · rw [upd_same]; rfl
      · have e6 : ns.take i = ns := List.take_of_length_le (by omega)
        rw [upd_ne qp, upd_same]
        show some (HO.lst (((ns.take i).map fun n => V.int (absI n)).reverse)) = _
        rw [e6, List.map_reverse, List.map_map]
        rfl
      · intro n hn
        rw [List.mem_reverse, List.mem_map] at hn
        obtain ⟨z, _, rfl⟩ := hn
        unfold absI
        split <;> omega
      · have b1 : b ≠ p := fun z => by subst z; rw [np] at e; cases e
        have b2 : b ≠ q := fun z => by subst z; rw [gq] at e; cases e
        have b3 : b ≠ D0 := fun z => by subst z; rw [gD] at e; cases e
        rw [upd_ne b1, upd_ne b2, upd_ne b3, upd_ne b1]
        exact e
end DL
set_option Elab.async false
set_option linter.all false
set_option maxRecDepth 100000
set_option maxHeartbeats 4000000
/-! Dl: a law by its reading: it makes its source, the rest is read. -/
namespace DL
open PySem PySem.Spec PyProof.Rows L2
def spSource (K : PySem.W.Frag) : Sp := fun vs H Q _ => ∃ (a : Addr) (ns : List Int), vs = [.ref a] ∧ SqL K H a (ns.map V.int) ∧ ns.length ≤ 63 ∧
  ∀ sa ca H', SrcAt H' sa ca → (∀ b o, H b = some o → H' b = some o) → H sa = none → H ca = none → Q (.ref sa) H'
def spLaw (K : PySem.W.Frag) : Sp := fun vs H Q _ => ∃ (a : Addr) (ns : List Int), vs = [.ref a] ∧ SqL K H a (ns.map V.int) ∧ ns.length ≤ 63 ∧ ∀ H', Q (.bl true) H'
def lawKp : Kp := { nx := fun _ => False, rt := fun _ d => d = .bool true, ex := fun _ => False }
theorem law_g {P : Program} {w : World} {K : PySem.W.Frag} {mg : Str → Option Value} {base : Heap} {x qual : Str} {params : Arguments} {rest : List Stmt} {scope : Scope} {f fs : Addr} {fd fds : FuncData} {N : List Str} {ft : List (Str × Nat)} {gl : List (Str × PyData)} {lv n i : Nat} {C : Nat → Fs} {b : Sms}
    {y g px : Str} {p1 p2 p3 p4 p5 : Pos} {ps' : List Str}
    (F : FunD K x qual params (.Assign [.Name y p1] (.Call (.Name g p2) [.Name px p3] [] p4) p5 :: rest) scope [] [] f fd) (Sc : FnScope N [px] scope)
    (hy : locK (Tc.kind ⟨N, scope, ft, gl⟩ y) = true) (hi : nix N y = some i) (hi0 : i ≠ 0) (hx : trV ⟨N, scope, ft, gl⟩ px = some 0) (hg : glK (Tc.kind ⟨N, scope, ft, gl⟩ g) = true) (hdb : (g == ("__debug__" : Str)) = false)
    (ms : mg g = some (.ref fs)) (ks : PySem.W.keepIn K (.ref fs) = true) (bs : L2.Binds K fds ps' []) (os : FnG P w K mg base lv fs fds ps' (spSource K))
    (tr : mapS (trS n ⟨N, scope, ft, gl⟩) rest = some b)
    (fns : ∀ (j : Nat) (y : Str), (y, j) ∈ ft → ∃ g gd qs, mg y = some (.ref g) ∧ PySem.W.keepIn K (.ref g) = true ∧ L2.Binds K gd qs [] ∧ FnG P w K mg base lv g gd qs (SpOf K mg (C j)))
    (srt : ∀ j, j < 10000 → C (10000 + j) = SortP (C j)) (bi : ∀ y ∈ blts, mg y = none) (sy : SysD base) (gls : ∀ x d, gl.lookup x = some d → GlV mg x d)
    (rd : b.rd C ((List.replicate N.length Sl.un).set i .src) lawKp) : FnG P w K mg base (lv + 1) f fd [px] (spLaw K) := by
  refine fn_g F Sc (fun ws H Q E h => by obtain ⟨a, ns, rfl, _⟩ := h; rfl) (fun cdv A outer s H ws Q E hr hcl h => ?_)
  obtain ⟨a, ns, rfl, hS, len, want⟩ := h
  have ck : CokS (cxOf (L2.CX P w) P w K mg base N qual scope f cdv A outer s H E) ⟨N, scope, ft, gl⟩ C E lv := by
    refine ⟨⟨rfl, Sc.nd, Sc.kind, fun _ _ h _ => h, fun y h => ?_, fun _ _ => rfl, rfl, room_of2 hr, hr, srt, hcl, passes_call (takes_of rfl rfl rfl rfl) (fun _ _ _ _ h => h), fun j y hj => fns j y hj, bi, sy, gls⟩, rfl, passes_of rfl⟩
    exact .inl h
  have k := ck.toCok
  obtain ⟨l1, l2⟩ := loc_of k hy
  have hN : (cxOf (L2.CX P w) P w K mg base N qual scope f cdv A outer s H E).N[i]? = some y := nix_get hi
  have first := ps_asg (pos := p5) (pe_callG (E := E) (p := p2) (pos := p4) os (room_of2 hr) hcl (gl_of k hg) ms ks bs k.pass (pa_cons (trV_ok k hx (pos := p3)).1 pa_nil (by rfl)) hdb (by rfl) (by rfl)) (pg_name Sc.nd hN l1 l2) (swsole (t := .Name y p1) (by rfl)) (sst_name (y := y) (p := p1))
  refine ⟨_, pss_cons first (mapS_ok (fun s x h => snd_S n ck h) tr), ?_⟩
  have el : (L2.start N [V.ref a]).length = N.length := by
    have l := congrArg List.length Sc.pre
    simp only [List.length_take, List.length_cons, List.length_nil] at l
    unfold L2.start
    simp
    omega
  refine ⟨.ref a, rfl, ?_⟩
  refine ⟨a, ns, rfl, hS, len, fun sa ca H' at_ keep na nc => ?_⟩
  have il : i < N.length := (List.getElem?_eq_some_iff.mp hN).1
  have none_ : ∀ (b : Addr) (o : HO), (fun _ => none : Hp) b = some o → False := fun b o e => nomatch e
  have so : SrcOk (some (sa, ca)) (fun _ => none) H' := fun sa' ca' e => by cases e; exact ⟨rfl, rfl, at_⟩
  refine ⟨some (sa, ca), fun _ => none, H', fun _ => none, fun _ => none, _, lawKp, ⟨.refl (fun b o e => nomatch e) so, so, fun j l e => ?_, fun j j' d d' v _ e _ _ _ => ?_, ?_⟩, .refl _, ⟨fun _ _ _ _ _ _ z => z.elim, fun _ _ _ _ _ _ z => z.elim, fun _ _ _ _ _ _ z => z.elim, fun v G p => ?_, fun _ _ _ _ _ z => z.elim⟩, rd⟩
  · by_cases hj : j = i
    · subst hj
      rw [List.getElem?_set_self (by simpa using il)] at e
      cases e
      exact ⟨sa, ca, rfl, by rw [List.getElem?_set_self (by omega)]⟩
    · rw [List.getElem?_set_ne (Ne.symm hj), List.getElem?_replicate] at e
      split at e
      · cases e; trivial
      · cases e
  · by_cases hj : j = i
    · subst hj
      rw [List.getElem?_set_self (by simpa using il)] at e
      cases e
    · rw [List.getElem?_set_ne (Ne.symm hj), List.getElem?_replicate] at e
      split at e <;> cases e
  · rw [List.length_set, el, List.length_set, List.length_replicate]
  · obtain ⟨G1, fr, d, x1, r1, q⟩ := p
    have q : d = .bool true := q
    subst q
    cases fr with
    | false =>
      simp only [RF, Bool.false_eq_true, if_false] at r1
      have e := R.bl' r1
      subst e
      exact want _
    | true =>
      simp only [RF, if_true] at r1
      exact r1.1.elim
end DL
set_option Elab.async false
set_option linter.all false
set_option maxRecDepth 100000
set_option maxHeartbeats 4000000
/-! Df: the defs of a module, one behind another. -/
namespace DL
open PySem PySem.Spec PyProof.Rows L2
/-- a def as the head's facts tell it -/
structure DefAt (K : PySem.W.Frag) (mg : Str → Option Value) (d : He.DefD) (f : Addr) (fd : FuncData) : Prop where
  mg_ : mg d.name = some (.ref f)
  fun_ : FunD K d.name d.qual d.params d.body d.scope [] [] f fd
/-- all names of ft are defs, and what each is worth at this level -/
def Good (P : Program) (w : World) (K : PySem.W.Frag) (mg : Str → Option Value) (B : Heap) (ft : List (Str × Nat)) (lv : Nat) (C : Nat → Fs) : Prop :=
  ∀ (j : Nat) (y : Str), (y, j) ∈ ft → j < 10000 ∧ ∃ g gd qs, mg y = some (.ref g) ∧ PySem.W.keepIn K (.ref g) = true ∧ L2.Binds K gd qs [] ∧ FnG P w K mg B lv g gd qs (SpOf K mg (C j))
/-- .. and what sorted by a def as key is worth, at the number ten thousand on -/
def sortC (C : Nat → Fs) : Nat → Fs := fun j => if j < 10000 then C j else SortP (C (j - 10000))
theorem sortC_lt {C : Nat → Fs} {j : Nat} (h : j < 10000) : sortC C j = C j := if_pos h
theorem sortC_srt {C : Nat → Fs} : ∀ j, j < 10000 → sortC C (10000 + j) = SortP (sortC C j) := fun j h => by
  rw [sortC_lt h]
  unfold sortC
  rw [if_neg (by omega), Nat.add_sub_cancel_left]
def upC (C : Nat → Fs) (j : Nat) (c : Fs) : Nat → Fs := fun i => if i = j then c else C i
def C0 : Nat → Fs := fun _ _ _ _ => False
theorem upC_same {C : Nat → Fs} {j : Nat} {c : Fs} : upC C j c j = c := if_pos rfl
theorem upC_ne {C : Nat → Fs} {i j : Nat} {c : Fs} (h : i ≠ j) : upC C j c i = C i := if_neg h
section
variable {P : Program} {w : World} {K : PySem.W.Frag} {mg : Str → Option Value} {B : Heap} {ft : List (Str × Nat)} {lv : Nat} {C : Nat → Fs}
theorem FnG.no {g : Addr} {gd : FuncData} {qs : List Str} {c : Fs} (h : ∀ sl Q Ep, ¬ c sl Q Ep) : FnG P w K mg B lv g gd qs (SpOf K mg c) :=
  ⟨fun xs H Q E ⟨_, _, sl, Qp, Ep, _, _, _, z, _⟩ => (h _ _ _ z).elim, fun A fr t H ar ys xs Q E _ _ _ _ _ ⟨_, _, sl, Qp, Ep, _, _, _, z, _⟩ => (h _ _ _ z).elim⟩
theorem Good.start (h : ∀ (j : Nat) (y : Str), (y, j) ∈ ft → j < 10000 ∧ ∃ g gd qs, mg y = some (.ref g) ∧ PySem.W.keepIn K (.ref g) = true ∧ L2.Binds K gd qs []) : Good P w K mg B ft 0 C0 := fun j y hj => by
  obtain ⟨lt, g, gd, qs, h1, h2, h3⟩ := h j y hj
  exact ⟨lt, g, gd, qs, h1, h2, h3, .no fun _ _ _ z => z⟩
theorem Good.fns (G : Good P w K mg B ft lv C) : ∀ (j : Nat) (y : Str), (y, j) ∈ ft → ∃ g gd qs, mg y = some (.ref g) ∧ PySem.W.keepIn K (.ref g) = true ∧ L2.Binds K gd qs [] ∧ FnG P w K mg B lv g gd qs (SpOf K mg (sortC C j)) := fun j y hj => by
  obtain ⟨lt, r⟩ := G j y hj
  rw [sortC_lt lt]
  exact r
theorem Good.step (G : Good P w K mg B ft lv C) {j : Nat} {y : Str} {c : Fs} {f : Addr} {fd : FuncData} {ps : List Str} (hj : ∀ z, (z, j) ∈ ft → z = y) (m : mg y = some (.ref f)) (kp : PySem.W.keepIn K (.ref f) = true) (b : L2.Binds K fd ps [])
    (F : FnG P w K mg B (lv + 1) f fd ps (SpOf K mg c)) : Good P w K mg B ft (lv + 1) (upC C j c) := fun i z hi => by
  by_cases e : i = j
  · subst e
    have := hj z hi
    subst this
    rw [upC_same]
    exact ⟨(G i z hi).1, f, fd, ps, m, kp, b, F⟩
  · rw [upC_ne e]
    obtain ⟨lt, g, gd, qs, h1, h2, h3, h4⟩ := G i z hi
    exact ⟨lt, g, gd, qs, h1, h2, h3, h4.mono (Nat.le_succ _)⟩
/-- a def of the module by its reading -/
theorem Good.def_ (G : Good P w K mg B ft lv C) {j n : Nat} {d : He.DefD} {c : Fs} {f : Addr} {fd : FuncData} {N ps : List Str} {gl : List (Str × PyData)} {b : Sms} (D : DefAt K mg d f fd) (hj : ∀ z, (z, j) ∈ ft → z = d.name) (Sc : FnScope N ps d.scope)
    (hb : L2.Binds K fd ps []) (tr : mapS (trS n ⟨N, d.scope, ft, gl⟩) d.body = some b)
    (bi : ∀ y ∈ blts, mg y = none) (sy : SysD B) (gls : ∀ x v, gl.lookup x = some v → GlV mg x v) (ar : ∀ sl Q Ep, c sl Q Ep → sl.length = ps.length)
    (rd : ∀ sl Q Ep, c sl Q Ep → b.rd (sortC C) (envOf N sl) { nx := fun _ => Q false .none, rt := Q, ex := Ep }) : Good P w K mg B ft (lv + 1) (upC C j c) :=
  G.step hj D.mg_ D.fun_.kp hb (def_ok D.fun_ Sc tr G.fns sortC_srt bi sy gls ar rd)
end

/-! ### the head's facts with the table of modules -/
def sysB (g : Addr → Option Obj) : Bool := match g sysModules with
  | some o => decide (o.cls = .type "dict") && (match o.data with | .dict _ _ => true | _ => false)
  | none => false
theorem sysB_ok {h : Heap} (e : sysB h.get? = true) : SysD h := by
  unfold sysB at e
  split at e
  · rename_i o ho
    rw [Bool.and_eq_true] at e
    obtain ⟨e1, e2⟩ := e
    split at e2
    · rename_i es ep hd
      exact ⟨o, es, ep, ho, of_decide_eq_true e1, hd⟩
    · cases e2
  · cases e
def hookS (n : Nat) (fa : List He.Fa) (fn : List He.DefD) : PySem.W.Hook where
  α := He.AlD × Bool
  obs := fun s => (He.obsDG n fa fn s.heap.get?, sysB s.heap.get?)
  val := fun _ => (He.valD fn, true)
  says := fun _ h => (∃ K : PySem.W.Frag, K.In h ∧ He.SaysD fa fn K) ∧ SysD h
  of := fun _ _ e => ⟨⟨_, He.frG_in, congrArg Prod.fst e⟩, sysB_ok (congrArg Prod.snd e)⟩
  keeps := fun _ _ _ ⟨⟨K, hK, c⟩, o, es, ep, q, q2, q3⟩ k => ⟨⟨K, PySem.W.Frag.In.keeps hK k, c⟩, o, es, ep, k _ _ q, q2, q3⟩
def obS (n : Nat) (fa : List He.Fa) (fn : List He.DefD) (s : PySem.W.SharedT) : He.AlD × Bool := (He.obsDG n fa fn (HandSHeadRun.getT s), sysB (HandSHeadRun.getT s))
theorem obS_eq (n : Nat) (fa : List He.Fa) (fn : List He.DefD) (s : PySem.W.SharedT) : obS n fa fn s = (hookS n fa fn).obs s.abs := by
  have e : HandSHeadRun.getT s = s.abs.heap.get? := funext (HandSHeadRun.getT_eq s)
  unfold obS
  rw [e]
  rfl
theorem gls_of {mg : Str → Option Value} {gl : List (Str × PyData)} (h : ∀ p ∈ gl, GlV mg p.1 p.2) : ∀ x d, gl.lookup x = some d → GlV mg x d := fun x d e => by
  induction gl with
  | nil => cases e
  | cons p r ih =>
    obtain ⟨a, b⟩ := p
    rw [List.lookup_cons] at e
    split at e
    · rename_i q
      cases e
      have : x = a := by simpa using q
      subst this
      exact h _ (List.mem_cons_self ..)
    · exact ih (fun p hp => h p (List.mem_cons_of_mem _ hp)) e
theorem bi_of {K : PySem.W.Frag} {h : Heap} {mg : Str → Option Value} {fa : List He.Fa} {fn : List He.DefD} (X : K.In h) (G : h.Ns mainGlobals mg) (c : He.SaysD fa fn K) (m : ∀ y ∈ blts, He.Fa.free y ∈ fa) : ∀ y ∈ blts, mg y = none := fun y hy => by
  obtain ⟨i, hi⟩ := List.getElem?_of_mem (m y hy)
  exact He.free_ok X G (c.fact i hi)
end DL
set_option Elab.async false
set_option linter.all false
set_option maxRecDepth 100000
set_option maxHeartbeats 4000000
/-! Dq: reading: loops by invariants. -/
namespace DL
open PySem PySem.Spec PyProof.Rows L2
theorem foldS_inv {step : PyData → Env → (Env → Prop) → Prop} {Q : Env → Prop} : ∀ {xs : List PyData} {env : Env} (I : Nat → Env → Prop), I 0 env →
    (∀ i x e K, xs[i]? = some x → I i e → (∀ e', I (i + 1) e' → K e') → step x e K) → (∀ e, I xs.length e → Q e) → foldS step xs env Q
  | [], env, I, h0, hs, hd => hd _ h0
  | x :: xs, env, I, h0, hs, hd => hs 0 x env _ rfl h0 fun e' h' => foldS_inv (xs := xs) (fun i => I (i + 1)) h' (fun i y e K hy hi k => hs (i + 1) y e K (by simpa using hy) hi k) fun e he => hd e he
theorem foldC_inv {step : PyData → List PyData → (List PyData → Prop) → Prop} {Q : List PyData → Prop} : ∀ {xs acc : List PyData} (I : Nat → List PyData → Prop), I 0 acc →
    (∀ i x e K, xs[i]? = some x → I i e → (∀ e', I (i + 1) e' → K e') → step x e K) → (∀ e, I xs.length e → Q e) → foldC step xs acc Q
  | [], acc, I, h0, hs, hd => hd _ h0
  | x :: xs, acc, I, h0, hs, hd => hs 0 x acc _ rfl h0 fun e' h' => foldC_inv (xs := xs) (fun i => I (i + 1)) h' (fun i y e K hy hi k => hs (i + 1) y e K (by simpa using hy) hi k) fun e he => hd e he
/-- a comprehension that maps -/
theorem foldC_map {step : PyData → List PyData → (List PyData → Prop) → Prop} {Q : List PyData → Prop} {f : PyData → PyData} : ∀ {xs acc : List PyData}, (∀ x acc K, x ∈ xs → K (acc ++ [f x]) → step x acc K) → Q (acc ++ xs.map f) → foldC step xs acc Q
  | [], acc, hs, hq => by
    show Q acc
    simpa using hq
  | x :: xs, acc, hs, hq => hs x acc _ (List.mem_cons_self ..) (foldC_map (fun y a K hy k => hs y a K (List.mem_cons_of_mem _ hy) k) (by simpa using hq))
theorem foldS_ints {step : PyData → Env → (Env → Prop) → Prop} {Q : Env → Prop} {a : Int} {n : Nat} {env : Env} (I : Nat → Env → Prop) (h0 : I 0 env)
    (hs : ∀ (i : Nat) e K, i < n → I i e → (∀ e', I (i + 1) e' → K e') → step (.int (a + (i : Nat))) e K) (hd : ∀ e, I n e → Q e) : foldS step (intsD a n) env Q :=
  foldS_inv I h0 (fun i x e K hx hi k => by
    obtain ⟨h1, rfl⟩ := intsD_get hx
    exact hs i e K h1 hi k) fun e he => hd e (by rw [intsD_length] at he; exact he)
theorem foldC_ints {step : PyData → List PyData → (List PyData → Prop) → Prop} {Q : List PyData → Prop} {a : Int} {n : Nat} {f : Nat → PyData} {acc : List PyData} (hs : ∀ (i : Nat) acc K, i < n → K (acc ++ [f i]) → step (.int (a + (i : Nat))) acc K)
    (hq : Q (acc ++ (List.range n).map f)) : foldC step (intsD a n) acc Q :=
  foldC_inv (fun i e => e = acc ++ (List.range i).map f) (by simp) (fun i x e K hx hi k => by
    obtain ⟨h1, rfl⟩ := intsD_get hx
    subst hi
    exact hs i _ K h1 (k _ (by rw [List.range_succ, List.map_append, List.append_assoc]; rfl))) fun e he => by
      rw [intsD_length] at he
      rw [he]
      exact hq
/-- no slot is owned -/
def noOw : Env → Bool
  | [] => true
  | .ow _ :: _ => false
  | _ :: r => noOw r
theorem frz_no {vs : List Nat} {env : Env} (h : noOw env = true) : frz vs env = env := by
  unfold frz
  have key : ∀ (e : Env), noOw e = true → ∀ s ∈ e, ∀ d, s ≠ .ow d := fun e => by
    induction e with
    | nil => intro _ s hs; cases hs
    | cons a r ih =>
      intro h s hs d z
      subst z
      rcases List.mem_cons.mp hs with q | q
      · subst q; cases h
      · cases a with
        | ow _ => cases h
        | un => exact ih h _ q d rfl
        | sh _ => exact ih h _ q d rfl
        | src => exact ih h _ q d rfl
  apply List.ext_getElem
  · simp
  · intro i h1 h2
    rw [List.getElem_mapIdx]
    have q := key env h env[i] (List.getElem_mem _)
    unfold frz1
    split
    · rename_i d e; exact absurd e (q d)
    · rfl
theorem aft_no {vs : List Nat} {fr : Bool} {d : PyData} {env : Env} (h : noOw env = true) : aft vs fr d env = env := by
  unfold aft
  split
  · rfl
  · exact frz_no h
/-- a while loop by what falls -/
theorem loop_meas {step : Env → (Env → Prop) → (Env → Prop) → Prop} {env : Env} {Q : Env → Prop} (I : Env → Prop) (μ : Env → Nat) (h0 : I env) (hs : ∀ e K, I e → (∀ e', I e' → μ e' < μ e → K e') → step e K Q) : ∃ n, loopS step n env Q := by
  have key : ∀ (n : Nat) (e : Env), I e → μ e < n → loopS step n e Q := fun n => by
    induction n with
    | zero => intro e _ h; omega
    | succ n ih => exact fun e he hm => hs e _ he fun e' he' hl => ih e' he' (by omega)
  exact ⟨μ env + 1, key _ _ h0 (Nat.lt_succ_self _)⟩
/-- a while loop that is gone through m times -/
theorem loop_count {step : Env → (Env → Prop) → (Env → Prop) → Prop} {Q : Env → Prop} (m : Nat) : ∀ {env : Env} (I : Nat → Env → Prop), I 0 env → (∀ i e K, i < m → I i e → (∀ e', I (i + 1) e' → K e') → step e K Q) → (∀ e K, I m e → step e K Q) → ∃ n, loopS step n env Q := by
  intro env I h0 hs hd
  refine ⟨m + 1, ?_⟩
  have key : ∀ (k i : Nat) (e : Env), i + k = m → I i e → loopS step (k + 1) e Q := fun k => by
    induction k with
    | zero => intro i e hi he; have : i = m := by omega
              subst this; exact hd e _ he
    | succ k ih => exact fun i e hi he => hs i e _ (by omega) he fun e' he' => ih (i + 1) e' (by omega) he'
  exact key m 0 env (by omega) h0
end DL
set_option Elab.async false
set_option linter.all false
set_option maxRecDepth 100000
set_option maxHeartbeats 4000000
/-! Dn: ints from nought on. -/
namespace DL
open PySem PySem.Spec PyProof.Rows L2
theorem bxorN (a b : Nat) : Builtin.bitXor (a : Int) (b : Int) = ((a ^^^ b : Nat) : Int) := by rw [Bits.bitXor_pp (Int.natCast_nonneg a) (Int.natCast_nonneg b), Int.toNat_natCast, Int.toNat_natCast]
theorem bandN (a b : Nat) : Builtin.bitAnd (a : Int) (b : Int) = ((a &&& b : Nat) : Int) := PySem.W.os_band a b
theorem shrN (y i : Nat) : (y : Int) / 2 ^ i = ((y >>> i : Nat) : Int) := by rw [Nat.shiftRight_eq_div_pow]; norm_cast
theorem shlN (x i : Nat) : (x : Int) * 2 ^ i = ((x <<< i : Nat) : Int) := by rw [Nat.shiftLeft_eq]; norm_cast
/-- how many bits -/
def bl (p : Nat) : Nat := if p = 0 then 0 else p.log2 + 1
theorem intBits_nat (p : Nat) : Builtin.Int.intBits (p : Int) = bl p := by
  unfold Builtin.Int.intBits bl
  by_cases h : p = 0
  · subst h; rfl
  · rw [if_neg h, if_neg (by simp; omega)]; rfl
theorem bl_le {p k : Nat} : bl p ≤ k ↔ p < 2 ^ k := by
  unfold bl
  split
  · rename_i h; subst h; simp [Nat.two_pow_pos]
  · rename_i h
    rw [← Nat.log2_lt h]
    omega
theorem lt_bl {p : Nat} : p < 2 ^ bl p := bl_le.mp (Nat.le_refl _)
theorem bl_zero : bl 0 = 0 := rfl
theorem bl_pos {p : Nat} (h : p ≠ 0) : 0 < bl p := by unfold bl; rw [if_neg h]; omega
theorem log_of_bl {p k : Nat} (h : bl p ≤ k + 1) : p.log2 ≤ k := by
  unfold bl at h
  split at h
  · rename_i z; subst z; simp
  · omega
end DL
set_option Elab.async false
set_option linter.all false
set_option maxRecDepth 100000
set_option maxHeartbeats 4000000
/-! E0: the small trees evaluated, no picks: values, exceptions, or nothing known. -/
namespace DL
open PySem PySem.Spec PyProof.Rows L2

/-- what is known of a pick's size -/
def smP (m : Int) : Prop := m.natAbs.log2 < 9000
inductive Ev (α : Type) where
  | ok (a : α) | ex (s : Str) | bad | pk (m : Int) (k : Int → Ev α)
namespace Ev
variable {α β : Type}
def bind : Ev α → (α → Ev β) → Ev β
  | .ok a, f => f a
  | .ex s, _ => .ex s
  | .bad, _ => .bad
  | .pk m k, f => .pk m fun r => (k r).bind f
/-- what is wanted of it -/
def wp : Ev α → (α → Prop) → (Str → Prop) → Prop
  | .ok a, Q, _ => Q a
  | .ex s, _, E => E s
  | .bad, _, _ => False
  | .pk m k, Q, E => smP m ∧ ∀ r, RngP m r → (k r).wp Q E
@[simp] theorem ok_bind (a : α) (f : α → Ev β) : (Ev.ok a).bind f = f a := (rfl)
@[simp] theorem ex_bind (s : Str) (f : α → Ev β) : (Ev.ex s : Ev α).bind f = .ex s := (rfl)
@[simp] theorem bad_bind (f : α → Ev β) : (Ev.bad : Ev α).bind f = .bad := (rfl)
@[simp] theorem pk_bind (m : Int) (k : Int → Ev α) (f : α → Ev β) : (Ev.pk m k).bind f = .pk m fun r => (k r).bind f := (rfl)
theorem wp_bind {r : Ev α} {f : α → Ev β} {Q : β → Prop} {E : Str → Prop} (h : (r.bind f).wp Q E) : r.wp (fun a => (f a).wp Q E) E := by
  induction r with
  | pk m k ih => exact ⟨h.1, fun r hr => ih r (h.2 r hr)⟩
  | _ => exact h
theorem wp.imp {r : Ev α} {Q Q' : α → Prop} {E : Str → Prop} (h : r.wp Q E) (k : ∀ a, Q a → Q' a) : r.wp Q' E := by
  induction r with
  | ok a => exact k a h
  | ex s => exact h
  | bad => exact h
  | pk m k ih => exact ⟨h.1, fun r hr => ih r (h.2 r hr)⟩
theorem wp.imp2 {r : Ev α} {Q Q' : α → Prop} {E E' : Str → Prop} (h : r.wp Q E) (k : ∀ a, Q a → Q' a) (l : ∀ s, E s → E' s) : r.wp Q' E' := by
  induction r with
  | ok a => exact k a h
  | ex s => exact l s h
  | bad => exact h
  | pk m k ih => exact ⟨h.1, fun r hr => ih r (h.2 r hr)⟩
/-- what is known of a computation is used where it stands -/
theorem use {r : Ev α} {P : α → Prop} {Φ : Ev α → Prop} (h : r.wp P fun _ => False) (lin : ∀ m k, smP m → (∀ r, RngP m r → Φ (k r)) → Φ (.pk m k)) (f : ∀ a, P a → Φ (.ok a)) : Φ r := by
  induction r with
  | ok a => exact f a h
  | ex s => exact h.elim
  | bad => exact h.elim
  | pk m k ih => exact lin m k h.1 fun r hr => ih r (h.2 r hr)
end Ev
/-- if the test holds -/
def gd (c : Bool) (r : Ev α) : Ev α := match c with
  | true => r
  | false => .bad
@[simp] theorem gd_true (r : Ev α) : gd true r = r := (rfl)
@[simp] theorem gd_false (r : Ev α) : gd false r = .bad := (rfl)
theorem gd_wp {c : Bool} {r : Ev α} {Q : α → Prop} {E : Str → Prop} (h : (gd c r).wp Q E) : c = true ∧ r.wp Q E := by
  cases c with
  | true => exact ⟨rfl, h⟩
  | false => exact h.elim
abbrev Val := Bool × PyData
abbrev FV := List Sl → Ev Val
abbrev okv (d : PyData) : Ev Val := .ok (false, d)
abbrev okn (d : PyData) : Ev Val := .ok (true, d)
def leN (a b : Nat) : Bool := decide (a ≤ b)
def mulOk (i j : Int) : Bool := decide (i.natAbs.log2 + j.natAbs.log2 < 1000000)
def shlOk (i j : Int) : Bool := decide (0 ≤ j) && decide ((Builtin.Int.intBits i : Int) + j ≤ 2 ^ 27)
def divOk (j : Int) : Bool := decide (0 < j) && decide (j.natAbs.log2 < 9000)
def powOk (i j : Int) : Bool := decide (0 ≤ j) && (decide (j ≤ 1000000) && decide (i.natAbs < 2 ^ 64))
def BinV : Bop → PyData → PyData → Ev Val
  | .add, .int i, .int j => okv (.int (i + j))
  | .add, .str x, .str y => gd (leN (x.length + y.length) lim) (okv (.str (x ++ y)))
  | .add, .list x, .list y => gd (leN (x.length + y.length) lim) (okn (.list (x ++ y)))
  | .add, .tuple x, .tuple y => gd (leN (x.length + y.length) lim) (okv (.tuple (x ++ y)))
  | .sub, .int i, .int j => okv (.int (i - j))
  | .mul, .int i, .int j => gd (mulOk i j) (okv (.int (i * j)))
  | .mul, .tuple x, .int k => gd (!x.isEmpty && (decide (0 ≤ k) && (decide (k ≤ 1000) && leN x.length 1000))) (okv (.tuple (List.replicate k.toNat x).flatten))
  | .mul, .list x, .int k => gd (decide (-(2 ^ 62) ≤ k) && (decide (k ≤ 2 ^ 62) && leN (x.length * k.toNat) lim)) (okn (.list (List.replicate k.toNat x).flatten))
  | .fdiv, .int i, .int j => gd (divOk j) (okv (.int (i / j)))
  | .mod, .int i, .int j => gd (decide (0 < j)) (okv (.int (i % j)))
  | .pow, .int i, .int j => gd (powOk i j) (okv (.int (i ^ j.toNat)))
  | .shl, .int i, .int j => gd (shlOk i j) (okv (.int (i * 2 ^ j.toNat)))
  | .shr, .int i, .int j => gd (decide (0 ≤ j)) (okv (.int (i / 2 ^ j.toNat)))
  | .band, .int i, .int j => okv (.int (Builtin.bitAnd i j))
  | .bor, .int i, .int j => okv (.int (Builtin.bitOr i j))
  | .bxor, .int i, .int j => okv (.int (Builtin.bitXor i j))
  | _, _, _ => .bad
theorem leN_iff {a b : Nat} : leN a b = true ↔ a ≤ b := by unfold leN; simp
theorem mulOk_ok {i j : Int} (c : mulOk i j = true) : CMulW i j ∨ CMul i j := by
  unfold mulOk at c
  exact .inl (by simpa [CMulW] using c)
theorem divOk_ok {i j : Int} (c : divOk j = true) : CDivW i j := by
  unfold divOk at c
  simp only [Bool.and_eq_true, decide_eq_true_eq] at c
  exact c
theorem shlOk_ok {i j : Int} (c : shlOk i j = true) : CShl i j := by
  unfold shlOk at c
  simp only [Bool.and_eq_true, decide_eq_true_eq] at c
  exact c
theorem powOk_ok {i j : Int} (c : powOk i j = true) : CPow i j := by
  unfold powOk at c
  simp only [Bool.and_eq_true, decide_eq_true_eq] at c
  exact c
theorem BinV_ok {o : Bop} {x y : PyData} {Q : Bool → PyData → Prop} {E : Str → Prop} (h : (BinV o x y).wp (fun p => Q p.1 p.2) E) : BinP o x y Q := by
  cases o <;> cases x <;> cases y <;> first
    | exact h.elim
    | exact h
    | (obtain ⟨c, h⟩ := gd_wp h; exact ⟨leN_iff.mp c, h⟩)
    | (obtain ⟨c, h⟩ := gd_wp h; exact ⟨mulOk_ok c, h⟩)
    | (obtain ⟨c, h⟩ := gd_wp h; exact ⟨divOk_ok c, h⟩)
    | (obtain ⟨c, h⟩ := gd_wp h; exact ⟨shlOk_ok c, h⟩)
    | (obtain ⟨c, h⟩ := gd_wp h; exact ⟨powOk_ok c, h⟩)
    | (obtain ⟨c, h⟩ := gd_wp h; exact ⟨of_decide_eq_true c, h⟩)
    | (obtain ⟨c, h⟩ := gd_wp h
       simp only [leN, Bool.and_eq_true, decide_eq_true_eq, Bool.not_eq_true', List.isEmpty_eq_false_iff] at c
       exact ⟨c.1, c.2.1, c.2.2.1, c.2.2.2, h⟩)
    | (obtain ⟨c, h⟩ := gd_wp h
       simp only [leN, Bool.and_eq_true, decide_eq_true_eq] at c
       exact ⟨c.1, c.2.1, c.2.2, h⟩)
def mulS (i j : Int) : Bool := (decide (-(2 ^ 64) < i) && decide (i < 2 ^ 64)) || (decide (-(2 ^ 64) < j) && decide (j < 2 ^ 64))
theorem mulS_ok {i j : Int} (c : mulS i j = true) : CMul i j := by
  unfold mulS at c
  simp only [Bool.or_eq_true, Bool.and_eq_true, decide_eq_true_eq] at c
  exact c
def augV : Bop → Int → Int → Ev Int
  | .add, i, j => .ok (i + j)
  | .sub, i, j => .ok (i - j)
  | .mul, i, j => gd (mulS i j) (.ok (i * j))
  | .fdiv, i, j => gd (divOk j) (.ok (i / j))
  | .mod, i, j => gd (decide (0 < j)) (.ok (i % j))
  | .shl, i, j => gd (shlOk i j) (.ok (i * 2 ^ j.toNat))
  | .shr, i, j => gd (decide (0 ≤ j)) (.ok (i / 2 ^ j.toNat))
  | .band, i, j => .ok (Builtin.bitAnd i j)
  | .bor, i, j => .ok (Builtin.bitOr i j)
  | .bxor, i, j => .ok (Builtin.bitXor i j)
  | .pow, _, _ => .bad
theorem augV_ok {o : Bop} {i j : Int} {Q : Int → Prop} {E : Str → Prop} (h : (augV o i j).wp Q E) : AugP o i j Q := by
  cases o <;> first
    | exact h.elim
    | exact h
    | (obtain ⟨c, h⟩ := gd_wp h; exact ⟨mulS_ok c, h⟩)
    | (obtain ⟨c, h⟩ := gd_wp h; exact ⟨divOk_ok c, h⟩)
    | (obtain ⟨c, h⟩ := gd_wp h; exact ⟨shlOk_ok c, h⟩)
    | (obtain ⟨c, h⟩ := gd_wp h; exact ⟨of_decide_eq_true c, h⟩)
def CmpV : Cop → PyData → PyData → Ev Bool
  | .eq, .int i, .int j => .ok (i == j)
  | .ne, .int i, .int j => .ok (!(i == j))
  | .eq, .tuple xs, .tuple ys => gd (shortT xs ys || (SeqAt.shaped (.tuple xs) && SeqAt.shaped (.tuple ys))) (.ok (PyData.eqv (.tuple xs) (.tuple ys)))
  | .eq, x, y => gd (SeqAt.shaped x && SeqAt.shaped y) (.ok (PyData.eqv x y))
  | .ne, x, y => gd (SeqAt.shaped x && SeqAt.shaped y) (.ok (!PyData.eqv x y))
  | .lt, .int i, .int j => .ok (decide (i < j))
  | .le, .int i, .int j => .ok (decide (i ≤ j))
  | .gt, .int i, .int j => .ok (decide (j < i))
  | .ge, .int i, .int j => .ok (decide (j ≤ i))
  | .isnt k, x, .none => .ok (match x with | .none => k | _ => !k)
  | .isnt k, .bool a, .bool b => .ok (bif k then decide (a = b) else !decide (a = b))
  | .in_ k, x, .list ys => gd (SeqAt.shaped x && SeqAt.shaped (.list ys)) (.ok (if k = true then ys.any (fun z => PyData.eqv z x) else !ys.any (fun z => PyData.eqv z x)))
  | .in_ k, x, .dict kvs => gd (keyFor kvs x) (.ok (if k = true then (lookD kvs x).isSome else !(lookD kvs x).isSome))
  | .in_ k, x, .tuple ys => gd (SeqAt.shaped x && SeqAt.shaped (.tuple ys)) (.ok (if k = true then ys.any (fun z => PyData.eqv z x) else !ys.any (fun z => PyData.eqv z x)))
  | _, _, _ => .bad
theorem cmp_gd {x y : PyData} {b : Bool} {Q : Bool → Prop} {E : Str → Prop} (h : (gd (SeqAt.shaped x && SeqAt.shaped y) (.ok b)).wp Q E) : okD x ∧ okD y ∧ Q b := by
  obtain ⟨c, h⟩ := gd_wp h
  rw [Bool.and_eq_true] at c
  exact ⟨c.1, c.2, h⟩
theorem cmp_gdE {x y : PyData} {b : Bool} {Q : Bool → Prop} {E : Str → Prop} (h : (gd (SeqAt.shaped x && SeqAt.shaped y) (.ok b)).wp Q E) : (shortD x y = true ∨ (okD x ∧ okD y)) ∧ Q b :=
  ⟨.inr ⟨(cmp_gd h).1, (cmp_gd h).2.1⟩, (cmp_gd h).2.2⟩
theorem cmp_gdT {xs ys : List PyData} {b : Bool} {Q : Bool → Prop} {E : Str → Prop} (h : (gd (shortT xs ys || (SeqAt.shaped (.tuple xs) && SeqAt.shaped (.tuple ys))) (.ok b)).wp Q E) : (shortD (.tuple xs) (.tuple ys) = true ∨ (okD (.tuple xs) ∧ okD (.tuple ys))) ∧ Q b := by
  obtain ⟨c, h⟩ := gd_wp h
  rw [Bool.or_eq_true, Bool.and_eq_true] at c
  exact ⟨c, h⟩
theorem key_gd {α : Type} {c : Bool} {r : Ev α} {Q : α → Prop} {E : Str → Prop} (h : (gd c r).wp Q E) : c = true ∧ r.wp Q E := gd_wp h
theorem CmpV_ok {o : Cop} {x y : PyData} {Q : Bool → Prop} {E : Str → Prop} (h : (CmpV o x y).wp Q E) : CmpP o x y Q := by
  cases o <;> cases x <;> cases y <;> first
    | exact h.elim
    | exact cmp_gdT (E := E) h
    | exact cmp_gdE (E := E) h
    | exact cmp_gd (E := E) h
    | exact ⟨rfl, h⟩
    | exact key_gd (E := E) h
    | exact h
def okMB (xs : List PyData) : Bool := alikeB xs && decide (PyData.depthAll xs ≤ 60)
theorem okMB_ok {xs : List PyData} (c : okMB xs = true) : okM xs := by
  unfold okMB at c
  rw [Bool.and_eq_true] at c
  exact ⟨c.1, of_decide_eq_true c.2⟩
def okSB (xs : List PyData) : Bool := okMB xs && (xs.all isTup1 || xs.all isOth || decide (xs.length ≤ 1))
theorem okSB_ok {xs : List PyData} (c : okSB xs = true) : okS xs := by
  unfold okSB at c
  rw [Bool.and_eq_true] at c
  exact ⟨okMB_ok c.1, c.2⟩
def okRB (d : PyData) : Bool := d.showable && (leN d.shown.length sizeLine && decide (d.depth ≤ 60))
theorem okRB_ok {d : PyData} (c : okRB d = true) : okR d := by
  unfold okRB at c
  rw [Bool.and_eq_true, Bool.and_eq_true] at c
  exact ⟨c.1, leN_iff.mp c.2.1, of_decide_eq_true c.2.2⟩
def optV {α : Type} : Option α → Ev α
  | some a => .ok a
  | none => .bad
@[simp] theorem optV_some {α : Type} (a : α) : optV (some a) = .ok a := (rfl)
@[simp] theorem optV_none {α : Type} : optV (none : Option α) = .bad := (rfl)
/-! #### mergeSort, so that the kernel can run it -/
def mgK {α : Type} (le : α → α → Bool) : Nat → List α → List α → List α
  | 0, xs, ys => xs ++ ys
  | _ + 1, [], ys => ys
  | _ + 1, x :: xs, [] => x :: xs
  | n + 1, x :: xs, y :: ys => match le x y with
    | true => x :: mgK le n xs (y :: ys)
    | false => y :: mgK le n (x :: xs) ys
theorem mgK_eq {α : Type} {le : α → α → Bool} : ∀ {n : Nat} {xs ys : List α}, xs.length + ys.length ≤ n → mgK le n xs ys = List.merge xs ys le
  | 0, xs, ys, h => by
    have hx : xs = [] := List.eq_nil_of_length_eq_zero (by omega)
    have hy : ys = [] := List.eq_nil_of_length_eq_zero (by omega)
    subst hx hy
    unfold mgK List.merge
    rfl
  | n + 1, [], ys, h => by unfold mgK List.merge; rfl
  | n + 1, x :: xs, [], h => by unfold mgK List.merge; rfl
  | n + 1, x :: xs, y :: ys, h => by
    unfold mgK
    rw [List.cons_merge_cons]
    simp only [List.length_cons] at h
    cases le x y with
    | true => exact congrArg (x :: ·) (mgK_eq (by simp only [List.length_cons]; omega))
    | false => exact congrArg (y :: ·) (mgK_eq (by simp only [List.length_cons]; omega))
def msK {α : Type} (le : α → α → Bool) : Nat → List α → List α
  | _, [] => []
  | _, [a] => [a]
  | 0, xs => xs
  | n + 1, a :: b :: r => mgK le (a :: b :: r).length (msK le n ((a :: b :: r).take (((a :: b :: r).length + 1) / 2))) (msK le n ((a :: b :: r).drop (((a :: b :: r).length + 1) / 2)))
theorem msK_eq {α : Type} {le : α → α → Bool} : ∀ {n : Nat} {xs : List α}, xs.length ≤ n → msK le n xs = xs.mergeSort le
  | _, [], h => by unfold msK List.mergeSort; rfl
  | _, [a], h => by unfold msK List.mergeSort; rfl
  | 0, a :: b :: r, h => by simp at h
  | n + 1, a :: b :: r, h => by
    unfold msK
    have h0 : r.length + 1 ≤ n := by simpa using h
    rw [msK_eq (n := n) (by rw [List.length_take]; simp only [List.length_cons]; omega), msK_eq (n := n) (by rw [List.length_drop]; simp only [List.length_cons]; omega)]
    rw [mgK_eq (by rw [List.length_mergeSort, List.length_mergeSort, List.length_take, List.length_drop]; omega)]
    conv => rhs; unfold List.mergeSort
    simp only [List.MergeSort.Internal.splitInTwo_fst, List.MergeSort.Internal.splitInTwo_snd]
def sortK (xs : List PyData) : List PyData := msK (PySem.W.dataLe false _root_.id) xs.length xs
theorem sortK_eq {xs : List PyData} : sortK xs = sortD xs := msK_eq (Nat.le_refl _)
def BiV : Bi → List PyData → Ev Val
  | .len, [.list xs] => okv (.int xs.length)
  | .len, [.tuple xs] => okv (.int xs.length)
  | .len, [.str x] => gd (leN x.length lim) (okv (.int x.length))
  | .abs, [.int i] => okv (.int (if i < 0 then -i else i))
  | .max, [.int i, .int j] => okv (.int (if j > i then j else i))
  | .min, [.int i, .int j] => okv (.int (if j < i then j else i))
  | .int, [.int i] => okv (.int i)
  | .int, [.bool b] => okv (.int (if b then 1 else 0))
  | .tuple, [.list xs] => okv (.tuple xs)
  | .tuple, [.tuple xs] => okv (.tuple xs)
  | .list, [.list xs] => okn (.list xs)
  | .list, [.tuple xs] => okn (.list xs)
  | .max, [.list (x :: xs)] => gd (okMB (x :: xs)) (okv (PySem.W.maxD x xs))
  | .max, [.tuple (x :: xs)] => gd (okMB (x :: xs)) (okv (PySem.W.maxD x xs))
  | .min, [.list (x :: xs)] => gd (okMB (x :: xs)) (okv (PySem.W.minD x xs))
  | .min, [.tuple (x :: xs)] => gd (okMB (x :: xs)) (okv (PySem.W.minD x xs))
  | .repr, [d] => gd (okRB d) (okv (.str d.shown))
  | .all, [.list xs] => (optV (allBools xs)).bind fun bs => okv (.bool (bs.all _root_.id))
  | .any, [.list xs] => (optV (allBools xs)).bind fun bs => okv (.bool (bs.any _root_.id))
  | .sorted, [.list xs] => gd (okSB xs && leN xs.length lim) (okn (.list (sortK xs)))
  | .sum, [.list xs] => (optV (allInts xs)).bind fun ns => okv (.int ns.sum)
  | .sum, [.tuple xs] => (optV (allInts xs)).bind fun ns => okv (.int ns.sum)
  | _, _ => .bad
theorem optV_wp {α β : Type} {o : Option α} {f : α → Ev β} {Q : β → Prop} {E : Str → Prop} (h : ((optV o).bind f).wp Q E) : ∃ a, o = some a ∧ (f a).wp Q E := by
  cases o with
  | none => exact h.elim
  | some a => exact ⟨a, rfl, h⟩
theorem BiV_ok {b : Bi} {ds : List PyData} {Q : Bool → PyData → Prop} {E : Str → Prop} (h : (BiV b ds).wp (fun p => Q p.1 p.2) E) : BiP b ds Q := by
  unfold BiV at h
  split at h <;> first
    | exact h.elim
    | exact h
    | (obtain ⟨c, h⟩ := gd_wp h; exact ⟨leN_iff.mp c, h⟩)
    | (obtain ⟨c, h⟩ := gd_wp h; exact ⟨okMB_ok c, h⟩)
    | (obtain ⟨c, h⟩ := gd_wp h; exact ⟨okRB_ok c, h⟩)
    | (obtain ⟨c, h⟩ := gd_wp h; rw [Bool.and_eq_true] at c; exact ⟨okSB_ok c.1, leN_iff.mp c.2, by rw [sortK_eq] at h; exact h⟩)
    | exact optV_wp h
def MtV : Mt → PyData → List PyData → Ev Val
  | .bits, .int i, [] => okv (.int (Builtin.Int.intBits i : Nat))
  | .index, .list ds, [x] => gd (SeqAt.shaped x && SeqAt.shaped (.list ds)) ((optV (idxD ds x)).bind fun n => okv (.int (n : Nat)))
  | .index, .tuple ds, [x] => gd (SeqAt.shaped x && SeqAt.shaped (.list ds)) ((optV (idxD ds x)).bind fun n => okv (.int (n : Nat)))
  | .count, .tuple ds, [x] => gd (SeqAt.shaped x && SeqAt.shaped (.list ds)) (okv (.int ((ds.countP fun z => PyData.eqv z x : Nat) : Int)))
  | .get, .dict kvs, [k] => gd (keyFor kvs k) (okv ((lookD kvs k).getD .none))
  | .get, .dict kvs, [k, d] => gd (keyFor kvs k) (okv ((lookD kvs k).getD d))
  | _, _, _ => .bad
theorem MtV_ok {m : Mt} {x : PyData} {ds : List PyData} {Q : Bool → PyData → Prop} {E : Str → Prop} (h : (MtV m x ds).wp (fun p => Q p.1 p.2) E) : MtP m x ds Q := by
  unfold MtV at h
  split at h <;> first
    | exact h.elim
    | exact h
    | exact gd_wp h
    | (obtain ⟨c, h⟩ := gd_wp h; rw [Bool.and_eq_true] at c; exact ⟨c.1, c.2, optV_wp h⟩)
    | (obtain ⟨c, h⟩ := gd_wp h; rw [Bool.and_eq_true] at c; exact ⟨c.1, c.2, h⟩)
def IxV : PyData → PyData → Ev Val
  | .list xs, .int i => (optV (atI xs i)).bind okv
  | .tuple xs, .int i => (optV (atI xs i)).bind okv
  | .dict kvs, k => gd (keyFor kvs k) ((optV (lookD kvs k)).bind okv)
  | _, _ => .bad
theorem IxV_ok {x y : PyData} {Q : Bool → PyData → Prop} {E : Str → Prop} (h : (IxV x y).wp (fun p => Q p.1 p.2) E) : IxP x y Q := by
  unfold IxV at h
  split at h <;> first
    | exact h.elim
    | exact optV_wp h
    | (obtain ⟨c, h⟩ := gd_wp h; exact ⟨c, optV_wp h⟩)
def SlV : PyData → Option Int → Option Int → Ev Val
  | .list xs, lo, hi => okn (.list (cutD xs lo hi))
  | .tuple xs, lo, hi => okv (.tuple (cutD xs lo hi))
  | _, _, _ => .bad
theorem SlV_ok {x : PyData} {a b : Option Int} {Q : Bool → PyData → Prop} {E : Str → Prop} (h : (SlV x a b).wp (fun p => Q p.1 p.2) E) : SlP x a b Q := by
  unfold SlV at h
  split at h <;> first
    | exact h.elim
    | exact h
def revV : PyData → Ev Val
  | .list xs => okn (.list xs.reverse)
  | .tuple xs => okv (.tuple xs.reverse)
  | _ => .bad
theorem revV_ok {x : PyData} {Q : Bool → PyData → Prop} {E : Str → Prop} (h : (revV x).wp (fun p => Q p.1 p.2) E) : revD x Q := by
  unfold revV at h
  split at h <;> first
    | exact h.elim
    | exact h
def intV {α : Type} (d : PyData) (f : Int → Ev α) : Ev α := match d with
  | .int i => f i
  | _ => .bad
@[simp] theorem intV_int {α : Type} (i : Int) (f : Int → Ev α) : intV (.int i) f = f i := (rfl)
theorem intV_ok {α : Type} {d : PyData} {f : Int → Ev α} {Q : α → Prop} {E : Str → Prop} (h : (intV d f).wp Q E) : isInt d fun i => (f i).wp Q E := by
  cases d <;> first | exact h | exact h.elim
def seqV {α : Type} (d : PyData) (f : List PyData → Ev α) : Ev α := match d with
  | .list xs => f xs
  | .tuple xs => f xs
  | _ => .bad
@[simp] theorem seqV_list {α : Type} (i : List PyData) (f : List PyData → Ev α) : seqV (.list i) f = f i := (rfl)
@[simp] theorem seqV_tuple {α : Type} (i : List PyData) (f : List PyData → Ev α) : seqV (.tuple i) f = f i := (rfl)
theorem seqV_ok {α : Type} {d : PyData} {f : List PyData → Ev α} {Q : α → Prop} {E : Str → Prop} (h : (seqV d f).wp Q E) : isSeq d fun i => (f i).wp Q E := by
  cases d <;> first | exact h | exact h.elim
def lstV {α : Type} (d : PyData) (f : List PyData → Ev α) : Ev α := match d with
  | .list xs => f xs
  | _ => .bad
@[simp] theorem lstV_list {α : Type} (i : List PyData) (f : List PyData → Ev α) : lstV (.list i) f = f i := (rfl)
theorem lstV_ok {α : Type} {d : PyData} {f : List PyData → Ev α} {Q : α → Prop} {E : Str → Prop} (h : (lstV d f).wp Q E) : isLst d fun i => (f i).wp Q E := by
  cases d <;> first | exact h | exact h.elim
def tupV {α : Type} (d : PyData) (f : List PyData → Ev α) : Ev α := match d with
  | .tuple xs => f xs
  | _ => .bad
@[simp] theorem tupV_tuple {α : Type} (i : List PyData) (f : List PyData → Ev α) : tupV (.tuple i) f = f i := (rfl)
def twoV {α : Type} (a b : PyData) (f : List PyData → List PyData → Ev α) : Ev α := match a, b with
  | .list xs, .list ys => f xs ys
  | .tuple xs, .tuple ys => f xs ys
  | .list xs, .tuple ys => f xs ys
  | .tuple xs, .list ys => f xs ys
  | _, _ => .bad
@[simp] theorem twoV_list {α : Type} (i j : List PyData) (f : List PyData → List PyData → Ev α) : twoV (.list i) (.list j) f = f i j := (rfl)
@[simp] theorem twoV_tuple {α : Type} (i j : List PyData) (f : List PyData → List PyData → Ev α) : twoV (.tuple i) (.tuple j) f = f i j := (rfl)
@[simp] theorem twoV_listT {α : Type} (i j : List PyData) (f : List PyData → List PyData → Ev α) : twoV (.list i) (.tuple j) f = f i j := (rfl)
@[simp] theorem twoV_tupleL {α : Type} (i j : List PyData) (f : List PyData → List PyData → Ev α) : twoV (.tuple i) (.list j) f = f i j := (rfl)
theorem twoV_ok {α : Type} {a b : PyData} {f : List PyData → List PyData → Ev α} {Q : α → Prop} {E : Str → Prop} (h : (twoV a b f).wp Q E) : two a b fun i j => (f i j).wp Q E := by
  cases a <;> cases b <;> first | exact h | exact h.elim
/-- a test's answer -/
def tstV {α : Type} (d : PyData) (f : Bool → Ev α) : Ev α := (optV (truth d)).bind f
@[simp] theorem tstV_bool {α : Type} (b : Bool) (f : Bool → Ev α) : tstV (.bool b) f = f b := (rfl)
theorem tstV_ok {α : Type} {d : PyData} {f : Bool → Ev α} {Q : α → Prop} {E : Str → Prop} (h : (tstV d f).wp Q E) : ∃ c, truth d = some c ∧ (f c).wp Q E := optV_wp h
/-- an exception is not looked for -/
def noex {α : Type} : Ev α → Ev α
  | .ok a => .ok a
  | .pk m k => .pk m fun r => noex (k r)
  | _ => .bad
@[simp] theorem noex_ok {α : Type} (a : α) : noex (.ok a) = .ok a := (rfl)
@[simp] theorem noex_pk {α : Type} (m : Int) (k : Int → Ev α) : noex (.pk m k) = .pk m fun r => noex (k r) := (rfl)
theorem noex_wp {α : Type} {r : Ev α} {Q : α → Prop} {E : Str → Prop} (h : (noex r).wp Q E) : r.wp Q fun _ => False := by
  induction r with
  | ok a => exact h
  | ex s => exact h.elim
  | bad => exact h.elim
  | pk m k ih => exact ⟨h.1, fun r hr => ih r (h.2 r hr)⟩
/-- a comprehension's items -/
def filV (f : PyData → Ev (Option PyData)) : List PyData → Ev (List PyData)
  | [] => .ok []
  | x :: xs => (f x).bind fun o => (filV f xs).bind fun r => .ok (match o with
    | some d => d :: r
    | none => r)
mutual
def Tg.bv : Tg → PyData → Env → Option Env
  | .nm i, d, env => some (env.set i (.sh d))
  | .tp ts, .tuple ds, env => ts.bv ds env
  | .tp _, _, _ => none
def Tgs.bv : Tgs → List PyData → Env → Option Env
  | .nil, [], env => some env
  | .cons t r, d :: ds, env => (t.bv d env).bind (r.bv ds)
  | _, _, _ => none
end
mutual
theorem Tg.bv_ok : ∀ {t : Tg} {d : PyData} {env env' : Env} {k : Env → Prop}, t.bv d env = some env' → k env' → t.bnd d env k
  | .nm i, d, env, env', k, e, h => by cases e; exact h
  | .tp ts, .tuple ds, env, env', k, e, h => Tgs.bv_ok (t := ts) e h
  | .tp ts, .none, env, env', k, e, h => by cases e
  | .tp ts, .bool _, env, env', k, e, h => by cases e
  | .tp ts, .int _, env, env', k, e, h => by cases e
  | .tp ts, .str _, env, env', k, e, h => by cases e
  | .tp ts, .list _, env, env', k, e, h => by cases e
  | .tp ts, .dict _, env, env', k, e, h => by cases e
theorem Tgs.bv_ok : ∀ {t : Tgs} {ds : List PyData} {env env' : Env} {k : Env → Prop}, t.bv ds env = some env' → k env' → t.bnd ds env k
  | .nil, [], env, env', k, e, h => by cases e; exact h
  | .nil, _ :: _, env, env', k, e, h => by cases e
  | .cons t r, [], env, env', k, e, h => by cases e
  | .cons t r, d :: ds, env, env', k, e, h => by
    cases z : t.bv d env with
    | none => simp [Tgs.bv, z] at e
    | some env2 =>
      have e' : r.bv ds env2 = some env' := by simpa [Tgs.bv, z] using e
      exact Tg.bv_ok (t := t) z (Tgs.bv_ok (t := r) e' h)
end
/-- a slot handed on -/
def slotA (env : Env) (i : Nat) : Ev Sl := match env[i]? with
  | some (.sh d) => .ok (.sh d)
  | some (.ow d) => .ok (.sh d)
  | some .src => .ok .src
  | _ => .bad
/-- a name -/
def Ex.vr : Ex → Option Nat
  | .var i => some i
  | _ => none
/-- a slot's data -/
def slotV (env : Env) (i : Nat) : Ev PyData := match env[i]? with
  | some (.sh d) => .ok d
  | some (.ow d) => .ok d
  | _ => .bad
section
variable (F : Nat → FV)
mutual
def Ex.ev : Ex → Env → Ev Val
  | .var i, env => (slotV env i).bind okv
  | .lit d, _ => okv d
  | .tup es, env => (es.ev env).bind fun ds => gd (leN ds.length lim) (okv (.tuple ds))
  | .lst es, env => (es.ev env).bind fun ds => gd (leN ds.length lim) (okn (.list ds))
  | .bin o a b, env => (a.ev env).bind fun x => (b.ev env).bind fun y => BinV o x.2 y.2
  | .neg a, env => (a.ev env).bind fun x => intV x.2 fun i => okv (.int (-i))
  | .cmp o a b, env => (a.ev env).bind fun x => (b.ev env).bind fun y => (CmpV o x.2 y.2).bind fun c => okv (.bool c)
  | .cmp2 o p a b c, env => (a.ev env).bind fun x => (b.ev env).bind fun y => (CmpV o x.2 y.2).bind fun r => match r with
    | true => (c.ev env).bind fun z => (CmpV p y.2 z.2).bind fun r' => okv (.bool r')
    | false => okv (.bool false)
  | .and_ a b, env => (a.ev env).bind fun x => tstV x.2 fun c => match c with
    | true => b.ev env
    | false => .ok x
  | .or_ a b, env => (a.ev env).bind fun x => tstV x.2 fun c => match c with
    | true => .ok x
    | false => b.ev env
  | .not_ a, env => (a.ev env).bind fun x => tstV x.2 fun c => okv (.bool !c)
  | .ite t a b, env => (t.ev env).bind fun x => tstV x.2 fun c => match c with
    | true => a.ev env
    | false => b.ev env
  | .call j es, env => (es.eva env).bind fun sl => F j sl
  | .bi b es, env => (es.ev env).bind fun ds => BiV b ds
  | .mth m o es, env => (o.ev env).bind fun x => gd (mtT m x.2) ((es.ev env).bind fun ds => MtV m x.2 ds)
  | .ix o i, env => (o.ev env).bind fun x => (i.ev env).bind fun y => IxV x.2 y.2
  | .slc o lo hi, env => (o.ev env).bind fun x => (lo.ev env).bind fun l => (hi.ev env).bind fun h => SlV x.2 l h
  | .isa e T, env => (e.ev env).bind fun x => okv (.bool (isaD T x.2))
  | .rev o, env => (o.ev env).bind fun x => revV x.2
  | .dic0, _ => okn (.dict [])
  | .sdk e, env => (e.ev env).bind fun x => lstV x.2 fun xs => (optV (pairKeys xs)).bind fun ks => gd (decide (ks.length < 64)) (okn (.list ((setI ks).map PyData.int)))
  | .lrng e, env => (e.ev env).bind fun x => intV x.2 fun n => gd (decide (-(2 ^ 60) ≤ n) && decide (n ≤ 1000000)) (okn (.list (intsD 0 n.toNat)))
  | .star a b, env => (a.ev env).bind fun x => tupV x.2 fun xs => (b.ev env).bind fun y => gd (leN (xs.length + 1) lim) (okv (.tuple (xs ++ [y.2])))
  | .comp e tg it cs own, env => (it.ev env).bind fun p => gd (leN p.2.length lim) ((filV (fun x => (optV (tg.bv x (wipeE env own))).bind fun env' => noex ((cs.evt env').bind fun b => match b with
      | true => (e.ev env').bind fun d => .ok (some d.2)
      | false => .ok none)) p.2).bind fun L => okn (.list L))
def Exo.ev : Exo → Env → Ev (Option Int)
  | .no, _ => .ok none
  | .so e, env => (e.ev env).bind fun x => intV x.2 fun i => .ok (some i)
def Exs.ev : Exs → Env → Ev (List PyData)
  | .nil, _ => .ok []
  | .cons e r, env => (e.ev env).bind fun x => (r.ev env).bind fun ds => .ok (x.2 :: ds)
def Exs.eva : Exs → Env → Ev (List Sl)
  | .nil, _ => .ok []
  | .cons e r, env => (match e.vr with
    | some i => slotA env i
    | none => (e.ev env).bind fun x => .ok (.sh x.2)).bind fun s => (r.eva env).bind fun ds => .ok (s :: ds)
def Exs.evt : Exs → Env → Ev Bool
  | .nil, _ => .ok true
  | .cons e r, env => (e.ev env).bind fun x => tstV x.2 fun c => match c with
    | true => r.evt env
    | false => .ok false
def It.ev : It → Env → Ev (Bool × List PyData)
  | .seq e, env => (e.ev env).bind fun x => seqV x.2 fun xs => .ok (leafy x.1 x.2, xs)
  | .range1 e, env => (e.ev env).bind fun x => intV x.2 fun n => gd (decide (-(2 ^ 60) ≤ n) && decide (n ≤ 2 ^ 60)) (.ok (true, intsD 0 n.toNat))
  | .range2 a b, env => (a.ev env).bind fun x => (b.ev env).bind fun y => intV x.2 fun m => intV y.2 fun n => gd (decide (-(2 ^ 60) ≤ m) && (decide (m ≤ 2 ^ 60) && (decide (-(2 ^ 60) ≤ n) && decide (n ≤ 2 ^ 60)))) (.ok (true, intsD m (n - m).toNat))
  | .rangd a b, env => (a.ev env).bind fun x => (b.ev env).bind fun y => intV x.2 fun m => intV y.2 fun n => gd (decide (-(2 ^ 60) ≤ m) && (decide (m ≤ 2 ^ 60) && (decide (-(2 ^ 60) ≤ n) && decide (n ≤ 2 ^ 60)))) (.ok (true, downD m (m - n).toNat))
  | .enum e, env => (e.ev env).bind fun x => seqV x.2 fun xs => .ok (false, enumD xs)
  | .zips a b, env => (a.ev env).bind fun x => (b.ev env).bind fun y => seqV x.2 fun xs => seqV y.2 fun ys => gd (decide (xs.length = ys.length)) (.ok (false, zipD xs ys))
  | .zip a b, env => (a.ev env).bind fun x => (b.ev env).bind fun y => twoV x.2 y.2 fun xs ys => .ok (false, zipD xs ys)
end
end
end DL
set_option Elab.async false
set_option linter.all false
set_option maxRecDepth 100000
set_option maxHeartbeats 4000000
/-! E1: what an evaluation gives is what a reading wants; statements. -/
namespace DL
open PySem PySem.Spec PyProof.Rows L2

def Under (F : Nat → FV) (C : Nat → Fs) : Prop := ∀ j sl Q E, (F j sl).wp (fun p => Q p.1 p.2) E → C j sl Q E
theorem bool_if {α : Type} {c : Bool} {a b : Ev α} {Q : α → Prop} {E : Str → Prop} (h : (match c with | true => a | false => b : Ev α).wp Q E) : (c = true ∧ a.wp Q E) ∨ (c = false ∧ b.wp Q E) := by
  cases c with
  | true => exact .inl ⟨rfl, h⟩
  | false => exact .inr ⟨rfl, h⟩
theorem slotV_ok {env : Env} {i : Nat} {Q : PyData → Prop} {E : Str → Prop} (h : (slotV env i).wp Q E) : ∃ d, (env[i]? = some (.sh d) ∨ env[i]? = some (.ow d)) ∧ Q d := by
  unfold slotV at h
  split at h
  · rename_i d e; exact ⟨d, .inl e, h⟩
  · rename_i d e; exact ⟨d, .inr e, h⟩
  · exact h.elim
theorem Ev.wp_bind_ok {α β : Type} {a : α} {f : α → Ev β} {Q : β → Prop} {E : Str → Prop} (h : ((Ev.ok a).bind f).wp Q E) : (f a).wp Q E := h
theorem slotA_ok {env : Env} {i : Nat} {Q : Sl → Prop} {E : Str → Prop} (h : (slotA env i).wp Q E) : match env[i]? with | some (.sh d) => Q (.sh d) | some (.ow d) => Q (.sh d) | some .src => Q .src | _ => False := by
  unfold slotA at h
  split at h
  · rename_i d e; first | exact h | (rw [e]; exact h)
  · rename_i d e; first | exact h | (rw [e]; exact h)
  · rename_i e; first | exact h | (rw [e]; exact h)
  · exact h.elim
theorem filV_ok {f : PyData → Ev (Option PyData)} {step : PyData → List PyData → (List PyData → Prop) → Prop} (hs : ∀ x acc K, (f x).wp (fun o => K (match o with | some d => acc ++ [d] | none => acc)) (fun _ => False) → step x acc K) (hn : ∀ x Q E, (f x).wp Q E → (f x).wp Q fun _ => False) :
    ∀ (xs acc : List PyData) (Q : List PyData → Prop) (E : Str → Prop), (filV f xs).wp (fun L => Q (acc ++ L)) E → foldC step xs acc Q
  | [], acc, Q, E, h => by
    have h' : Q (acc ++ []) := h
    rw [List.append_nil] at h'
    exact h'
  | x :: xs, acc, Q, E, h => by
    have h' : ((f x).bind fun o => (filV f xs).bind fun r => .ok (match o with | some d => d :: r | none => r)).wp (fun L => Q (acc ++ L)) E := h
    show step x acc fun acc' => foldC step xs acc' Q
    refine hs x acc _ ((hn x _ _ (Ev.wp_bind h')).imp fun o q => ?_)
    refine filV_ok hs hn xs _ Q E ((Ev.wp_bind q).imp fun L hL => ?_)
    cases o with
    | none => exact hL
    | some d =>
      have hL' : Q (acc ++ d :: L) := hL
      simpa using hL'
theorem noex_same {α : Type} {r : Ev α} {Q : α → Prop} {E : Str → Prop} (h : (noex r).wp Q E) : (noex r).wp Q fun _ => False := by
  induction r with
  | ok a => exact h
  | ex s => exact h
  | bad => exact h
  | pk m k ih => exact ⟨h.1, fun r hr => ih r (h.2 r hr)⟩
section
variable {F : Nat → FV} {C : Nat → Fs} (hC : Under F C)
include hC
mutual
theorem Ex.ev_ok : ∀ {e : Ex} {E : Str → Prop} {env : Env} {Q : Bool → PyData → Prop}, (e.ev F env).wp (fun p => Q p.1 p.2) E → e.rd C E env Q
  | .var i, E, env, Q, h => by
    simp only [Ex.ev] at h
    obtain ⟨d, e, q⟩ := slotV_ok (Ev.wp_bind h)
    simp only [Ex.rd]
    rcases e with e | e <;> (rw [e]; exact q)
  | .lit d, E, env, Q, h => by simp only [Ex.ev] at h; simp only [Ex.rd]; exact h
  | .tup es, E, env, Q, h => by
    simp only [Ex.ev] at h; simp only [Ex.rd]
    exact Exs.ev_ok (es := es) ((Ev.wp_bind h).imp fun ds q => by obtain ⟨c, q⟩ := gd_wp q; exact ⟨leN_iff.mp c, q⟩)
  | .lst es, E, env, Q, h => by
    simp only [Ex.ev] at h; simp only [Ex.rd]
    exact Exs.ev_ok (es := es) ((Ev.wp_bind h).imp fun ds q => by obtain ⟨c, q⟩ := gd_wp q; exact ⟨leN_iff.mp c, q⟩)
  | .bin o a b, E, env, Q, h => by
    simp only [Ex.ev] at h; simp only [Ex.rd]
    exact Ex.ev_ok (e := a) ((Ev.wp_bind h).imp fun x q => Ex.ev_ok (e := b) ((Ev.wp_bind q).imp fun y q => BinV_ok q))
  | .neg a, E, env, Q, h => by
    simp only [Ex.ev] at h; simp only [Ex.rd]
    exact Ex.ev_ok (e := a) ((Ev.wp_bind h).imp fun x q => intV_ok q)
  | .cmp o a b, E, env, Q, h => by
    simp only [Ex.ev] at h; simp only [Ex.rd]
    exact Ex.ev_ok (e := a) ((Ev.wp_bind h).imp fun x q => Ex.ev_ok (e := b) ((Ev.wp_bind q).imp fun y q => CmpV_ok (Ev.wp_bind q)))
  | .cmp2 o p a b c, E, env, Q, h => by
    simp only [Ex.ev] at h; simp only [Ex.rd]
    refine Ex.ev_ok (e := a) ((Ev.wp_bind h).imp fun x q => Ex.ev_ok (e := b) ((Ev.wp_bind q).imp fun y q => CmpV_ok ((Ev.wp_bind q).imp fun r q => ?_)))
    rcases bool_if q with ⟨rfl, q⟩ | ⟨rfl, q⟩
    · rw [if_pos rfl]
      exact Ex.ev_ok (e := c) ((Ev.wp_bind q).imp fun z q => CmpV_ok (Ev.wp_bind q))
    · rw [if_neg Bool.false_ne_true]
      exact q
  | .and_ a b, E, env, Q, h => by
    simp only [Ex.ev] at h; simp only [Ex.rd]
    refine Ex.ev_ok (e := a) ((Ev.wp_bind h).imp fun x q => ?_)
    obtain ⟨c, hc, q⟩ := tstV_ok q
    refine ⟨c, hc, ?_⟩
    rcases bool_if q with ⟨rfl, q⟩ | ⟨rfl, q⟩
    · rw [if_pos rfl]; exact Ex.ev_ok (e := b) q
    · rw [if_neg Bool.false_ne_true]; exact q
  | .or_ a b, E, env, Q, h => by
    simp only [Ex.ev] at h; simp only [Ex.rd]
    refine Ex.ev_ok (e := a) ((Ev.wp_bind h).imp fun x q => ?_)
    obtain ⟨c, hc, q⟩ := tstV_ok q
    refine ⟨c, hc, ?_⟩
    rcases bool_if q with ⟨rfl, q⟩ | ⟨rfl, q⟩
    · rw [if_pos rfl]; exact q
    · rw [if_neg Bool.false_ne_true]; exact Ex.ev_ok (e := b) q
  | .not_ a, E, env, Q, h => by
    simp only [Ex.ev] at h; simp only [Ex.rd]
    exact Ex.ev_ok (e := a) ((Ev.wp_bind h).imp fun x q => tstV_ok q)
  | .ite t a b, E, env, Q, h => by
    simp only [Ex.ev] at h; simp only [Ex.rd]
    refine Ex.ev_ok (e := t) ((Ev.wp_bind h).imp fun x q => ?_)
    obtain ⟨c, hc, q⟩ := tstV_ok q
    refine ⟨c, hc, ?_⟩
    rcases bool_if q with ⟨rfl, q⟩ | ⟨rfl, q⟩
    · rw [if_pos rfl]; exact Ex.ev_ok (e := a) q
    · rw [if_neg Bool.false_ne_true]; exact Ex.ev_ok (e := b) q
  | .call j es, E, env, Q, h => by
    simp only [Ex.ev] at h; simp only [Ex.rd]
    exact Exs.ev_oka (es := es) ((Ev.wp_bind h).imp fun sl q => hC j sl _ _ q)
  | .bi b es, E, env, Q, h => by
    simp only [Ex.ev] at h; simp only [Ex.rd]
    exact Exs.ev_ok (es := es) ((Ev.wp_bind h).imp fun ds q => BiV_ok q)
  | .mth m o es, E, env, Q, h => by
    simp only [Ex.ev] at h; simp only [Ex.rd]
    refine Ex.ev_ok (e := o) ((Ev.wp_bind h).imp fun x q => ?_)
    obtain ⟨c, q⟩ := gd_wp q
    exact ⟨c, Exs.ev_ok (es := es) ((Ev.wp_bind q).imp fun ds q => MtV_ok q)⟩
  | .ix o i, E, env, Q, h => by
    simp only [Ex.ev] at h; simp only [Ex.rd]
    exact Ex.ev_ok (e := o) ((Ev.wp_bind h).imp fun x q => Ex.ev_ok (e := i) ((Ev.wp_bind q).imp fun y q => IxV_ok q))
  | .slc o lo hi, E, env, Q, h => by
    simp only [Ex.ev] at h; simp only [Ex.rd]
    exact Ex.ev_ok (e := o) ((Ev.wp_bind h).imp fun x q => Exo.ev_ok (e := lo) ((Ev.wp_bind q).imp fun y q => Exo.ev_ok (e := hi) ((Ev.wp_bind q).imp fun z q => SlV_ok q)))
  | .isa e T, E, env, Q, h => by
    simp only [Ex.ev] at h; simp only [Ex.rd]
    exact Ex.ev_ok (e := e) (Ev.wp_bind h)
  | .rev o, E, env, Q, h => by
    simp only [Ex.ev] at h; simp only [Ex.rd]
    exact Ex.ev_ok (e := o) ((Ev.wp_bind h).imp fun x q => revV_ok q)
  | .dic0, E, env, Q, h => by simp only [Ex.ev] at h; simp only [Ex.rd]; exact h
  | .sdk e, E, env, Q, h => by
    simp only [Ex.ev] at h; simp only [Ex.rd]
    refine Ex.ev_ok (e := e) ((Ev.wp_bind h).imp fun x q => ?_)
    obtain ⟨f, d⟩ := x
    cases d with
    | list xs =>
      obtain ⟨ks, e1, q⟩ := optV_wp (show ((optV (pairKeys xs)).bind _).wp _ _ from q)
      obtain ⟨c, q⟩ := gd_wp q
      exact ⟨ks, e1, of_decide_eq_true c, q⟩
    | _ => exact q.elim
  | .lrng e, E, env, Q, h => by
    simp only [Ex.ev] at h; simp only [Ex.rd]
    refine Ex.ev_ok (e := e) ((Ev.wp_bind h).imp fun x q => ?_)
    obtain ⟨f, d⟩ := x
    cases d with
    | int n =>
      obtain ⟨c, q⟩ := gd_wp (show (gd _ _).wp _ _ from q)
      rw [Bool.and_eq_true, decide_eq_true_eq, decide_eq_true_eq] at c
      exact ⟨c.1, c.2, q⟩
    | _ => exact q.elim
  | .star a b, E, env, Q, h => by
    simp only [Ex.ev] at h; simp only [Ex.rd]
    refine Ex.ev_ok (e := a) ((Ev.wp_bind h).imp fun x q => ?_)
    obtain ⟨f, d⟩ := x
    cases d with
    | tuple xs =>
      refine Ex.ev_ok (e := b) ((Ev.wp_bind (show ((b.ev F env).bind _).wp _ _ from q)).imp fun y q => ?_)
      obtain ⟨c, q⟩ := gd_wp q
      exact ⟨leN_iff.mp c, q⟩
    | _ => exact q.elim
  | .comp e tg it cs own, E, env, Q, h => by
    simp only [Ex.ev] at h; simp only [Ex.rd]
    refine It.ev_ok (it := it) ((Ev.wp_bind h).imp fun p q => ?_)
    obtain ⟨c, q⟩ := gd_wp q
    refine ⟨leN_iff.mp c, filV_ok (fun x acc K w => ?_) (fun x Q' E' z => ?_) _ _ _ _ (Ev.wp_bind q)⟩
    · obtain ⟨env', e1, w⟩ := optV_wp w
      refine Tg.bv_ok e1 (Exs.ev_okt (es := cs) ((Ev.wp_bind (noex_wp w)).imp fun b q => ?_))
      rcases bool_if q with ⟨rfl, q⟩ | ⟨rfl, q⟩
      · rw [if_pos rfl]; exact Ex.ev_ok (e := e) (Ev.wp_bind q)
      · rw [if_neg Bool.false_ne_true]; exact q
    · obtain ⟨env', e1, z⟩ := optV_wp z
      rw [e1]
      exact noex_same z
theorem Exo.ev_ok : ∀ {e : Exo} {E : Str → Prop} {env : Env} {Q : Option Int → Prop}, (e.ev F env).wp Q E → e.rd C E env Q
  | .no, E, env, Q, h => by simp only [Exo.ev] at h; simp only [Exo.rd]; exact h
  | .so e, E, env, Q, h => by
    simp only [Exo.ev] at h; simp only [Exo.rd]
    exact Ex.ev_ok (e := e) ((Ev.wp_bind h).imp fun x q => intV_ok q)
theorem Exs.ev_ok : ∀ {es : Exs} {E : Str → Prop} {env : Env} {Q : List PyData → Prop}, (es.ev F env).wp Q E → es.rd C E env Q
  | .nil, E, env, Q, h => by simp only [Exs.ev] at h; simp only [Exs.rd]; exact h
  | .cons e r, E, env, Q, h => by
    simp only [Exs.ev] at h; simp only [Exs.rd]
    exact Ex.ev_ok (e := e) ((Ev.wp_bind h).imp fun x q => Exs.ev_ok (es := r) (Ev.wp_bind q))
theorem Exs.ev_okt : ∀ {es : Exs} {E : Str → Prop} {env : Env} {Q : Bool → Prop}, (es.evt F env).wp Q E → es.rdt C E env Q
  | .nil, E, env, Q, h => by simp only [Exs.evt] at h; simp only [Exs.rdt]; exact h
  | .cons e r, E, env, Q, h => by
    simp only [Exs.evt] at h; simp only [Exs.rdt]
    refine Ex.ev_ok (e := e) ((Ev.wp_bind h).imp fun x q => ?_)
    obtain ⟨c, hc, q⟩ := tstV_ok q
    refine ⟨c, hc, ?_⟩
    rcases bool_if q with ⟨rfl, q⟩ | ⟨rfl, q⟩
    · rw [if_pos rfl]; exact Exs.ev_okt (es := r) q
    · rw [if_neg Bool.false_ne_true]; exact q
theorem Exs.ev_oka : ∀ {es : Exs} {E : Str → Prop} {env : Env} {Q : List Sl → Prop}, (es.eva F env).wp Q E → es.rda C E env Q
  | .nil, E, env, Q, h => by simp only [Exs.eva] at h; simp only [Exs.rda]; exact h
  | .cons e r, E, env, Q, h => by
    simp only [Exs.eva] at h
    have h1 := Ev.wp_bind h
    cases e with
    | var i =>
      have h2 := slotA_ok h1
      simp only [Exs.rda]
      split at h2
      · rename_i d e1; first | exact Exs.ev_oka (es := r) (Ev.wp_bind h2) | (rw [e1]; exact Exs.ev_oka (es := r) (Ev.wp_bind h2))
      · rename_i d e1; first | exact Exs.ev_oka (es := r) (Ev.wp_bind h2) | (rw [e1]; exact Exs.ev_oka (es := r) (Ev.wp_bind h2))
      · rename_i e1; first | exact Exs.ev_oka (es := r) (Ev.wp_bind h2) | (rw [e1]; exact Exs.ev_oka (es := r) (Ev.wp_bind h2))
      · exact h2.elim
    | _ =>
      simp only [Exs.rda]
      exact Ex.ev_ok ((Ev.wp_bind h1).imp fun x q => Exs.ev_oka (es := r) (Ev.wp_bind q))
theorem It.ev_ok : ∀ {it : It} {E : Str → Prop} {env : Env} {Q : Bool → List PyData → Prop}, (it.ev F env).wp (fun p => Q p.1 p.2) E → it.rd C E env Q
  | .seq e, E, env, Q, h => by
    simp only [It.ev] at h; simp only [It.rd]
    exact Ex.ev_ok (e := e) ((Ev.wp_bind h).imp fun x q => seqV_ok q)
  | .range1 e, E, env, Q, h => by
    simp only [It.ev] at h; simp only [It.rd]
    refine Ex.ev_ok (e := e) ((Ev.wp_bind h).imp fun x q => ?_)
    obtain ⟨i, e, q⟩ := isInt_iff (intV_ok q)
    rw [e]
    obtain ⟨c, q⟩ := gd_wp q
    simp only [Bool.and_eq_true, decide_eq_true_eq] at c
    exact ⟨c.1, c.2, q⟩
  | .range2 a b, E, env, Q, h => by
    simp only [It.ev] at h; simp only [It.rd]
    refine Ex.ev_ok (e := a) ((Ev.wp_bind h).imp fun x q => Ex.ev_ok (e := b) ((Ev.wp_bind q).imp fun y q => ?_))
    obtain ⟨i, e, q⟩ := isInt_iff (intV_ok q)
    obtain ⟨j, e', q⟩ := isInt_iff (intV_ok q)
    rw [e, e']
    obtain ⟨c, q⟩ := gd_wp q
    simp only [Bool.and_eq_true, decide_eq_true_eq] at c
    exact ⟨c.1, c.2.1, c.2.2.1, c.2.2.2, q⟩
  | .rangd a b, E, env, Q, h => by
    simp only [It.ev] at h; simp only [It.rd]
    refine Ex.ev_ok (e := a) ((Ev.wp_bind h).imp fun x q => Ex.ev_ok (e := b) ((Ev.wp_bind q).imp fun y q => ?_))
    obtain ⟨i, e, q⟩ := isInt_iff (intV_ok q)
    obtain ⟨j, e', q⟩ := isInt_iff (intV_ok q)
    rw [e, e']
    obtain ⟨c, q⟩ := gd_wp q
    simp only [Bool.and_eq_true, decide_eq_true_eq] at c
    exact ⟨c.1, c.2.1, c.2.2.1, c.2.2.2, q⟩
  | .enum e, E, env, Q, h => by
    simp only [It.ev] at h; simp only [It.rd]
    exact Ex.ev_ok (e := e) ((Ev.wp_bind h).imp fun x q => seqV_ok q)
  | .zips a b, E, env, Q, h => by
    simp only [It.ev] at h; simp only [It.rd]
    refine Ex.ev_ok (e := a) ((Ev.wp_bind h).imp fun x q => Ex.ev_ok (e := b) ((Ev.wp_bind q).imp fun y q => ?_))
    obtain ⟨xs, e, q⟩ := isSeq_iff (seqV_ok q)
    obtain ⟨ys, e', q⟩ := isSeq_iff (seqV_ok q)
    obtain ⟨c, q⟩ := gd_wp q
    rcases e with e | e <;> rcases e' with e' | e' <;> (rw [e, e']; exact ⟨of_decide_eq_true c, q⟩)
  | .zip a b, E, env, Q, h => by
    simp only [It.ev] at h; simp only [It.rd]
    exact Ex.ev_ok (e := a) ((Ev.wp_bind h).imp fun x q => Ex.ev_ok (e := b) ((Ev.wp_bind q).imp fun y q => twoV_ok q))
end
end
end DL
set_option Elab.async false
set_option linter.all false
set_option maxRecDepth 100000
set_option maxHeartbeats 4000000
/-! E2: statements evaluated. -/
namespace DL
open PySem PySem.Spec PyProof.Rows L2

inductive Res where
  | nx (e : Env) | rt (fr : Bool) (d : PyData) | bk (e : Env) | ct (e : Env) | ex (s : Str) | bad | pk (m : Int) (k : Int → Res)
namespace Res
def wp : Res → Kp → Prop
  | .nx e, k => k.nx e
  | .rt f d, k => k.rt f d
  | .bk e, k => k.bk e
  | .ct e, k => k.ct e
  | .ex s, k => k.ex s
  | .bad, _ => False
  | .pk m g, k => smP m ∧ ∀ r, RngP m r → (g r).wp k
end Res
theorem Res.wp.imp {x : Res} {k k' : Kp} (h : x.wp k) (a : ∀ e, k.nx e → k'.nx e) (b : ∀ e, k.ct e → k'.ct e) (c : ∀ e, k.bk e → k'.bk e) (d : ∀ f d, k.rt f d → k'.rt f d) (s : ∀ e, k.ex e → k'.ex e) : x.wp k' := by
  induction x with
  | nx e => exact a e h
  | ct e => exact b e h
  | bk e => exact c e h
  | rt f v => exact d f v h
  | ex e => exact s e h
  | bad => exact h
  | pk m g ih => exact ⟨h.1, fun r hr => ih r (h.2 r hr)⟩
/-- what a def gives back -/
def Res.val : Res → Ev Val
  | .rt f d => .ok (f, d)
  | .nx _ => okv .none
  | .ex s => .ex s
  | .pk m g => .pk m fun r => (g r).val
  | _ => .bad
def evk {α : Type} : Ev α → (α → Res) → Res
  | .ok a, f => f a
  | .ex s, _ => .ex s
  | .bad, _ => .bad
  | .pk m g, f => .pk m fun r => evk (g r) f
@[simp] theorem evk_ok {α : Type} (a : α) (f : α → Res) : evk (.ok a) f = f a := (rfl)
@[simp] theorem evk_ex {α : Type} (s : Str) (f : α → Res) : evk (.ex s : Ev α) f = .ex s := (rfl)
@[simp] theorem evk_bad {α : Type} (f : α → Res) : evk (.bad : Ev α) f = .bad := (rfl)
@[simp] theorem evk_pk {α : Type} (m : Int) (g : Int → Ev α) (f : α → Res) : evk (.pk m g) f = .pk m fun r => evk (g r) f := (rfl)
theorem evk_wp {α : Type} {r : Ev α} {f : α → Res} {k : Kp} (h : (evk r f).wp k) : r.wp (fun a => (f a).wp k) k.ex := by
  induction r with
  | pk m g ih => exact ⟨h.1, fun r hr => ih r (h.2 r hr)⟩
  | _ => exact h
def gdR (c : Bool) (r : Res) : Res := match c with
  | true => r
  | false => .bad
@[simp] theorem gdR_true (r : Res) : gdR true r = r := (rfl)
theorem gdR_wp {c : Bool} {r : Res} {k : Kp} (h : (gdR c r).wp k) : c = true ∧ r.wp k := by
  cases c with
  | true => exact ⟨rfl, h⟩
  | false => exact h.elim
def optR {α : Type} (o : Option α) (f : α → Res) : Res := match o with
  | some a => f a
  | none => .bad
@[simp] theorem optR_some {α : Type} (a : α) (f : α → Res) : optR (some a) f = f a := (rfl)
@[simp] theorem optR_none {α : Type} (f : α → Res) : optR (none : Option α) f = .bad := (rfl)
theorem optR_wp {α : Type} {o : Option α} {f : α → Res} {k : Kp} (h : (optR o f).wp k) : ∃ a, o = some a ∧ (f a).wp k := by
  cases o with
  | none => exact h.elim
  | some a => exact ⟨a, rfl, h⟩
/-- one's own list at a slot -/
def ownL (env : Env) (i : Nat) : Option (List PyData) := match env[i]? with
  | some (.ow (.list xs)) => some xs
  | _ => none
theorem ownL_iff {env : Env} {i : Nat} {xs : List PyData} (h : ownL env i = some xs) : env[i]? = some (.ow (.list xs)) := by
  unfold ownL at h
  split at h
  · rename_i e; cases h; exact e
  · cases h
def intAt (env : Env) (i : Nat) : Option Int := match env[i]? with
  | some (.sh (.int z)) => some z
  | _ => none
theorem intAt_iff {env : Env} {i : Nat} {z : Int} (h : intAt env i = some z) : env[i]? = some (.sh (.int z)) := by
  unfold intAt at h
  split at h
  · rename_i e; cases h; exact e
  · cases h
def intO (d : PyData) : Option Int := match d with
  | .int i => some i
  | _ => none
theorem intO_iff {d : PyData} {i : Int} (h : intO d = some i) : d = .int i := by
  cases d <;> simp [intO] at h; subst h; rfl
/-- one's own list or dict at a slot -/
def ownS (env : Env) (i : Nat) (f : List PyData → Res) (g : List (PyData × PyData) → Res) : Res := match env[i]? with
  | some (.ow (.list xs)) => f xs
  | some (.ow (.dict kvs)) => g kvs
  | _ => .bad
theorem ownS_iff {env : Env} {i : Nat} {f : List PyData → Res} {g : List (PyData × PyData) → Res} {k : Kp} (h : (ownS env i f g).wp k) : (∃ xs, env[i]? = some (.ow (.list xs)) ∧ (f xs).wp k) ∨ ∃ kvs, env[i]? = some (.ow (.dict kvs)) ∧ (g kvs).wp k := by
  unfold ownS at h
  split at h
  · rename_i xs e; exact .inl ⟨xs, e, h⟩
  · rename_i xs e; exact .inr ⟨xs, e, h⟩
  · exact h.elim
def lstO (d : PyData) : Option (List PyData) := match d with
  | .list xs => some xs
  | _ => none
theorem lstO_iff {d : PyData} {xs : List PyData} (h : lstO d = some xs) : d = .list xs := by
  cases d <;> simp [lstO] at h; subst h; rfl
/-- one statement, and what is behind it -/
def Res.go (f : Env → Res) : Res → Res
  | .nx e => f e
  | .pk m g => .pk m fun r => (g r).go f
  | .rt fr d => .rt fr d
  | .bk e => .bk e
  | .ct e => .ct e
  | .ex s => .ex s
  | .bad => .bad
theorem go_wp {f : Env → Res} {k : Kp} {x : Res} (h : (x.go f).wp k) : x.wp { k with nx := fun e => (f e).wp k } := by
  induction x with
  | pk m g ih => exact ⟨h.1, fun r hr => ih r (h.2 r hr)⟩
  | _ => exact h
/-- a turn of a loop, and what is behind it -/
def Res.lp (f : Env → Res) : Res → Res
  | .nx e => f e
  | .ct e => f e
  | .bk e => .nx e
  | .pk m g => .pk m fun r => (g r).lp f
  | .rt fr d => .rt fr d
  | .ex s => .ex s
  | .bad => .bad
theorem lp_wp {f : Env → Res} {k : Kp} {x : Res} (h : (x.lp f).wp k) : x.wp { k with nx := fun e => (f e).wp k, ct := fun e => (f e).wp k, bk := k.nx } := by
  induction x with
  | pk m g ih => exact ⟨h.1, fun r hr => ih r (h.2 r hr)⟩
  | _ => exact h
/-- a for loop over known items -/
def forV (step : PyData → Env → Res) : List PyData → Env → Res
  | [], env => .nx env
  | x :: xs, env => (step x env).lp (forV step xs)
theorem forV_ok {step : PyData → Env → Res} {st : PyData → Env → (Env → Prop) → Prop} {k : Kp} (hs : ∀ x env q, (step x env).wp { k with nx := q, ct := q, bk := k.nx } → st x env q) : ∀ (xs : List PyData) (env : Env), (forV step xs env).wp k → foldS st xs env k.nx
  | [], env, h => h
  | x :: xs, env, h => by
    have h' := lp_wp h
    refine hs x env _ ?_
    have e : (fun e => (forV step xs e).wp k) = (fun e => (forV step xs e).wp k) := rfl
    refine Res.wp.imp h' (fun e q => forV_ok hs xs e q) (fun e q => forV_ok hs xs e q) (fun _ q => q) (fun _ _ q => q) (fun _ q => q)
/-- a while loop -/
def whlV (t : Env → Ev (Bool × Env)) (b : Env → Res) : Nat → Env → Res
  | 0, _ => .bad
  | n + 1, env => evk (t env) fun p => match p.1 with
    | false => .nx p.2
    | true => (b p.2).lp (whlV t b n)
def fuel : Nat := 1000000000
theorem whlV_ok {t : Env → Ev (Bool × Env)} {b : Env → Res} {st : Env → (Env → Prop) → (Env → Prop) → Prop} {k : Kp}
    (hs : ∀ env q, (t env).wp (fun p => if p.1 = true then (b p.2).wp { k with nx := q, ct := q, bk := k.nx } else k.nx p.2) k.ex → st env q k.nx) : ∀ (n : Nat) (env : Env), (whlV t b n env).wp k → loopS st n env k.nx
  | 0, env, h => h
  | n + 1, env, h => by
    refine hs env _ ((evk_wp h).imp fun p q => ?_)
    cases e1 : p.1 with
    | false => rw [e1] at q; rw [if_neg Bool.false_ne_true]; exact q
    | true =>
      rw [e1] at q
      rw [if_pos rfl]
      exact Res.wp.imp (lp_wp q) (fun e q => whlV_ok hs n e q) (fun e q => whlV_ok hs n e q) (fun _ q => q) (fun _ _ q => q) (fun _ q => q)
section
variable (F : Nat → FV)
def Exs.evf : Exs → Env → Ev (List Val × Env)
  | .nil, env => .ok ([], env)
  | .cons e r, env => (e.ev F env).bind fun v => (r.evf (aft e.vs v.1 v.2 env)).bind fun p => .ok (v :: p.1, p.2)
/-- a test, and the slots behind it -/
def Ex.tst (e : Ex) (env : Env) : Ev (Bool × Env) := (e.ev F env).bind fun v => tstV v.2 fun c => .ok (c, aft e.vs v.1 v.2 env)
mutual
def Sm.ev : Sm → Env → Res
  | .asg (.nm i) e, env => evk (e.ev F env) fun v => .nx ((aft e.vs v.1 v.2 env).set i (put v.1 v.2))
  | .asg (.tp ts) e, env => evk (e.ev F env) fun v => optR ((Tg.tp ts).bv v.2 (aft e.vs v.1 v.2 env)) .nx
  | .asx t i j, env => optR (slO env i) fun _ => evk (j.ev F env) fun y => optR (slO (aft j.vs y.1 y.2 env) i) fun d => evk (IxV d y.2) fun x => optR (t.bv x.2 (aft j.vs y.1 y.2 env)) .nx
  | .par is es, env => evk (es.evf F env) fun p => gdR (decide (p.1.length = is.length)) (.nx (putAll is p.1 p.2))
  | .aug i o e, env => optR (intAt env i) fun z => evk (e.ev F env) fun v => optR (intO v.2) fun w => evk (augV o z w) fun u => .nx (env.set i (.sh (.int u)))
  | .app i e, env => optR (ownL env i) fun _ => evk (e.ev F env) fun v => optR (ownL (aft e.vs v.1 v.2 env) i) fun xs => gdR (decide (xs.length < lim)) (.nx ((aft e.vs v.1 v.2 env).set i (.ow (.list (xs ++ [v.2])))))
  | .setx i j e, env => evk (e.ev F env) fun v => ownS (aft e.vs v.1 v.2 env) i
      (fun xs => evk (j.ev F (aft e.vs v.1 v.2 env)) fun y => optR (intO y.2) fun z => optR (ixN xs.length z) fun n => .nx ((aft e.vs v.1 v.2 env).set i (.ow (.list (xs.set n v.2)))))
      (fun kvs => evk (j.ev F (aft e.vs v.1 v.2 env)) fun y => gdR (keyPut kvs y.2 && decide (kvs.length < lim)) (.nx ((aft e.vs v.1 v.2 env).set i (.ow (.dict (putD kvs y.2 v.2))))))
  | .ext i e, env => optR (ownL env i) fun _ => evk (e.ev F env) fun v => optR (ownL (aft e.vs v.1 v.2 env) i) fun xs => optR (lstO v.2) fun ys => gdR (leN (xs.length + ys.length) lim) (.nx ((aft e.vs v.1 v.2 env).set i (.ow (.list (xs ++ ys)))))
  | .augx i j o e, env => ownS env i
      (fun xs => evk (j.ev F env) fun y => optR (intO y.2) fun z => optR (ixN xs.length z) fun n => optR (xs[n]?.bind intO) fun c => evk (e.ev F env) fun v => optR (intO v.2) fun w => evk (augV o c w) fun u => .nx (env.set i (.ow (.list (xs.set n (.int u))))))
      (fun kvs => evk (j.ev F env) fun y => optR ((lookD kvs y.2).bind intO) fun c => gdR (keyPut kvs y.2 && decide (kvs.length < lim)) (evk (e.ev F env) fun v => optR (intO v.2) fun w => evk (augV o c w) fun u => .nx (env.set i (.ow (.dict (putD kvs y.2 (.int u)))))))
  | .ite t a b, env => evk (t.tst F env) fun p => match p.1 with
    | true => a.ev p.2
    | false => b.ev p.2
  | .for_ tg it b, env => evk (it.ev F env) fun p => forV (fun x env' => optR (tg.bv x env') b.ev) p.2 (match p.1 with | true => env | false => frz it.vs env)
  | .whl t b, env => whlV (t.tst F) b.ev fuel env
  | .ret (.var i), env => match env[i]? with
    | some (.sh d) => .rt false d
    | some (.ow d) => .rt true d
    | _ => .bad
  | .ret e, env => evk (e.ev F env) fun v => .rt v.1 v.2
  | .retn, _ => .rt false .none
  | .brk, env => .bk env
  | .cnt, env => .ct env
  | .pass, env => .nx env
  | .expr e, env => evk (e.ev F env) fun v => .nx (aft e.vs v.1 v.2 env)
def Sms.ev : Sms → Env → Res
  | .nil, env => .nx env
  | .cons s r, env => (s.ev env).go r.ev
end
/-- what is behind it -/
def Res.thn (x : Res) (r : Sms) : Res := x.go (r.ev F)
@[simp] theorem Res.thn_nx (e : Env) (r : Sms) : (Res.nx e).thn F r = r.ev F e := (rfl)
@[simp] theorem Res.thn_rt (f : Bool) (d : PyData) (r : Sms) : (Res.rt f d).thn F r = .rt f d := (rfl)
@[simp] theorem Res.thn_bk (e : Env) (r : Sms) : (Res.bk e).thn F r = .bk e := (rfl)
@[simp] theorem Res.thn_ct (e : Env) (r : Sms) : (Res.ct e).thn F r = .ct e := (rfl)
@[simp] theorem Res.thn_ex (e : Str) (r : Sms) : (Res.ex e).thn F r = .ex e := (rfl)
@[simp] theorem Res.thn_bad (r : Sms) : (Res.bad).thn F r = .bad := (rfl)
@[simp] theorem Res.thn_pk (m : Int) (g : Int → Res) (r : Sms) : (Res.pk m g).thn F r = .pk m fun i => (g i).thn F r := (rfl)
theorem Sms.ev_cons (s : Sm) (r : Sms) (env : Env) : (Sms.cons s r).ev F env = (s.ev F env).thn F r := by
  simp only [Sms.ev]; rfl
theorem Sms.ev_nil (env : Env) : Sms.nil.ev F env = .nx env := by simp only [Sms.ev]
/-- a def's value -/
def evDef (n np : Nat) (b : Sms) : FV := fun sl => if sl.length = np then
    (b.ev F (sl ++ List.replicate (n - np) .un)).val
  else .bad
end
section
variable {F : Nat → FV} {C : Nat → Fs} (hC : Under F C)
include hC
theorem Exs.ev_okf : ∀ {es : Exs} {E : Str → Prop} {env : Env} {Q : List Val → Env → Prop}, (es.evf F env).wp (fun p => Q p.1 p.2) E → es.rdf C E env Q
  | .nil, E, env, Q, h => by simp only [Exs.evf] at h; simp only [Exs.rdf]; exact h
  | .cons e r, E, env, Q, h => by
    simp only [Exs.evf] at h; simp only [Exs.rdf]
    exact Ex.ev_ok hC (e := e) ((Ev.wp_bind h).imp fun x q => Exs.ev_okf (es := r) ((Ev.wp_bind q).imp fun p q => q))
theorem tst_ok {e : Ex} {E : Str → Prop} {env : Env} {Q : Bool → Env → Prop} (h : (e.tst F env).wp (fun p => Q p.1 p.2) E) : e.rd C E env fun fr d => ∃ c, truth d = some c ∧ Q c (aft e.vs fr d env) :=
  Ex.ev_ok hC (e := e) ((Ev.wp_bind h).imp fun x q => tstV_ok q)
mutual
theorem Sm.ev_ok : ∀ {s : Sm} {env : Env} {k : Kp}, (s.ev F env).wp k → s.rd C env k
  | .asg (.nm i) e, env, k, h => by
    simp only [Sm.ev] at h; simp only [Sm.rd]
    exact Ex.ev_ok hC (evk_wp h)
  | .asg (.tp ts) e, env, k, h => by
    simp only [Sm.ev] at h; simp only [Sm.rd]
    refine Ex.ev_ok hC ((evk_wp h).imp fun v q => ?_)
    obtain ⟨e', e1, q⟩ := optR_wp q
    exact Tg.bv_ok e1 q
  | .asx t i j, env, k, h => by
    simp only [Sm.ev] at h; simp only [Sm.rd]
    obtain ⟨d0, e0, h⟩ := optR_wp h
    refine ⟨by rw [e0]; rfl, Ex.ev_ok hC ((evk_wp h).imp fun y q => ?_)⟩
    obtain ⟨d, e1, q⟩ := optR_wp q
    refine ⟨d, e1, IxV_ok ((evk_wp q).imp fun x q => ?_)⟩
    obtain ⟨e', e2, q⟩ := optR_wp q
    exact Tg.bv_ok e2 q
  | .par is es, env, k, h => by
    simp only [Sm.ev] at h; simp only [Sm.rd]
    refine Exs.ev_okf hC ((evk_wp h).imp fun v q => ?_)
    obtain ⟨c, q⟩ := gdR_wp q
    exact ⟨of_decide_eq_true c, q⟩
  | .aug i o e, env, k, h => by
    simp only [Sm.ev] at h; simp only [Sm.rd]
    obtain ⟨z, e1, h⟩ := optR_wp h
    rw [intAt_iff e1]
    refine Ex.ev_ok hC ((evk_wp h).imp fun v q => ?_)
    obtain ⟨w, e2, q⟩ := optR_wp q
    rw [intO_iff e2]
    exact augV_ok (evk_wp q)
  | .app i e, env, k, h => by
    simp only [Sm.ev] at h; simp only [Sm.rd]
    obtain ⟨z, e1, h⟩ := optR_wp h
    rw [ownL_iff e1]
    refine Ex.ev_ok hC ((evk_wp h).imp fun v q => ?_)
    obtain ⟨xs, e2, q⟩ := optR_wp q
    rw [ownL_iff e2]
    obtain ⟨c, q⟩ := gdR_wp q
    exact ⟨of_decide_eq_true c, q⟩
  | .setx i j e, env, k, h => by
    simp only [Sm.ev] at h; simp only [Sm.rd]
    refine Ex.ev_ok hC ((evk_wp h).imp fun v q => ?_)
    rcases ownS_iff q with ⟨xs, e2, q⟩ | ⟨xs, e2, q⟩
    · rw [e2]
      refine Ex.ev_ok hC ((evk_wp q).imp fun y q => ?_)
      obtain ⟨z, e3, q⟩ := optR_wp q
      rw [intO_iff e3]
      exact optR_wp q
    · rw [e2]
      refine Ex.ev_ok hC ((evk_wp q).imp fun y q => ?_)
      obtain ⟨c, q⟩ := gdR_wp q
      rw [Bool.and_eq_true] at c
      exact ⟨c.1, of_decide_eq_true c.2, q⟩
  | .ext i e, env, k, h => by
    simp only [Sm.ev] at h; simp only [Sm.rd]
    obtain ⟨z, e1, h⟩ := optR_wp h
    rw [ownL_iff e1]
    refine Ex.ev_ok hC ((evk_wp h).imp fun v q => ?_)
    obtain ⟨xs, e2, q⟩ := optR_wp q
    rw [ownL_iff e2]
    obtain ⟨ys, e3, q⟩ := optR_wp q
    rw [show isLst v.2 = isLst (.list ys) from by rw [lstO_iff e3]]
    obtain ⟨c, q⟩ := gdR_wp q
    exact ⟨leN_iff.mp c, q⟩
  | .augx i j o e, env, k, h => by
    simp only [Sm.ev] at h; simp only [Sm.rd]
    rcases ownS_iff h with ⟨xs, e2, q⟩ | ⟨xs, e2, q⟩
    · rw [e2]
      refine Ex.ev_ok hC ((evk_wp q).imp fun y q => ?_)
      obtain ⟨z, e3, q⟩ := optR_wp q
      rw [intO_iff e3]
      obtain ⟨n, e4, q⟩ := optR_wp q
      obtain ⟨c, e5, q⟩ := optR_wp q
      obtain ⟨d, e6, e7⟩ := Option.bind_eq_some_iff.mp e5
      rw [intO_iff e7] at e6
      refine ⟨n, c, e4, e6, Ex.ev_ok hC ((evk_wp q).imp fun v q => ?_)⟩
      obtain ⟨w, e8, q⟩ := optR_wp q
      rw [intO_iff e8]
      exact augV_ok (evk_wp q)
    · rw [e2]
      refine Ex.ev_ok hC ((evk_wp q).imp fun y q => ?_)
      obtain ⟨c, e5, q⟩ := optR_wp q
      obtain ⟨d, e6, e7⟩ := Option.bind_eq_some_iff.mp e5
      rw [intO_iff e7] at e6
      obtain ⟨cc, q⟩ := gdR_wp q
      rw [Bool.and_eq_true] at cc
      refine ⟨cc.1, c, e6, of_decide_eq_true cc.2, Ex.ev_ok hC ((evk_wp q).imp fun v q => ?_)⟩
      obtain ⟨w, e8, q⟩ := optR_wp q
      rw [intO_iff e8]
      exact augV_ok (evk_wp q)
  | .ite t a b, env, k, h => by
    simp only [Sm.ev] at h; simp only [Sm.rd]
    refine tst_ok hC (Q := fun c e' => if c = true then a.rd C e' k else b.rd C e' k) ((evk_wp h).imp fun p q => ?_)
    obtain ⟨c, e'⟩ := p
    cases c with
    | true => rw [if_pos rfl]; exact Sms.ev_ok (b := a) q
    | false => rw [if_neg Bool.false_ne_true]; exact Sms.ev_ok (b := b) q
  | .for_ tg it b, env, k, h => by
    simp only [Sm.ev] at h; simp only [Sm.rd]
    refine It.ev_ok hC ((evk_wp h).imp fun p q => ?_)
    have e : (match p.1 with | true => env | false => frz it.vs env : Env) = if p.1 = true then env else frz it.vs env := by cases p.1 <;> rfl
    rw [e] at q
    refine forV_ok (fun x env' q' w => ?_) _ _ q
    obtain ⟨e2, e1, w⟩ := optR_wp w
    exact Tg.bv_ok e1 (Sms.ev_ok (b := b) w)
  | .whl t b, env, k, h => by
    simp only [Sm.ev] at h; simp only [Sm.rd]
    refine ⟨fuel, whlV_ok (fun env' q w => ?_) _ _ h⟩
    refine tst_ok hC (Q := fun c e' => if c = true then b.rd C e' { k with nx := q, ct := q, bk := k.nx } else k.nx e') (w.imp fun p w => ?_)
    obtain ⟨c, e'⟩ := p
    cases c with
    | true => rw [if_pos rfl] at w ⊢; exact Sms.ev_ok (b := b) w
    | false => rw [if_neg Bool.false_ne_true] at w ⊢; exact w
  | .ret e, env, k, h => by
    cases e with
    | var i =>
      simp only [Sm.ev] at h; simp only [Sm.rd]
      split at h
      · rename_i d e; first | exact h | (rw [e]; exact h)
      · rename_i d e; first | exact h | (rw [e]; exact h)
      · exact h.elim
    | _ =>
      simp only [Sm.ev] at h; simp only [Sm.rd]
      exact Ex.ev_ok hC (evk_wp h)
  | .retn, env, k, h => by simp only [Sm.ev] at h; simp only [Sm.rd]; exact h
  | .brk, env, k, h => by simp only [Sm.ev] at h; simp only [Sm.rd]; exact h
  | .cnt, env, k, h => by simp only [Sm.ev] at h; simp only [Sm.rd]; exact h
  | .pass, env, k, h => by simp only [Sm.ev] at h; simp only [Sm.rd]; exact h
  | .expr e, env, k, h => by
    simp only [Sm.ev] at h; simp only [Sm.rd]
    exact Ex.ev_ok hC (evk_wp h)
theorem Sms.ev_ok : ∀ {b : Sms} {env : Env} {k : Kp}, (b.ev F env).wp k → b.rd C env k
  | .nil, env, k, h => by simp only [Sms.ev] at h; simp only [Sms.rd]; exact h
  | .cons s r, env, k, h => by
    rw [Sms.ev_cons] at h; simp only [Sms.rd]
    exact Sm.ev_ok (s := s) (Res.wp.imp (go_wp h) (fun e q => Sms.ev_ok (b := r) q) (fun _ q => q) (fun _ q => q) (fun _ _ q => q) (fun _ q => q))
end
end
/-- the worth of a def -/
def wOf (f : FV) : Fs := fun sl Q E => (f sl).wp (fun p => Q p.1 p.2) E
theorem ar_of {F : Nat → FV} {n np : Nat} {b : Sms} : ∀ sl Q Ep, wOf (evDef F n np b) sl Q Ep → sl.length = np := by
  intro sl Q Ep h
  unfold wOf evDef at h
  split at h
  · assumption
  · exact h.elim
theorem val_wp {x : Res} {Q : Bool → PyData → Prop} {E : Str → Prop} (h : x.val.wp (fun p => Q p.1 p.2) E) : x.wp { nx := fun _ => Q false .none, rt := Q, ex := E } := by
  induction x with
  | pk m g ih => exact ⟨h.1, fun r hr => ih r (h.2 r hr)⟩
  | bk e => exact h.elim
  | ct e => exact h.elim
  | bad => exact h.elim
  | _ => exact h
theorem rd_of {F : Nat → FV} {C : Nat → Fs} {N : List Str} {np : Nat} {b : Sms} (hC : Under F C) : ∀ sl Q Ep, wOf (evDef F N.length np b) sl Q Ep → b.rd C (envOf N sl) { nx := fun _ => Q false .none, rt := Q, ex := Ep } := by
  intro sl Q Ep h
  unfold wOf evDef at h
  split at h
  · rename_i hl
    unfold envOf
    rw [hl]
    exact Sms.ev_ok hC (val_wp h)
  · exact h.elim
/-- a law's end -/
theorem rd_law_of {F : Nat → FV} {C : Nat → Fs} {b : Sms} {env : Env} (hC : Under F C) (h : (b.ev F env).wp lawKp) : b.rd C env lawKp := Sms.ev_ok hC h
/-- a table of defs -/
def tab : List (Nat × FV) → Nat → FV
  | [], _ => fun _ => .bad
  | (i, f) :: r, j => if i = j then f else tab r j
theorem under_nil {C : Nat → Fs} : Under (tab []) C := fun j sl Q E h => h.elim
theorem under_cons {C : Nat → Fs} {i : Nat} {f : FV} {r : List (Nat × FV)} (h : C i = wOf f) (t : Under (tab r) C) : Under (tab ((i, f) :: r)) C := fun j sl Q E w => by
  unfold tab at w
  split at w
  · rename_i e
    subst e
    rw [h]
    exact w
  · exact t j sl Q E w
/-- a pick -/
def F_pick : FV := fun sl => match sl with
  | [.src, .sh (.int m)] => .pk m fun r => okv (.int r)
  | _ => .bad
theorem under_pick {C : Nat → Fs} {i : Nat} {r : List (Nat × FV)} (h : C i = cPickF) (t : Under (tab r) C) : Under (tab ((i, F_pick) :: r)) C := fun j sl Q E w => by
  unfold tab at w
  split at w
  · rename_i e
    subst e
    rw [h]
    unfold F_pick at w
    split at w
    · rename_i m
      exact ⟨m, rfl, w.1, fun r hr => w.2 r hr⟩
    · exact w.elim
  · exact t j sl Q E w
/-- another worth below it -/
theorem under_imp {C : Nat → Fs} {i : Nat} {f : FV} {r : List (Nat × FV)} (h : ∀ sl Q E, (f sl).wp (fun p => Q p.1 p.2) E → C i sl Q E) (t : Under (tab r) C) : Under (tab ((i, f) :: r)) C := fun j sl Q E w => by
  unfold tab at w
  split at w
  · rename_i e
    subst e
    exact h sl Q E w
  · exact t j sl Q E w
end DL
set_option Elab.async false
set_option linter.all false
set_option maxRecDepth 100000
set_option maxHeartbeats 4000000
/-! E3: equations of the evaluation, loops. -/
namespace DL
open PySem PySem.Spec PyProof.Rows L2
theorem Ex_ev_var {F : Nat → FV} {i env} : Ex.ev F (.var i) env = (slotV env i).bind okv := by rfl
theorem Ex_ev_lit {F : Nat → FV} {d env} : Ex.ev F (.lit d) env = okv d := by rfl
theorem Ex_ev_tup {F : Nat → FV} {es env} : Ex.ev F (.tup es) env = (es.ev F env).bind fun ds => gd (leN ds.length lim) (okv (.tuple ds)) := by rfl
theorem Ex_ev_lst {F : Nat → FV} {es env} : Ex.ev F (.lst es) env = (es.ev F env).bind fun ds => gd (leN ds.length lim) (okn (.list ds)) := by rfl
theorem Ex_ev_bin {F : Nat → FV} {a b o env} : Ex.ev F (.bin o a b) env = (a.ev F env).bind fun x => (b.ev F env).bind fun y => BinV o x.2 y.2 := by rfl
theorem Ex_ev_neg {F : Nat → FV} {a env} : Ex.ev F (.neg a) env = (a.ev F env).bind fun x => intV x.2 fun i => okv (.int (-i)) := by rfl
theorem Ex_ev_cmp {F : Nat → FV} {a b o env} : Ex.ev F (.cmp o a b) env = (a.ev F env).bind fun x => (b.ev F env).bind fun y => (CmpV o x.2 y.2).bind fun c => okv (.bool c) := by rfl
theorem Ex_ev_cmp2 {F : Nat → FV} {a b c o p env} : Ex.ev F (.cmp2 o p a b c) env = (a.ev F env).bind fun x => (b.ev F env).bind fun y => (CmpV o x.2 y.2).bind fun r => cond r ((c.ev F env).bind fun z => (CmpV p y.2 z.2).bind fun r' => okv (.bool r')) (okv (.bool false)) := by rfl
theorem Ex_ev_and_ {F : Nat → FV} {a b env} : Ex.ev F (.and_ a b) env = (a.ev F env).bind fun x => tstV x.2 fun c => cond c (b.ev F env) (.ok x) := by rfl
theorem Ex_ev_or_ {F : Nat → FV} {a b env} : Ex.ev F (.or_ a b) env = (a.ev F env).bind fun x => tstV x.2 fun c => cond c (.ok x) (b.ev F env) := by rfl
theorem Ex_ev_not_ {F : Nat → FV} {a env} : Ex.ev F (.not_ a) env = (a.ev F env).bind fun x => tstV x.2 fun c => okv (.bool !c) := by rfl
theorem Ex_ev_ite {F : Nat → FV} {a b t env} : Ex.ev F (.ite t a b) env = (t.ev F env).bind fun x => tstV x.2 fun c => cond c (a.ev F env) (b.ev F env) := by rfl
theorem Ex_ev_call {F : Nat → FV} {es j env} : Ex.ev F (.call j es) env = (es.eva F env).bind fun sl => F j sl := by rfl
theorem Ex_ev_bi {F : Nat → FV} {b es env} : Ex.ev F (.bi b es) env = (es.ev F env).bind fun ds => BiV b ds := by rfl
theorem Ex_ev_mth {F : Nat → FV} {es m o env} : Ex.ev F (.mth m o es) env = (o.ev F env).bind fun x => gd (mtT m x.2) ((es.ev F env).bind fun ds => MtV m x.2 ds) := by rfl
theorem Ex_ev_ix {F : Nat → FV} {i o env} : Ex.ev F (.ix o i) env = (o.ev F env).bind fun x => (i.ev F env).bind fun y => IxV x.2 y.2 := by rfl
theorem Ex_ev_slc {F : Nat → FV} {hi lo o env} : Ex.ev F (.slc o lo hi) env = (o.ev F env).bind fun x => (lo.ev F env).bind fun l => (hi.ev F env).bind fun h => SlV x.2 l h := by rfl
theorem Ex_ev_isa {F : Nat → FV} {e T env} : Ex.ev F (.isa e T) env = (e.ev F env).bind fun x => okv (.bool (isaD T x.2)) := by rfl
theorem Ex_ev_rev {F : Nat → FV} {o env} : Ex.ev F (.rev o) env = (o.ev F env).bind fun x => revV x.2 := by rfl
theorem Ex_ev_lrng {F : Nat → FV} {e env} : Ex.ev F (.lrng e) env = (e.ev F env).bind fun x => intV x.2 fun n => gd (decide (-(2 ^ 60) ≤ n) && decide (n ≤ 1000000)) (okn (.list (intsD 0 n.toNat))) := by rfl
theorem Ex_ev_sdk {F : Nat → FV} {e env} : Ex.ev F (.sdk e) env = (e.ev F env).bind fun x => lstV x.2 fun xs => (optV (pairKeys xs)).bind fun ks => gd (decide (ks.length < 64)) (okn (.list ((setI ks).map PyData.int))) := by rfl
theorem Ex_ev_star {F : Nat → FV} {a b env} : Ex.ev F (.star a b) env = (a.ev F env).bind fun x => tupV x.2 fun xs => (b.ev F env).bind fun y => gd (leN (xs.length + 1) lim) (okv (.tuple (xs ++ [y.2]))) := by rfl
theorem Ex_ev_dic0 {F : Nat → FV} {env} : Ex.ev F (.dic0) env = okn (.dict []) := by rfl
theorem Ex_ev_comp {F : Nat → FV} {cs e it own tg env} : Ex.ev F (.comp e tg it cs own) env = (it.ev F env).bind fun p => gd (leN p.2.length lim) ((filV (fun x => (optV (tg.bv x (wipeE env own))).bind fun env' => noex ((cs.evt F env').bind fun b => cond b ((e.ev F env').bind fun d => .ok (some d.2)) (.ok none))) p.2).bind fun L => okn (.list L)) := by rfl
theorem Exo_ev_no {F : Nat → FV} {env} : Exo.ev F (.no) env = .ok none := by rfl
theorem Exo_ev_so {F : Nat → FV} {e env} : Exo.ev F (.so e) env = (e.ev F env).bind fun x => intV x.2 fun i => .ok (some i) := by rfl
theorem Exs_ev_nil {F : Nat → FV} {env} : Exs.ev F (.nil) env = .ok [] := by rfl
theorem Exs_ev_cons {F : Nat → FV} {e r env} : Exs.ev F (.cons e r) env = (e.ev F env).bind fun x => (r.ev F env).bind fun ds => .ok (x.2 :: ds) := by rfl
theorem Exs_evt_nil {F : Nat → FV} {env} : Exs.evt F (.nil) env = .ok true := by rfl
theorem Exs_evt_cons {F : Nat → FV} {e r env} : Exs.evt F (.cons e r) env = (e.ev F env).bind fun x => tstV x.2 fun c => cond c (r.evt F env) (.ok false) := by rfl
theorem Ev.bind_assoc {α β γ : Type} (r : Ev α) (f : α → Ev β) (g : β → Ev γ) : (r.bind f).bind g = r.bind fun a => (f a).bind g := by
  induction r with
  | pk m k ih => simp only [Ev.pk_bind, ih]
  | _ => rfl
theorem bind_as {α : Type} {r : Ev Val} {g : Sl → Ev α} : ((r.bind fun x => Ev.ok (.sh x.2)).bind g) = r.bind fun x => g (.sh x.2) := Ev.bind_assoc _ _ _
theorem Exs_eva_nil {F : Nat → FV} {env} : Exs.eva F (.nil) env = .ok [] := by rfl
theorem Exs_eva_var {F : Nat → FV} {i r env} : Exs.eva F (.cons (.var i) r) env = (slotA env i).bind fun s => (r.eva F env).bind fun ds => .ok (s :: ds) := by rfl
theorem Exs_eva_lit {F : Nat → FV} {d rr env} : Exs.eva F (.cons (.lit d) rr) env = (Ex.ev F (.lit d) env).bind fun x => (rr.eva F env).bind fun ds => .ok (.sh x.2 :: ds) := by simp only [Exs.eva, Ex.vr]; exact bind_as
theorem Exs_eva_tup {F : Nat → FV} {es rr env} : Exs.eva F (.cons (.tup es) rr) env = (Ex.ev F (.tup es) env).bind fun x => (rr.eva F env).bind fun ds => .ok (.sh x.2 :: ds) := by simp only [Exs.eva, Ex.vr]; exact bind_as
theorem Exs_eva_lst {F : Nat → FV} {es rr env} : Exs.eva F (.cons (.lst es) rr) env = (Ex.ev F (.lst es) env).bind fun x => (rr.eva F env).bind fun ds => .ok (.sh x.2 :: ds) := by simp only [Exs.eva, Ex.vr]; exact bind_as
theorem Exs_eva_bin {F : Nat → FV} {o a b rr env} : Exs.eva F (.cons (.bin o a b) rr) env = (Ex.ev F (.bin o a b) env).bind fun x => (rr.eva F env).bind fun ds => .ok (.sh x.2 :: ds) := by simp only [Exs.eva, Ex.vr]; exact bind_as
theorem Exs_eva_neg {F : Nat → FV} {a rr env} : Exs.eva F (.cons (.neg a) rr) env = (Ex.ev F (.neg a) env).bind fun x => (rr.eva F env).bind fun ds => .ok (.sh x.2 :: ds) := by simp only [Exs.eva, Ex.vr]; exact bind_as
theorem Exs_eva_cmp {F : Nat → FV} {o a b rr env} : Exs.eva F (.cons (.cmp o a b) rr) env = (Ex.ev F (.cmp o a b) env).bind fun x => (rr.eva F env).bind fun ds => .ok (.sh x.2 :: ds) := by simp only [Exs.eva, Ex.vr]; exact bind_as
theorem Exs_eva_cmp2 {F : Nat → FV} {o p a b c rr env} : Exs.eva F (.cons (.cmp2 o p a b c) rr) env = (Ex.ev F (.cmp2 o p a b c) env).bind fun x => (rr.eva F env).bind fun ds => .ok (.sh x.2 :: ds) := by simp only [Exs.eva, Ex.vr]; exact bind_as
theorem Exs_eva_and_ {F : Nat → FV} {a b rr env} : Exs.eva F (.cons (.and_ a b) rr) env = (Ex.ev F (.and_ a b) env).bind fun x => (rr.eva F env).bind fun ds => .ok (.sh x.2 :: ds) := by simp only [Exs.eva, Ex.vr]; exact bind_as
theorem Exs_eva_or_ {F : Nat → FV} {a b rr env} : Exs.eva F (.cons (.or_ a b) rr) env = (Ex.ev F (.or_ a b) env).bind fun x => (rr.eva F env).bind fun ds => .ok (.sh x.2 :: ds) := by simp only [Exs.eva, Ex.vr]; exact bind_as
theorem Exs_eva_not_ {F : Nat → FV} {a rr env} : Exs.eva F (.cons (.not_ a) rr) env = (Ex.ev F (.not_ a) env).bind fun x => (rr.eva F env).bind fun ds => .ok (.sh x.2 :: ds) := by simp only [Exs.eva, Ex.vr]; exact bind_as
theorem Exs_eva_ite {F : Nat → FV} {t a b rr env} : Exs.eva F (.cons (.ite t a b) rr) env = (Ex.ev F (.ite t a b) env).bind fun x => (rr.eva F env).bind fun ds => .ok (.sh x.2 :: ds) := by simp only [Exs.eva, Ex.vr]; exact bind_as
theorem Exs_eva_call {F : Nat → FV} {j es rr env} : Exs.eva F (.cons (.call j es) rr) env = (Ex.ev F (.call j es) env).bind fun x => (rr.eva F env).bind fun ds => .ok (.sh x.2 :: ds) := by simp only [Exs.eva, Ex.vr]; exact bind_as
theorem Exs_eva_bi {F : Nat → FV} {b es rr env} : Exs.eva F (.cons (.bi b es) rr) env = (Ex.ev F (.bi b es) env).bind fun x => (rr.eva F env).bind fun ds => .ok (.sh x.2 :: ds) := by simp only [Exs.eva, Ex.vr]; exact bind_as
theorem Exs_eva_mth {F : Nat → FV} {m o es rr env} : Exs.eva F (.cons (.mth m o es) rr) env = (Ex.ev F (.mth m o es) env).bind fun x => (rr.eva F env).bind fun ds => .ok (.sh x.2 :: ds) := by simp only [Exs.eva, Ex.vr]; exact bind_as
theorem Exs_eva_ix {F : Nat → FV} {o i rr env} : Exs.eva F (.cons (.ix o i) rr) env = (Ex.ev F (.ix o i) env).bind fun x => (rr.eva F env).bind fun ds => .ok (.sh x.2 :: ds) := by simp only [Exs.eva, Ex.vr]; exact bind_as
theorem Exs_eva_slc {F : Nat → FV} {o lo hi rr env} : Exs.eva F (.cons (.slc o lo hi) rr) env = (Ex.ev F (.slc o lo hi) env).bind fun x => (rr.eva F env).bind fun ds => .ok (.sh x.2 :: ds) := by simp only [Exs.eva, Ex.vr]; exact bind_as
theorem Exs_eva_isa {F : Nat → FV} {e T rr env} : Exs.eva F (.cons (.isa e T) rr) env = (Ex.ev F (.isa e T) env).bind fun x => (rr.eva F env).bind fun ds => .ok (.sh x.2 :: ds) := by simp only [Exs.eva, Ex.vr]; exact bind_as
theorem Exs_eva_rev {F : Nat → FV} {o rr env} : Exs.eva F (.cons (.rev o) rr) env = (Ex.ev F (.rev o) env).bind fun x => (rr.eva F env).bind fun ds => .ok (.sh x.2 :: ds) := by simp only [Exs.eva, Ex.vr]; exact bind_as
theorem Exs_eva_lrng {F : Nat → FV} {e rr env} : Exs.eva F (.cons (.lrng e) rr) env = (Ex.ev F (.lrng e) env).bind fun x => (rr.eva F env).bind fun ds => .ok (.sh x.2 :: ds) := by simp only [Exs.eva, Ex.vr]; exact bind_as
theorem Exs_eva_sdk {F : Nat → FV} {e rr env} : Exs.eva F (.cons (.sdk e) rr) env = (Ex.ev F (.sdk e) env).bind fun x => (rr.eva F env).bind fun ds => .ok (.sh x.2 :: ds) := by simp only [Exs.eva, Ex.vr]; exact bind_as
theorem Exs_eva_star {F : Nat → FV} {a b rr env} : Exs.eva F (.cons (.star a b) rr) env = (Ex.ev F (.star a b) env).bind fun x => (rr.eva F env).bind fun ds => .ok (.sh x.2 :: ds) := by simp only [Exs.eva, Ex.vr]; exact bind_as
theorem Exs_eva_dic0 {F : Nat → FV} { rr env} : Exs.eva F (.cons (.dic0) rr) env = (Ex.ev F (.dic0) env).bind fun x => (rr.eva F env).bind fun ds => .ok (.sh x.2 :: ds) := by simp only [Exs.eva, Ex.vr]; exact bind_as
theorem Exs_eva_comp {F : Nat → FV} {e tg it cs own rr env} : Exs.eva F (.cons (.comp e tg it cs own) rr) env = (Ex.ev F (.comp e tg it cs own) env).bind fun x => (rr.eva F env).bind fun ds => .ok (.sh x.2 :: ds) := by simp only [Exs.eva, Ex.vr]; exact bind_as
theorem It_ev_seq {F : Nat → FV} {e env} : It.ev F (.seq e) env = (e.ev F env).bind fun x => seqV x.2 fun xs => .ok (leafy x.1 x.2, xs) := by rfl
theorem It_ev_range1 {F : Nat → FV} {e env} : It.ev F (.range1 e) env = (e.ev F env).bind fun x => intV x.2 fun n => gd (decide (-(2 ^ 60) ≤ n) && decide (n ≤ 2 ^ 60)) (.ok (true, intsD 0 n.toNat)) := by rfl
theorem It_ev_range2 {F : Nat → FV} {a b env} : It.ev F (.range2 a b) env = (a.ev F env).bind fun x => (b.ev F env).bind fun y => intV x.2 fun m => intV y.2 fun n => gd (decide (-(2 ^ 60) ≤ m) && (decide (m ≤ 2 ^ 60) && (decide (-(2 ^ 60) ≤ n) && decide (n ≤ 2 ^ 60)))) (.ok (true, intsD m (n - m).toNat)) := by rfl
theorem It_ev_rangd {F : Nat → FV} {a b env} : It.ev F (.rangd a b) env = (a.ev F env).bind fun x => (b.ev F env).bind fun y => intV x.2 fun m => intV y.2 fun n => gd (decide (-(2 ^ 60) ≤ m) && (decide (m ≤ 2 ^ 60) && (decide (-(2 ^ 60) ≤ n) && decide (n ≤ 2 ^ 60)))) (.ok (true, downD m (m - n).toNat)) := by rfl
theorem It_ev_enum {F : Nat → FV} {e env} : It.ev F (.enum e) env = (e.ev F env).bind fun x => seqV x.2 fun xs => .ok (false, enumD xs) := by rfl
theorem It_ev_zips {F : Nat → FV} {a b env} : It.ev F (.zips a b) env = (a.ev F env).bind fun x => (b.ev F env).bind fun y => seqV x.2 fun xs => seqV y.2 fun ys => gd (decide (xs.length = ys.length)) (.ok (false, zipD xs ys)) := by rfl
theorem It_ev_zip {F : Nat → FV} {a b env} : It.ev F (.zip a b) env = (a.ev F env).bind fun x => (b.ev F env).bind fun y => twoV x.2 y.2 fun xs ys => .ok (false, zipD xs ys) := by rfl
theorem Exs_evf_nil {F : Nat → FV} {env} : Exs.evf F (.nil) env = .ok ([], env) := by rfl
theorem Exs_evf_cons {F : Nat → FV} {e r env} : Exs.evf F (.cons e r) env = (e.ev F env).bind fun v => (r.evf F (aft e.vs v.1 v.2 env)).bind fun p => .ok (v :: p.1, p.2) := by rfl
theorem Sm_ev_asg_nm {F : Nat → FV} {e i env} : Sm.ev F (.asg (.nm i) e) env = evk (e.ev F env) fun v => .nx ((aft e.vs v.1 v.2 env).set i (put v.1 v.2)) := by rfl
theorem Sm_ev_asg_tp {F : Nat → FV} {e ts env} : Sm.ev F (.asg (.tp ts) e) env = evk (e.ev F env) fun v => optR ((Tg.tp ts).bv v.2 (aft e.vs v.1 v.2 env)) .nx := by rfl
theorem Sm_ev_par {F : Nat → FV} {es is env} : Sm.ev F (.par is es) env = evk (es.evf F env) fun p => gdR (decide (p.1.length = is.length)) (.nx (putAll is p.1 p.2)) := by rfl
theorem Sm_ev_aug {F : Nat → FV} {e i o env} : Sm.ev F (.aug i o e) env = optR (intAt env i) fun z => evk (e.ev F env) fun v => optR (intO v.2) fun w => evk (augV o z w) fun u => .nx (env.set i (.sh (.int u))) := by rfl
theorem Sm_ev_app {F : Nat → FV} {e i env} : Sm.ev F (.app i e) env = optR (ownL env i) fun _ => evk (e.ev F env) fun v => optR (ownL (aft e.vs v.1 v.2 env) i) fun xs => gdR (decide (xs.length < lim)) (.nx ((aft e.vs v.1 v.2 env).set i (.ow (.list (xs ++ [v.2]))))) := by rfl
theorem Sm_ev_setx {F : Nat → FV} {e i j env} : Sm.ev F (.setx i j e) env = evk (e.ev F env) fun v => ownS (aft e.vs v.1 v.2 env) i
      (fun xs => evk (j.ev F (aft e.vs v.1 v.2 env)) fun y => optR (intO y.2) fun z => optR (ixN xs.length z) fun n => .nx ((aft e.vs v.1 v.2 env).set i (.ow (.list (xs.set n v.2)))))
      (fun kvs => evk (j.ev F (aft e.vs v.1 v.2 env)) fun y => gdR (keyPut kvs y.2 && decide (kvs.length < lim)) (.nx ((aft e.vs v.1 v.2 env).set i (.ow (.dict (putD kvs y.2 v.2)))))) := by rfl
theorem Sm_ev_ext {F : Nat → FV} {e i env} : Sm.ev F (.ext i e) env = optR (ownL env i) fun _ => evk (e.ev F env) fun v => optR (ownL (aft e.vs v.1 v.2 env) i) fun xs => optR (lstO v.2) fun ys => gdR (leN (xs.length + ys.length) lim) (.nx ((aft e.vs v.1 v.2 env).set i (.ow (.list (xs ++ ys))))) := by rfl
theorem Sm_ev_asx {F : Nat → FV} {t i j env} : Sm.ev F (.asx t i j) env = optR (slO env i) fun _ => evk (j.ev F env) fun y => optR (slO (aft j.vs y.1 y.2 env) i) fun d => evk (IxV d y.2) fun x => optR (t.bv x.2 (aft j.vs y.1 y.2 env)) .nx := by rfl
theorem slO_sh {d : PyData} {r : Env} : slO (.sh d :: r) 0 = some d := by rfl
theorem slO_ow {d : PyData} {r : Env} : slO (.ow d :: r) 0 = some d := by rfl
theorem slO_succ {s : Sl} {r : Env} {n : Nat} : slO (s :: r) (n + 1) = slO r n := by rfl
theorem Sm_ev_augx {F : Nat → FV} {e i j o env} : Sm.ev F (.augx i j o e) env = ownS env i
      (fun xs => evk (j.ev F env) fun y => optR (intO y.2) fun z => optR (ixN xs.length z) fun n => optR (xs[n]?.bind intO) fun c => evk (e.ev F env) fun v => optR (intO v.2) fun w => evk (augV o c w) fun u => .nx (env.set i (.ow (.list (xs.set n (.int u))))))
      (fun kvs => evk (j.ev F env) fun y => optR ((lookD kvs y.2).bind intO) fun c => gdR (keyPut kvs y.2 && decide (kvs.length < lim)) (evk (e.ev F env) fun v => optR (intO v.2) fun w => evk (augV o c w) fun u => .nx (env.set i (.ow (.dict (putD kvs y.2 (.int u))))))) := by rfl
/-- a branch, not opened before its test is known -/
def Res.cnd (F : Nat → FV) (r : Ev (Bool × Env)) (a b : Sms) : Res := evk r fun p => match p.1 with
  | true => a.ev F p.2
  | false => b.ev F p.2
theorem cnd_t {F : Nat → FV} {e : Env} {a b : Sms} : Res.cnd F (.ok (true, e)) a b = a.ev F e := (rfl)
theorem cnd_f {F : Nat → FV} {e : Env} {a b : Sms} : Res.cnd F (.ok (false, e)) a b = b.ev F e := (rfl)
theorem cnd_ex {F : Nat → FV} {e : Str} {a b : Sms} : Res.cnd F (.ex e) a b = .ex e := (rfl)
theorem cnd_pk {F : Nat → FV} {m g} {a b : Sms} : Res.cnd F (.pk m g) a b = .pk m fun r => Res.cnd F (g r) a b := (rfl)
theorem cnd_of {F : Nat → FV} {r : Ev (Bool × Env)} {a b : Sms} {k : Kp} (h : r.wp (fun p => (Res.cnd F (.ok p) a b).wp k) k.ex) : (Res.cnd F r a b).wp k := by
  induction r with
  | pk m g ih => exact ⟨h.1, fun r hr => ih r (h.2 r hr)⟩
  | _ => exact h
/-- a turn of a loop, not opened before it is made -/
def stepV (F : Nat → FV) (tg : Tg) (b : Sms) (x : PyData) (env : Env) : Res := optR (tg.bv x env) (b.ev F)
theorem stepV_eq {F : Nat → FV} {tg : Tg} {b : Sms} {x : PyData} {env : Env} : stepV F tg b x env = optR (tg.bv x env) (b.ev F) := (rfl)
theorem Sm_ev_ite {F : Nat → FV} {a b t env} : Sm.ev F (.ite t a b) env = Res.cnd F (t.tst F env) a b := by rfl
theorem Sm_ev_for_ {F : Nat → FV} {b it tg env} : Sm.ev F (.for_ tg it b) env = evk (it.ev F env) fun p => forV (stepV F tg b) p.2 (cond p.1 env (frz it.vs env)) := by rfl
theorem Sm_ev_whl {F : Nat → FV} {b t env} : Sm.ev F (.whl t b) env = whlV (t.tst F) (b.ev F) fuel env := by rfl
theorem Sm_ev_retn {F : Nat → FV} {env} : Sm.ev F (.retn) env = .rt false .none := by rfl
theorem Sm_ev_brk {F : Nat → FV} {env} : Sm.ev F (.brk) env = .bk env := by rfl
theorem Sm_ev_cnt {F : Nat → FV} {env} : Sm.ev F (.cnt) env = .ct env := by rfl
theorem Sm_ev_pass {F : Nat → FV} {env} : Sm.ev F (.pass) env = .nx env := by rfl
theorem Sm_ev_expr {F : Nat → FV} {e env} : Sm.ev F (.expr e) env = evk (e.ev F env) fun v => .nx (aft e.vs v.1 v.2 env) := by rfl
theorem Sm_ev_ret_var {F : Nat → FV} {i env} : Sm.ev F (.ret (.var i)) env = match env[i]? with
    | some (.sh d) => .rt false d
    | some (.ow d) => .rt true d
    | _ => .bad := by rfl
theorem Sm_ev_ret_lit {F : Nat → FV} {d env} : Sm.ev F (.ret (.lit d)) env = evk (Ex.ev F (.lit d) env) fun v => .rt v.1 v.2 := by rfl
theorem Sm_ev_ret_tup {F : Nat → FV} {es env} : Sm.ev F (.ret (.tup es)) env = evk (Ex.ev F (.tup es) env) fun v => .rt v.1 v.2 := by rfl
theorem Sm_ev_ret_lst {F : Nat → FV} {es env} : Sm.ev F (.ret (.lst es)) env = evk (Ex.ev F (.lst es) env) fun v => .rt v.1 v.2 := by rfl
theorem Sm_ev_ret_bin {F : Nat → FV} {o a b env} : Sm.ev F (.ret (.bin o a b)) env = evk (Ex.ev F (.bin o a b) env) fun v => .rt v.1 v.2 := by rfl
theorem Sm_ev_ret_neg {F : Nat → FV} {a env} : Sm.ev F (.ret (.neg a)) env = evk (Ex.ev F (.neg a) env) fun v => .rt v.1 v.2 := by rfl
theorem Sm_ev_ret_cmp {F : Nat → FV} {o a b env} : Sm.ev F (.ret (.cmp o a b)) env = evk (Ex.ev F (.cmp o a b) env) fun v => .rt v.1 v.2 := by rfl
theorem Sm_ev_ret_cmp2 {F : Nat → FV} {o p a b c env} : Sm.ev F (.ret (.cmp2 o p a b c)) env = evk (Ex.ev F (.cmp2 o p a b c) env) fun v => .rt v.1 v.2 := by rfl
theorem Sm_ev_ret_and_ {F : Nat → FV} {a b env} : Sm.ev F (.ret (.and_ a b)) env = evk (Ex.ev F (.and_ a b) env) fun v => .rt v.1 v.2 := by rfl
theorem Sm_ev_ret_or_ {F : Nat → FV} {a b env} : Sm.ev F (.ret (.or_ a b)) env = evk (Ex.ev F (.or_ a b) env) fun v => .rt v.1 v.2 := by rfl
theorem Sm_ev_ret_not_ {F : Nat → FV} {a env} : Sm.ev F (.ret (.not_ a)) env = evk (Ex.ev F (.not_ a) env) fun v => .rt v.1 v.2 := by rfl
theorem Sm_ev_ret_ite {F : Nat → FV} {t a b env} : Sm.ev F (.ret (.ite t a b)) env = evk (Ex.ev F (.ite t a b) env) fun v => .rt v.1 v.2 := by rfl
theorem Sm_ev_ret_call {F : Nat → FV} {j es env} : Sm.ev F (.ret (.call j es)) env = evk (Ex.ev F (.call j es) env) fun v => .rt v.1 v.2 := by rfl
theorem Sm_ev_ret_bi {F : Nat → FV} {b es env} : Sm.ev F (.ret (.bi b es)) env = evk (Ex.ev F (.bi b es) env) fun v => .rt v.1 v.2 := by rfl
theorem Sm_ev_ret_mth {F : Nat → FV} {m o es env} : Sm.ev F (.ret (.mth m o es)) env = evk (Ex.ev F (.mth m o es) env) fun v => .rt v.1 v.2 := by rfl
theorem Sm_ev_ret_ix {F : Nat → FV} {o i env} : Sm.ev F (.ret (.ix o i)) env = evk (Ex.ev F (.ix o i) env) fun v => .rt v.1 v.2 := by rfl
theorem Sm_ev_ret_slc {F : Nat → FV} {o lo hi env} : Sm.ev F (.ret (.slc o lo hi)) env = evk (Ex.ev F (.slc o lo hi) env) fun v => .rt v.1 v.2 := by rfl
theorem Sm_ev_ret_isa {F : Nat → FV} {e T env} : Sm.ev F (.ret (.isa e T)) env = evk (Ex.ev F (.isa e T) env) fun v => .rt v.1 v.2 := by rfl
theorem Sm_ev_ret_rev {F : Nat → FV} {o env} : Sm.ev F (.ret (.rev o)) env = evk (Ex.ev F (.rev o) env) fun v => .rt v.1 v.2 := by rfl
theorem Sm_ev_ret_lrng {F : Nat → FV} {e env} : Sm.ev F (.ret (.lrng e)) env = evk (Ex.ev F (.lrng e) env) fun v => .rt v.1 v.2 := by rfl
theorem Sm_ev_ret_sdk {F : Nat → FV} {e env} : Sm.ev F (.ret (.sdk e)) env = evk (Ex.ev F (.sdk e) env) fun v => .rt v.1 v.2 := by rfl
theorem Sm_ev_ret_star {F : Nat → FV} {a b env} : Sm.ev F (.ret (.star a b)) env = evk (Ex.ev F (.star a b) env) fun v => .rt v.1 v.2 := by rfl
theorem Sm_ev_ret_dic0 {F : Nat → FV} { env} : Sm.ev F (.ret (.dic0)) env = evk (Ex.ev F (.dic0) env) fun v => .rt v.1 v.2 := by rfl
theorem Sm_ev_ret_comp {F : Nat → FV} {e tg it cs own env} : Sm.ev F (.ret (.comp e tg it cs own)) env = evk (Ex.ev F (.comp e tg it cs own) env) fun v => .rt v.1 v.2 := by rfl
theorem tab_cons {i j f r} : tab ((i, f) :: r) j = cond (i == j) f (tab r j) := by
  unfold tab
  by_cases h : i = j
  · rw [if_pos h]; subst h; simp
  · rw [if_neg h]
    have : (i == j) = false := by simpa using h
    rw [this]; cases r <;> rfl
/-! ### slots frozen -/
def memN : List Nat → Nat → Bool
  | [], _ => false
  | x :: r, k => (x == k) || memN r k
theorem memN_iff {k : Nat} : ∀ {vs : List Nat}, memN vs k = true ↔ k ∈ vs
  | [] => ⟨fun h => (by cases h), fun h => (by cases h)⟩
  | x :: r => by
    have ih := memN_iff (k := k) (vs := r)
    unfold memN
    rw [Bool.or_eq_true, ih, List.mem_cons, beq_iff_eq]
    exact ⟨fun h => h.imp Eq.symm _root_.id, fun h => h.imp Eq.symm _root_.id⟩
def frzO (vs : List Nat) (k : Nat) : Sl → Sl
  | .ow d => cond (memN vs k) (.sh d) (.ow d)
  | .un => .un
  | .sh d => .sh d
  | .src => .src
def frzL (vs : List Nat) : Nat → Env → Env
  | _, [] => []
  | k, s :: r => frzO vs k s :: frzL vs (k + 1) r
theorem frz1_L (vs : List Nat) (k : Nat) (s : Sl) : frz1 vs k s = frzO vs k s := by
  cases s with
  | ow d =>
    show (if k ∈ vs then Sl.sh d else .ow d) = cond (memN vs k) (.sh d) (.ow d)
    by_cases h : k ∈ vs
    · rw [if_pos h, memN_iff.mpr h]; rfl
    · rw [if_neg h]
      have : memN vs k = false := by
        cases e : memN vs k with
        | false => rfl
        | true => exact absurd (memN_iff.mp e) h
      rw [this]; rfl
  | _ => rfl
theorem frz_eqL (vs : List Nat) : ∀ (env : Env) (k : Nat), env.mapIdx (fun i s => frz1 vs (i + k) s) = frzL vs k env
  | [], k => rfl
  | s :: r, k => by
    rw [List.mapIdx_cons, frzL, ← frz_eqL vs r (k + 1)]
    congr 1
    · rw [Nat.zero_add]; exact frz1_L vs k s
    · congr 1
      funext i s
      congr 1
      omega
theorem aft_eq (vs : List Nat) (fr : Bool) (d : PyData) (env : Env) : aft vs fr d env = cond (leafy fr d) env (frzL vs 0 env) := by
  unfold aft frz
  have := frz_eqL vs env 0
  simp only [Nat.add_zero] at this
  rw [this]
  cases leafy fr d <;> rfl
theorem frz_eq (vs : List Nat) (env : Env) : frz vs env = frzL vs 0 env := by
  unfold frz
  have := frz_eqL vs env 0
  simp only [Nat.add_zero] at this
  exact this
theorem frzL_nil {vs k} : frzL vs k [] = [] := (rfl)
theorem frzL_un {vs k r} : frzL vs k (.un :: r) = .un :: frzL vs (k + 1) r := (rfl)
theorem frzL_sh {vs k d r} : frzL vs k (.sh d :: r) = .sh d :: frzL vs (k + 1) r := (rfl)
theorem frzL_src {vs k r} : frzL vs k (.src :: r) = .src :: frzL vs (k + 1) r := (rfl)
theorem frzL_ow {vs k d r} : frzL vs k (.ow d :: r) = cond (memN vs k) (.sh d) (.ow d) :: frzL vs (k + 1) r := (rfl)
theorem memN_nil {k} : memN [] k = false := (rfl)
theorem memN_cons {x r k} : memN (x :: r) k = ((x == k) || memN r k) := (rfl)
theorem leafy_int {f i} : leafy f (.int i) = true := (rfl)
theorem leafy_bool {f i} : leafy f (.bool i) = true := (rfl)
theorem leafy_str {f i} : leafy f (.str i) = true := (rfl)
theorem leafy_none {f} : leafy f .none = true := (rfl)
theorem leafy_tuple {f xs} : leafy f (.tuple xs) = flats xs := by
  cases f <;> simp [leafy, flat]
theorem leafy_list {f xs} : leafy f (.list xs) = (f && flats xs) := by
  cases f <;> simp [leafy, flat]
theorem leafy_dict {f xs} : leafy f (.dict xs) = false := by
  cases f <;> simp [leafy, flat]
theorem flats_nil : flats [] = true := (rfl)
theorem flats_cons {x xs} : flats (x :: xs) = (flat x && flats xs) := (rfl)
theorem flat_int {i} : flat (.int i) = true := (rfl)
theorem flat_bool {i} : flat (.bool i) = true := (rfl)
theorem flat_str {i} : flat (.str i) = true := (rfl)
theorem flat_none : flat .none = true := (rfl)
theorem flat_tuple {xs} : flat (.tuple xs) = flats xs := (rfl)
theorem flat_list {xs} : flat (.list xs) = false := (rfl)
theorem put_true {d} : put true d = .ow d := (rfl)
theorem put_false {d} : put false d = .sh d := (rfl)
theorem putAll_nil {ps env} : putAll [] ps env = env := (rfl)
theorem putAll_cons {i is p r env} : putAll (i :: is) (p :: r) env = putAll is r (env.set i (put p.1 p.2)) := (rfl)
theorem bv_nm {i d env} : (Tg.nm i).bv d env = some (env.set i (.sh d)) := (rfl)
theorem bv_tp {ts ds env} : (Tg.tp ts).bv (.tuple ds) env = ts.bv ds env := (rfl)
theorem bv_nil {env} : Tgs.nil.bv [] env = some env := (rfl)
theorem bv_cons {t r d ds env} : (Tgs.cons t r).bv (d :: ds) env = (t.bv d env).bind (r.bv ds) := (rfl)
theorem intAt_def {env : Env} {i : Nat} : intAt env i = match env[i]? with
  | some (.sh (.int z)) => some z
  | _ => none := rfl
theorem ownL_def {env : Env} {i : Nat} : ownL env i = match env[i]? with
  | some (.ow (.list xs)) => some xs
  | _ => none := rfl
theorem intO_int {i} : intO (.int i) = some i := (rfl)
theorem slotV_def {env : Env} {i : Nat} : slotV env i = match env[i]? with
  | some (.sh d) => .ok d
  | some (.ow d) => .ok d
  | _ => .bad := rfl
theorem evDef_eq {F : Nat → FV} {n np : Nat} {b : Sms} {ds : List Sl} (h : ds.length = np) : evDef F n np b ds = (b.ev F (ds ++ List.replicate (n - np) .un)).val := by unfold evDef; rw [if_pos h]
theorem val_rt {f d} : (Res.rt f d).val = .ok (f, d) := (rfl)
theorem val_nx {e} : (Res.nx e).val = okv .none := (rfl)
theorem val_ex {s} : (Res.ex s).val = .ex s := (rfl)
/-! ### loops -/
theorem lp_nx {f : Env → Res} {e : Env} : (Res.nx e).lp f = f e := (rfl)
theorem lp_ct {f : Env → Res} {e : Env} : (Res.ct e).lp f = f e := (rfl)
theorem lp_bk {f : Env → Res} {e : Env} : (Res.bk e).lp f = .nx e := (rfl)
theorem lp_rt {f : Env → Res} {b d} : (Res.rt b d).lp f = .rt b d := (rfl)
theorem lp_pk {f : Env → Res} {m g} : (Res.pk m g).lp f = .pk m fun r => (g r).lp f := (rfl)
/-- how a turn without picks ends: on, or out -/
def outR : Res → Option Res
  | .nx _ => none
  | .ct _ => none
  | .pk _ _ => none
  | .bk e => some (.nx e)
  | r => some r
theorem outR_lp {x r : Res} {f : Env → Res} (h : outR x = some r) : x.lp f = r := by
  cases x <;> simp [outR] at h <;> (subst h; rfl)
theorem forV_gen {step : PyData → Env → Res} {R : Res → Prop} : ∀ {xs : List PyData} {env : Env} (I : Nat → Env → Prop), I 0 env →
    (∀ i x e, xs[i]? = some x → I i e → (∃ e', (step x e = .nx e' ∨ step x e = .ct e') ∧ I (i + 1) e') ∨ ∃ r, outR (step x e) = some r ∧ R r) → (∀ e, I xs.length e → R (.nx e)) → R (forV step xs env)
  | [], env, I, h0, hs, he => he _ h0
  | x :: xs, env, I, h0, hs, he => by
    unfold forV
    have rest : ∀ e', I 1 e' → R (forV step xs e') := fun e' h => forV_gen (fun i => I (i + 1)) h (fun i y e hy hi => hs (i + 1) y e (by simpa using hy) hi) (fun e h => he e (by simpa using h))
    rcases hs 0 x env rfl h0 with ⟨e', h | h, hi⟩ | ⟨r, h, hr⟩
    · rw [h]; exact rest e' hi
    · rw [h]; exact rest e' hi
    · rw [outR_lp h]; exact hr
theorem forV_inv {step : PyData → Env → Res} {xs : List PyData} {env : Env} (I : Nat → Env → Prop) (h0 : I 0 env)
    (hs : ∀ i x e, xs[i]? = some x → I i e → ∃ e', (step x e = .nx e' ∨ step x e = .ct e') ∧ I (i + 1) e') : ∃ e', forV step xs env = .nx e' ∧ I xs.length e' :=
  forV_gen (R := fun r => ∃ e', r = .nx e' ∧ I xs.length e') I h0 (fun i x e hx hi => .inl (hs i x e hx hi)) fun e h => ⟨e, rfl, h⟩
/-- a computation of statements used where it stands -/
theorem Res.use {x : Res} {k : Kp} {Φ : Res → Prop} (h : x.wp k) (lin : ∀ m g, smP m → (∀ r, RngP m r → Φ (g r)) → Φ (.pk m g)) (nx : ∀ e, k.nx e → Φ (.nx e)) (rt : ∀ f d, k.rt f d → Φ (.rt f d)) (bk : ∀ e, k.bk e → Φ (.bk e)) (ct : ∀ e, k.ct e → Φ (.ct e)) (ex : ∀ e, k.ex e → Φ (.ex e)) : Φ x := by
  induction x with
  | nx e => exact nx e h
  | ct e => exact ct e h
  | bk e => exact bk e h
  | rt f v => exact rt f v h
  | ex e => exact ex e h
  | bad => exact h.elim
  | pk m g ih => exact lin m g h.1 fun r hr => ih r (h.2 r hr)
/-- a loop with picks: each turn goes on with what is kept -/
theorem forV_wp {step : PyData → Env → Res} {k : Kp} : ∀ {xs : List PyData} {env : Env} (I : Nat → Env → Prop), I 0 env →
    (∀ i x e, xs[i]? = some x → I i e → (step x e).wp { k with nx := I (i + 1), ct := I (i + 1), bk := k.nx }) → (∀ e, I xs.length e → k.nx e) → (forV step xs env).wp k
  | [], env, I, h0, hs, he => he _ h0
  | x :: xs, env, I, h0, hs, he => by
    unfold forV
    have rest : ∀ e', I 1 e' → (forV step xs e').wp k := fun e' h => forV_wp (fun i => I (i + 1)) h (fun i y e hy hi => hs (i + 1) y e (by simpa using hy) hi) (fun e h => he e (by simpa using h))
    exact Res.use (Φ := fun x => (x.lp (forV step xs)).wp k) (hs 0 x env rfl h0) (fun m g a b => ⟨a, b⟩) (fun e h => rest e h) (fun f d h => h) (fun e h => h) (fun e h => rest e h) (fun e h => h)
theorem whlV_gen {σ : Type} {t : Env → Ev (Bool × Env)} {b : Env → Res} {R : Res → Prop} (S : σ → Env → Prop) (μ : σ → Nat) (hs : ∀ s e, S s e → (∃ e', t e = .ok (false, e') ∧ R (.nx e')) ∨ ∃ e', t e = .ok (true, e') ∧ ((∃ s' e2, (b e' = .nx e2 ∨ b e' = .ct e2) ∧ S s' e2 ∧ μ s' < μ s) ∨ ∃ r, outR (b e') = some r ∧ R r)) :
    ∀ (n : Nat) (s : σ) (env : Env), S s env → μ s < n → R (whlV t b n env)
  | 0, s, env, h, hn => by omega
  | n + 1, s, env, h, hn => by
    unfold whlV
    rcases hs s env h with ⟨e', h1, hr⟩ | ⟨e', h1, ⟨s', e2, h2, h3, h4⟩ | ⟨r, h2, hr⟩⟩
    · rw [h1]; exact hr
    · rw [h1]
      rcases h2 with h2 | h2
      · show R ((b e').lp (whlV t b n))
        rw [h2]; exact whlV_gen S μ hs n s' e2 h3 (by omega)
      · show R ((b e').lp (whlV t b n))
        rw [h2]; exact whlV_gen S μ hs n s' e2 h3 (by omega)
    · rw [h1]
      show R ((b e').lp (whlV t b n))
      rw [outR_lp h2]
      exact hr
/-- a while loop that only goes on or ends -/
theorem whlV_inv {σ : Type} {t : Env → Ev (Bool × Env)} {b : Env → Res} (S : σ → Env → Prop) (μ : σ → Nat) (P : Env → Prop) {s : σ} {env : Env} (h0 : S s env) (hμ : μ s < fuel)
    (hs : ∀ s e, S s e → (∃ e', t e = .ok (false, e') ∧ P e') ∨ ∃ e' s' e2, t e = .ok (true, e') ∧ (b e' = .nx e2 ∨ b e' = .ct e2) ∧ S s' e2 ∧ μ s' < μ s) : ∃ e', whlV t b fuel env = .nx e' ∧ P e' :=
  whlV_gen (R := fun r => ∃ e', r = .nx e' ∧ P e') S μ (fun s e h => by
    rcases hs s e h with ⟨e', h1, h2⟩ | ⟨e', s', e2, h1, h2, h3, h4⟩
    · exact .inl ⟨e', h1, e', rfl, h2⟩
    · exact .inr ⟨e', h1, .inl ⟨s', e2, h2, h3, h4⟩⟩) fuel s env h0 hμ
theorem wp_nx {e : Env} {k : Kp} : (Res.nx e).wp k = k.nx e := (rfl)
theorem wp_rt {f d} {k : Kp} : (Res.rt f d).wp k = k.rt f d := (rfl)
theorem wp_ct {e : Env} {k : Kp} : (Res.ct e).wp k = k.ct e := (rfl)
theorem wp_bk {e : Env} {k : Kp} : (Res.bk e).wp k = k.bk e := (rfl)
theorem wp_pk {m g} {k : Kp} : (Res.pk m g).wp k = (smP m ∧ ∀ r, RngP m r → (g r).wp k) := (rfl)
theorem Ev.wp_ok {α : Type} {a : α} {Q : α → Prop} {E : Str → Prop} : (Ev.ok a).wp Q E = Q a := (rfl)
theorem Ev.wp_pk {α : Type} {m} {g : Int → Ev α} {Q : α → Prop} {E : Str → Prop} : (Ev.pk m g).wp Q E = (smP m ∧ ∀ r, RngP m r → (g r).wp Q E) := (rfl)
theorem val_pk {m g} : (Res.pk m g).val = .pk m fun r => (g r).val := (rfl)
theorem F_pick_eq {m : Int} : F_pick [.src, .sh (.int m)] = .pk m fun r => .ok (false, .int r) := (rfl)
/-- a def with picks is worth what its statements are -/
theorem val_of {x : Res} {Q : Val → Prop} {E : Str → Prop} (h : x.wp { nx := fun _ => Q (false, .none), rt := fun f d => Q (f, d), ex := E }) : x.val.wp Q E := by
  induction x with
  | pk m g ih => exact ⟨h.1, fun r hr => ih r (h.2 r hr)⟩
  | bk e => exact h.elim
  | ct e => exact h.elim
  | bad => exact h.elim
  | _ => exact h
/-- a comprehension with picks: each turn gives what is kept -/
theorem filV_wp {f : PyData → Ev (Option PyData)} {Q : List PyData → Prop} {E : Str → Prop} : ∀ {xs : List PyData} (I : Nat → List PyData → Prop), (∀ i x acc, xs[i]? = some x → I i acc → (f x).wp (fun o => I (i + 1) (acc ++ o.toList)) E) → ∀ {acc : List PyData}, I 0 acc → (∀ L, I xs.length (acc ++ L) → Q L) → (filV f xs).wp Q E
  | [], I, hs, acc, h0, hq => hq [] (by simpa using h0)
  | x :: xs, I, hs, acc, h0, hq => by
    unfold filV
    have h1 := hs 0 x acc rfl h0
    have rest : ∀ (o : Option PyData), I 1 (acc ++ o.toList) → ((filV f xs).bind fun r => Ev.ok (match o with | some d => d :: r | none => r)).wp Q E := fun o ho => by
      have h2 : (filV f xs).wp (fun L => Q (o.toList ++ L)) E := filV_wp (fun i => I (i + 1)) (fun i y a hy hi => hs (i + 1) y a (by simpa using hy) hi) (acc := acc ++ o.toList) ho fun L hL => hq _ (by simpa using hL)
      clear hs h1 ho
      generalize filV f xs = r at h2 ⊢
      induction r with
      | ok L => cases o <;> exact h2
      | ex s => exact h2
      | bad => exact h2
      | pk m g ih => exact ⟨h2.1, fun r hr => ih r (h2.2 r hr)⟩
    clear hs
    generalize f x = r at h1 ⊢
    induction r with
    | ok o => exact rest o h1
    | ex s => exact h1
    | bad => exact h1
    | pk m g ih => exact ⟨h1.1, fun r hr => ih r (h1.2 r hr)⟩
/-! ### comprehensions over known lists -/
theorem filV_map {α : Type} {f : PyData → Ev (Option PyData)} {em : α → PyData} (g : α → PyData) : ∀ {xs : List α}, (∀ x ∈ xs, f (em x) = .ok (some (g x))) → filV f (xs.map em) = .ok (xs.map g)
  | [], h => rfl
  | x :: xs, h => by
    rw [List.map_cons, filV, h x (List.mem_cons_self ..), Ev.ok_bind, filV_map g (fun y hy => h y (List.mem_cons_of_mem _ hy))]
    rfl
theorem filV_filter {α : Type} {f : PyData → Ev (Option PyData)} {em : α → PyData} (t : α → Bool) (g : α → PyData) : ∀ {xs : List α}, (∀ x ∈ xs, f (em x) = .ok (cond (t x) (some (g x)) none)) → filV f (xs.map em) = .ok ((xs.filter t).map g)
  | [], h => rfl
  | x :: xs, h => by
    rw [List.map_cons, filV, h x (List.mem_cons_self ..), Ev.ok_bind, filV_filter t g (fun y hy => h y (List.mem_cons_of_mem _ hy)), List.filter_cons]
    cases t x <;> rfl
theorem filV_gen {f : PyData → Ev (Option PyData)} (g : PyData → Option PyData) : ∀ {xs : List PyData}, (∀ x ∈ xs, f x = .ok (g x)) → filV f xs = .ok (xs.filterMap g)
  | [], h => rfl
  | x :: xs, h => by
    rw [filV, h x (List.mem_cons_self ..), Ev.ok_bind, filV_gen g (fun y hy => h y (List.mem_cons_of_mem _ hy)), List.filterMap_cons]
    cases g x <;> rfl
theorem zipD_map {α β : Type} (f : α → PyData) (g : β → PyData) (xs : List α) (ys : List β) : zipD (xs.map f) (ys.map g) = (xs.zip ys).map fun p => .tuple [f p.1, g p.2] := by
  unfold zipD
  induction xs generalizing ys with
  | nil => rfl
  | cons x xs ih =>
    cases ys with
    | nil => rfl
    | cons y ys => simp only [List.map_cons, List.zipWith_cons_cons, List.zip_cons_cons, ih]
theorem enumD_map {α : Type} (f : α → PyData) (xs : List α) : enumD (xs.map f) = xs.zipIdx.map fun p => .tuple [.int (p.2 : Nat), f p.1] := by
  unfold enumD
  rw [List.zipIdx_map, List.map_map]
  rfl
end DL
set_option Elab.async false
set_option linter.all false
set_option maxRecDepth 100000
set_option maxHeartbeats 4000000
/-! E4: the evaluator's operations at known forms. -/
namespace DL
open PySem PySem.Spec PyProof.Rows L2
/-- a slot given back -/
def retS (env : Env) (i : Nat) : Res := match env[i]? with
    | some (.sh d) => .rt false d
    | some (.ow d) => .rt true d
    | _ => .bad
theorem Sm_ev_ret_v {F : Nat → FV} {i env} : Sm.ev F (.ret (.var i)) env = retS env i := by rfl
theorem binV_addI {i j : Int} : BinV .add (.int i) (.int j) = .ok (false, .int (i + j)) := by rfl
theorem binV_addS {x y : Str} : BinV .add (.str x) (.str y) = gd (leN (x.length + y.length) lim) (.ok (false, .str (x ++ y))) := by rfl
theorem binV_addL {xs ys : List PyData} : BinV .add (.list xs) (.list ys) = gd (leN (xs.length + ys.length) lim) (.ok (true, .list (xs ++ ys))) := by rfl
theorem binV_addT {xs ys : List PyData} : BinV .add (.tuple xs) (.tuple ys) = gd (leN (xs.length + ys.length) lim) (.ok (false, .tuple (xs ++ ys))) := by rfl
theorem binV_subI {i j : Int} : BinV .sub (.int i) (.int j) = .ok (false, .int (i - j)) := by rfl
theorem binV_mulI {i j : Int} : BinV .mul (.int i) (.int j) = gd (mulOk i j) (.ok (false, .int (i * j))) := by rfl
theorem binV_mulT {xs : List PyData} {k : Int} : BinV .mul (.tuple xs) (.int k) = gd (!xs.isEmpty && (decide (0 ≤ k) && (decide (k ≤ 1000) && leN xs.length 1000))) (.ok (false, .tuple (List.replicate k.toNat xs).flatten)) := by rfl
theorem binV_mulL {xs : List PyData} {k : Int} : BinV .mul (.list xs) (.int k) = gd (decide (-(2 ^ 62) ≤ k) && (decide (k ≤ 2 ^ 62) && leN (xs.length * k.toNat) lim)) (.ok (true, .list (List.replicate k.toNat xs).flatten)) := by rfl
theorem binV_fdivI {i j : Int} : BinV .fdiv (.int i) (.int j) = gd (divOk j) (.ok (false, .int (i / j))) := by rfl
theorem binV_modI {i j : Int} : BinV .mod (.int i) (.int j) = gd (decide (0 < j)) (.ok (false, .int (i % j))) := by rfl
theorem binV_powI {i j : Int} : BinV .pow (.int i) (.int j) = gd (powOk i j) (.ok (false, .int (i ^ j.toNat))) := by rfl
theorem binV_shlI {i j : Int} : BinV .shl (.int i) (.int j) = gd (shlOk i j) (.ok (false, .int (i * 2 ^ j.toNat))) := by rfl
theorem binV_shrI {i j : Int} : BinV .shr (.int i) (.int j) = gd (decide (0 ≤ j)) (.ok (false, .int (i / 2 ^ j.toNat))) := by rfl
theorem binV_bandI {i j : Int} : BinV .band (.int i) (.int j) = .ok (false, .int (Builtin.bitAnd i j)) := by rfl
theorem binV_borI {i j : Int} : BinV .bor (.int i) (.int j) = .ok (false, .int (Builtin.bitOr i j)) := by rfl
theorem binV_bxorI {i j : Int} : BinV .bxor (.int i) (.int j) = .ok (false, .int (Builtin.bitXor i j)) := by rfl
theorem augV_add {i j : Int} : augV .add i j = .ok (i + j) := by rfl
theorem augV_sub {i j : Int} : augV .sub i j = .ok (i - j) := by rfl
theorem augV_band {i j : Int} : augV .band i j = .ok (Builtin.bitAnd i j) := by rfl
theorem augV_bor {i j : Int} : augV .bor i j = .ok (Builtin.bitOr i j) := by rfl
theorem augV_bxor {i j : Int} : augV .bxor i j = .ok (Builtin.bitXor i j) := by rfl
theorem augV_mul {i j : Int} : augV .mul i j = gd (mulS i j) (.ok (i * j)) := by rfl
theorem augV_fdiv {i j : Int} : augV .fdiv i j = gd (divOk j) (.ok (i / j)) := by rfl
theorem augV_mod {i j : Int} : augV .mod i j = gd (decide (0 < j)) (.ok (i % j)) := by rfl
theorem augV_shl {i j : Int} : augV .shl i j = gd (shlOk i j) (.ok (i * 2 ^ j.toNat)) := by rfl
theorem augV_shr {i j : Int} : augV .shr i j = gd (decide (0 ≤ j)) (.ok (i / 2 ^ j.toNat)) := by rfl
theorem cmpV_eqI {i j : Int} : CmpV .eq (.int i) (.int j) = .ok (i == j) := by rfl
theorem cmpV_neI {i j : Int} : CmpV .ne (.int i) (.int j) = .ok (!(i == j)) := by rfl
theorem cmpV_lt {i j : Int} : CmpV .lt (.int i) (.int j) = .ok (decide (i < j)) := by rfl
theorem cmpV_le {i j : Int} : CmpV .le (.int i) (.int j) = .ok (decide (i ≤ j)) := by rfl
theorem cmpV_gt {i j : Int} : CmpV .gt (.int i) (.int j) = .ok (decide (j < i)) := by rfl
theorem cmpV_ge {i j : Int} : CmpV .ge (.int i) (.int j) = .ok (decide (j ≤ i)) := by rfl
theorem cmpV_eqIS {i : Int} {x2 : Str} : CmpV .eq (.int i) (.str x2) = gd (SeqAt.shaped (.int i) && SeqAt.shaped (.str x2)) (.ok (PyData.eqv (.int i) (.str x2))) := by rfl
theorem cmpV_neIS {i : Int} {x2 : Str} : CmpV .ne (.int i) (.str x2) = gd (SeqAt.shaped (.int i) && SeqAt.shaped (.str x2)) (.ok (!PyData.eqv (.int i) (.str x2))) := by rfl
theorem cmpV_eqIB {i : Int} {b2 : Bool} : CmpV .eq (.int i) (.bool b2) = gd (SeqAt.shaped (.int i) && SeqAt.shaped (.bool b2)) (.ok (PyData.eqv (.int i) (.bool b2))) := by rfl
theorem cmpV_neIB {i : Int} {b2 : Bool} : CmpV .ne (.int i) (.bool b2) = gd (SeqAt.shaped (.int i) && SeqAt.shaped (.bool b2)) (.ok (!PyData.eqv (.int i) (.bool b2))) := by rfl
theorem cmpV_eqIN {i : Int}  : CmpV .eq (.int i) .none = gd (SeqAt.shaped (.int i) && SeqAt.shaped .none) (.ok (PyData.eqv (.int i) .none)) := by rfl
theorem cmpV_neIN {i : Int}  : CmpV .ne (.int i) .none = gd (SeqAt.shaped (.int i) && SeqAt.shaped .none) (.ok (!PyData.eqv (.int i) .none)) := by rfl
theorem cmpV_eqIL {i : Int} {xs2 : List PyData} : CmpV .eq (.int i) (.list xs2) = gd (SeqAt.shaped (.int i) && SeqAt.shaped (.list xs2)) (.ok (PyData.eqv (.int i) (.list xs2))) := by rfl
theorem cmpV_neIL {i : Int} {xs2 : List PyData} : CmpV .ne (.int i) (.list xs2) = gd (SeqAt.shaped (.int i) && SeqAt.shaped (.list xs2)) (.ok (!PyData.eqv (.int i) (.list xs2))) := by rfl
theorem cmpV_eqIT {i : Int} {xs2 : List PyData} : CmpV .eq (.int i) (.tuple xs2) = gd (SeqAt.shaped (.int i) && SeqAt.shaped (.tuple xs2)) (.ok (PyData.eqv (.int i) (.tuple xs2))) := by rfl
theorem cmpV_neIT {i : Int} {xs2 : List PyData} : CmpV .ne (.int i) (.tuple xs2) = gd (SeqAt.shaped (.int i) && SeqAt.shaped (.tuple xs2)) (.ok (!PyData.eqv (.int i) (.tuple xs2))) := by rfl
theorem cmpV_eqID {i : Int} {ks2 : List (PyData × PyData)} : CmpV .eq (.int i) (.dict ks2) = gd (SeqAt.shaped (.int i) && SeqAt.shaped (.dict ks2)) (.ok (PyData.eqv (.int i) (.dict ks2))) := by rfl
theorem cmpV_neID {i : Int} {ks2 : List (PyData × PyData)} : CmpV .ne (.int i) (.dict ks2) = gd (SeqAt.shaped (.int i) && SeqAt.shaped (.dict ks2)) (.ok (!PyData.eqv (.int i) (.dict ks2))) := by rfl
theorem cmpV_eqSI {x : Str} {i2 : Int} : CmpV .eq (.str x) (.int i2) = gd (SeqAt.shaped (.str x) && SeqAt.shaped (.int i2)) (.ok (PyData.eqv (.str x) (.int i2))) := by rfl
theorem cmpV_neSI {x : Str} {i2 : Int} : CmpV .ne (.str x) (.int i2) = gd (SeqAt.shaped (.str x) && SeqAt.shaped (.int i2)) (.ok (!PyData.eqv (.str x) (.int i2))) := by rfl
theorem cmpV_eqSS {x : Str} {x2 : Str} : CmpV .eq (.str x) (.str x2) = gd (SeqAt.shaped (.str x) && SeqAt.shaped (.str x2)) (.ok (PyData.eqv (.str x) (.str x2))) := by rfl
theorem cmpV_neSS {x : Str} {x2 : Str} : CmpV .ne (.str x) (.str x2) = gd (SeqAt.shaped (.str x) && SeqAt.shaped (.str x2)) (.ok (!PyData.eqv (.str x) (.str x2))) := by rfl
theorem cmpV_eqSB {x : Str} {b2 : Bool} : CmpV .eq (.str x) (.bool b2) = gd (SeqAt.shaped (.str x) && SeqAt.shaped (.bool b2)) (.ok (PyData.eqv (.str x) (.bool b2))) := by rfl
theorem cmpV_neSB {x : Str} {b2 : Bool} : CmpV .ne (.str x) (.bool b2) = gd (SeqAt.shaped (.str x) && SeqAt.shaped (.bool b2)) (.ok (!PyData.eqv (.str x) (.bool b2))) := by rfl
theorem cmpV_eqSN {x : Str}  : CmpV .eq (.str x) .none = gd (SeqAt.shaped (.str x) && SeqAt.shaped .none) (.ok (PyData.eqv (.str x) .none)) := by rfl
theorem cmpV_neSN {x : Str}  : CmpV .ne (.str x) .none = gd (SeqAt.shaped (.str x) && SeqAt.shaped .none) (.ok (!PyData.eqv (.str x) .none)) := by rfl
theorem cmpV_eqSL {x : Str} {xs2 : List PyData} : CmpV .eq (.str x) (.list xs2) = gd (SeqAt.shaped (.str x) && SeqAt.shaped (.list xs2)) (.ok (PyData.eqv (.str x) (.list xs2))) := by rfl
theorem cmpV_neSL {x : Str} {xs2 : List PyData} : CmpV .ne (.str x) (.list xs2) = gd (SeqAt.shaped (.str x) && SeqAt.shaped (.list xs2)) (.ok (!PyData.eqv (.str x) (.list xs2))) := by rfl
theorem cmpV_eqST {x : Str} {xs2 : List PyData} : CmpV .eq (.str x) (.tuple xs2) = gd (SeqAt.shaped (.str x) && SeqAt.shaped (.tuple xs2)) (.ok (PyData.eqv (.str x) (.tuple xs2))) := by rfl
theorem cmpV_neST {x : Str} {xs2 : List PyData} : CmpV .ne (.str x) (.tuple xs2) = gd (SeqAt.shaped (.str x) && SeqAt.shaped (.tuple xs2)) (.ok (!PyData.eqv (.str x) (.tuple xs2))) := by rfl
theorem cmpV_eqSD {x : Str} {ks2 : List (PyData × PyData)} : CmpV .eq (.str x) (.dict ks2) = gd (SeqAt.shaped (.str x) && SeqAt.shaped (.dict ks2)) (.ok (PyData.eqv (.str x) (.dict ks2))) := by rfl
theorem cmpV_neSD {x : Str} {ks2 : List (PyData × PyData)} : CmpV .ne (.str x) (.dict ks2) = gd (SeqAt.shaped (.str x) && SeqAt.shaped (.dict ks2)) (.ok (!PyData.eqv (.str x) (.dict ks2))) := by rfl
theorem cmpV_eqBI {b : Bool} {i2 : Int} : CmpV .eq (.bool b) (.int i2) = gd (SeqAt.shaped (.bool b) && SeqAt.shaped (.int i2)) (.ok (PyData.eqv (.bool b) (.int i2))) := by rfl
theorem cmpV_neBI {b : Bool} {i2 : Int} : CmpV .ne (.bool b) (.int i2) = gd (SeqAt.shaped (.bool b) && SeqAt.shaped (.int i2)) (.ok (!PyData.eqv (.bool b) (.int i2))) := by rfl
theorem cmpV_eqBS {b : Bool} {x2 : Str} : CmpV .eq (.bool b) (.str x2) = gd (SeqAt.shaped (.bool b) && SeqAt.shaped (.str x2)) (.ok (PyData.eqv (.bool b) (.str x2))) := by rfl
theorem cmpV_neBS {b : Bool} {x2 : Str} : CmpV .ne (.bool b) (.str x2) = gd (SeqAt.shaped (.bool b) && SeqAt.shaped (.str x2)) (.ok (!PyData.eqv (.bool b) (.str x2))) := by rfl
theorem cmpV_eqBB {b : Bool} {b2 : Bool} : CmpV .eq (.bool b) (.bool b2) = gd (SeqAt.shaped (.bool b) && SeqAt.shaped (.bool b2)) (.ok (PyData.eqv (.bool b) (.bool b2))) := by rfl
theorem cmpV_neBB {b : Bool} {b2 : Bool} : CmpV .ne (.bool b) (.bool b2) = gd (SeqAt.shaped (.bool b) && SeqAt.shaped (.bool b2)) (.ok (!PyData.eqv (.bool b) (.bool b2))) := by rfl
theorem cmpV_eqBN {b : Bool}  : CmpV .eq (.bool b) .none = gd (SeqAt.shaped (.bool b) && SeqAt.shaped .none) (.ok (PyData.eqv (.bool b) .none)) := by rfl
theorem cmpV_neBN {b : Bool}  : CmpV .ne (.bool b) .none = gd (SeqAt.shaped (.bool b) && SeqAt.shaped .none) (.ok (!PyData.eqv (.bool b) .none)) := by rfl
theorem cmpV_eqBL {b : Bool} {xs2 : List PyData} : CmpV .eq (.bool b) (.list xs2) = gd (SeqAt.shaped (.bool b) && SeqAt.shaped (.list xs2)) (.ok (PyData.eqv (.bool b) (.list xs2))) := by rfl
theorem cmpV_neBL {b : Bool} {xs2 : List PyData} : CmpV .ne (.bool b) (.list xs2) = gd (SeqAt.shaped (.bool b) && SeqAt.shaped (.list xs2)) (.ok (!PyData.eqv (.bool b) (.list xs2))) := by rfl
theorem cmpV_eqBT {b : Bool} {xs2 : List PyData} : CmpV .eq (.bool b) (.tuple xs2) = gd (SeqAt.shaped (.bool b) && SeqAt.shaped (.tuple xs2)) (.ok (PyData.eqv (.bool b) (.tuple xs2))) := by rfl
theorem cmpV_neBT {b : Bool} {xs2 : List PyData} : CmpV .ne (.bool b) (.tuple xs2) = gd (SeqAt.shaped (.bool b) && SeqAt.shaped (.tuple xs2)) (.ok (!PyData.eqv (.bool b) (.tuple xs2))) := by rfl
theorem cmpV_eqBD {b : Bool} {ks2 : List (PyData × PyData)} : CmpV .eq (.bool b) (.dict ks2) = gd (SeqAt.shaped (.bool b) && SeqAt.shaped (.dict ks2)) (.ok (PyData.eqv (.bool b) (.dict ks2))) := by rfl
theorem cmpV_neBD {b : Bool} {ks2 : List (PyData × PyData)} : CmpV .ne (.bool b) (.dict ks2) = gd (SeqAt.shaped (.bool b) && SeqAt.shaped (.dict ks2)) (.ok (!PyData.eqv (.bool b) (.dict ks2))) := by rfl
theorem cmpV_eqNI  {i2 : Int} : CmpV .eq .none (.int i2) = gd (SeqAt.shaped .none && SeqAt.shaped (.int i2)) (.ok (PyData.eqv .none (.int i2))) := by rfl
theorem cmpV_neNI  {i2 : Int} : CmpV .ne .none (.int i2) = gd (SeqAt.shaped .none && SeqAt.shaped (.int i2)) (.ok (!PyData.eqv .none (.int i2))) := by rfl
theorem cmpV_eqNS  {x2 : Str} : CmpV .eq .none (.str x2) = gd (SeqAt.shaped .none && SeqAt.shaped (.str x2)) (.ok (PyData.eqv .none (.str x2))) := by rfl
theorem cmpV_neNS  {x2 : Str} : CmpV .ne .none (.str x2) = gd (SeqAt.shaped .none && SeqAt.shaped (.str x2)) (.ok (!PyData.eqv .none (.str x2))) := by rfl
theorem cmpV_eqNB  {b2 : Bool} : CmpV .eq .none (.bool b2) = gd (SeqAt.shaped .none && SeqAt.shaped (.bool b2)) (.ok (PyData.eqv .none (.bool b2))) := by rfl
theorem cmpV_neNB  {b2 : Bool} : CmpV .ne .none (.bool b2) = gd (SeqAt.shaped .none && SeqAt.shaped (.bool b2)) (.ok (!PyData.eqv .none (.bool b2))) := by rfl
theorem cmpV_eqNN   : CmpV .eq .none .none = gd (SeqAt.shaped .none && SeqAt.shaped .none) (.ok (PyData.eqv .none .none)) := by rfl
theorem cmpV_neNN   : CmpV .ne .none .none = gd (SeqAt.shaped .none && SeqAt.shaped .none) (.ok (!PyData.eqv .none .none)) := by rfl
theorem cmpV_eqNL  {xs2 : List PyData} : CmpV .eq .none (.list xs2) = gd (SeqAt.shaped .none && SeqAt.shaped (.list xs2)) (.ok (PyData.eqv .none (.list xs2))) := by rfl
theorem cmpV_neNL  {xs2 : List PyData} : CmpV .ne .none (.list xs2) = gd (SeqAt.shaped .none && SeqAt.shaped (.list xs2)) (.ok (!PyData.eqv .none (.list xs2))) := by rfl
theorem cmpV_eqNT  {xs2 : List PyData} : CmpV .eq .none (.tuple xs2) = gd (SeqAt.shaped .none && SeqAt.shaped (.tuple xs2)) (.ok (PyData.eqv .none (.tuple xs2))) := by rfl
theorem cmpV_neNT  {xs2 : List PyData} : CmpV .ne .none (.tuple xs2) = gd (SeqAt.shaped .none && SeqAt.shaped (.tuple xs2)) (.ok (!PyData.eqv .none (.tuple xs2))) := by rfl
theorem cmpV_eqND  {ks2 : List (PyData × PyData)} : CmpV .eq .none (.dict ks2) = gd (SeqAt.shaped .none && SeqAt.shaped (.dict ks2)) (.ok (PyData.eqv .none (.dict ks2))) := by rfl
theorem cmpV_neND  {ks2 : List (PyData × PyData)} : CmpV .ne .none (.dict ks2) = gd (SeqAt.shaped .none && SeqAt.shaped (.dict ks2)) (.ok (!PyData.eqv .none (.dict ks2))) := by rfl
theorem cmpV_eqLI {xs : List PyData} {i2 : Int} : CmpV .eq (.list xs) (.int i2) = gd (SeqAt.shaped (.list xs) && SeqAt.shaped (.int i2)) (.ok (PyData.eqv (.list xs) (.int i2))) := by rfl
theorem cmpV_neLI {xs : List PyData} {i2 : Int} : CmpV .ne (.list xs) (.int i2) = gd (SeqAt.shaped (.list xs) && SeqAt.shaped (.int i2)) (.ok (!PyData.eqv (.list xs) (.int i2))) := by rfl
theorem cmpV_eqLS {xs : List PyData} {x2 : Str} : CmpV .eq (.list xs) (.str x2) = gd (SeqAt.shaped (.list xs) && SeqAt.shaped (.str x2)) (.ok (PyData.eqv (.list xs) (.str x2))) := by rfl
theorem cmpV_neLS {xs : List PyData} {x2 : Str} : CmpV .ne (.list xs) (.str x2) = gd (SeqAt.shaped (.list xs) && SeqAt.shaped (.str x2)) (.ok (!PyData.eqv (.list xs) (.str x2))) := by rfl
theorem cmpV_eqLB {xs : List PyData} {b2 : Bool} : CmpV .eq (.list xs) (.bool b2) = gd (SeqAt.shaped (.list xs) && SeqAt.shaped (.bool b2)) (.ok (PyData.eqv (.list xs) (.bool b2))) := by rfl
theorem cmpV_neLB {xs : List PyData} {b2 : Bool} : CmpV .ne (.list xs) (.bool b2) = gd (SeqAt.shaped (.list xs) && SeqAt.shaped (.bool b2)) (.ok (!PyData.eqv (.list xs) (.bool b2))) := by rfl
theorem cmpV_eqLN {xs : List PyData}  : CmpV .eq (.list xs) .none = gd (SeqAt.shaped (.list xs) && SeqAt.shaped .none) (.ok (PyData.eqv (.list xs) .none)) := by rfl
theorem cmpV_neLN {xs : List PyData}  : CmpV .ne (.list xs) .none = gd (SeqAt.shaped (.list xs) && SeqAt.shaped .none) (.ok (!PyData.eqv (.list xs) .none)) := by rfl
theorem cmpV_eqLL {xs : List PyData} {xs2 : List PyData} : CmpV .eq (.list xs) (.list xs2) = gd (SeqAt.shaped (.list xs) && SeqAt.shaped (.list xs2)) (.ok (PyData.eqv (.list xs) (.list xs2))) := by rfl
theorem cmpV_neLL {xs : List PyData} {xs2 : List PyData} : CmpV .ne (.list xs) (.list xs2) = gd (SeqAt.shaped (.list xs) && SeqAt.shaped (.list xs2)) (.ok (!PyData.eqv (.list xs) (.list xs2))) := by rfl
theorem cmpV_eqLT {xs : List PyData} {xs2 : List PyData} : CmpV .eq (.list xs) (.tuple xs2) = gd (SeqAt.shaped (.list xs) && SeqAt.shaped (.tuple xs2)) (.ok (PyData.eqv (.list xs) (.tuple xs2))) := by rfl
theorem cmpV_neLT {xs : List PyData} {xs2 : List PyData} : CmpV .ne (.list xs) (.tuple xs2) = gd (SeqAt.shaped (.list xs) && SeqAt.shaped (.tuple xs2)) (.ok (!PyData.eqv (.list xs) (.tuple xs2))) := by rfl
theorem cmpV_eqLD {xs : List PyData} {ks2 : List (PyData × PyData)} : CmpV .eq (.list xs) (.dict ks2) = gd (SeqAt.shaped (.list xs) && SeqAt.shaped (.dict ks2)) (.ok (PyData.eqv (.list xs) (.dict ks2))) := by rfl
theorem cmpV_neLD {xs : List PyData} {ks2 : List (PyData × PyData)} : CmpV .ne (.list xs) (.dict ks2) = gd (SeqAt.shaped (.list xs) && SeqAt.shaped (.dict ks2)) (.ok (!PyData.eqv (.list xs) (.dict ks2))) := by rfl
theorem cmpV_eqTI {xs : List PyData} {i2 : Int} : CmpV .eq (.tuple xs) (.int i2) = gd (SeqAt.shaped (.tuple xs) && SeqAt.shaped (.int i2)) (.ok (PyData.eqv (.tuple xs) (.int i2))) := by rfl
theorem cmpV_neTI {xs : List PyData} {i2 : Int} : CmpV .ne (.tuple xs) (.int i2) = gd (SeqAt.shaped (.tuple xs) && SeqAt.shaped (.int i2)) (.ok (!PyData.eqv (.tuple xs) (.int i2))) := by rfl
theorem cmpV_eqTS {xs : List PyData} {x2 : Str} : CmpV .eq (.tuple xs) (.str x2) = gd (SeqAt.shaped (.tuple xs) && SeqAt.shaped (.str x2)) (.ok (PyData.eqv (.tuple xs) (.str x2))) := by rfl
theorem cmpV_neTS {xs : List PyData} {x2 : Str} : CmpV .ne (.tuple xs) (.str x2) = gd (SeqAt.shaped (.tuple xs) && SeqAt.shaped (.str x2)) (.ok (!PyData.eqv (.tuple xs) (.str x2))) := by rfl
theorem cmpV_eqTB {xs : List PyData} {b2 : Bool} : CmpV .eq (.tuple xs) (.bool b2) = gd (SeqAt.shaped (.tuple xs) && SeqAt.shaped (.bool b2)) (.ok (PyData.eqv (.tuple xs) (.bool b2))) := by rfl
theorem cmpV_neTB {xs : List PyData} {b2 : Bool} : CmpV .ne (.tuple xs) (.bool b2) = gd (SeqAt.shaped (.tuple xs) && SeqAt.shaped (.bool b2)) (.ok (!PyData.eqv (.tuple xs) (.bool b2))) := by rfl
theorem cmpV_eqTN {xs : List PyData}  : CmpV .eq (.tuple xs) .none = gd (SeqAt.shaped (.tuple xs) && SeqAt.shaped .none) (.ok (PyData.eqv (.tuple xs) .none)) := by rfl
theorem cmpV_neTN {xs : List PyData}  : CmpV .ne (.tuple xs) .none = gd (SeqAt.shaped (.tuple xs) && SeqAt.shaped .none) (.ok (!PyData.eqv (.tuple xs) .none)) := by rfl
theorem cmpV_eqTL {xs : List PyData} {xs2 : List PyData} : CmpV .eq (.tuple xs) (.list xs2) = gd (SeqAt.shaped (.tuple xs) && SeqAt.shaped (.list xs2)) (.ok (PyData.eqv (.tuple xs) (.list xs2))) := by rfl
theorem cmpV_neTL {xs : List PyData} {xs2 : List PyData} : CmpV .ne (.tuple xs) (.list xs2) = gd (SeqAt.shaped (.tuple xs) && SeqAt.shaped (.list xs2)) (.ok (!PyData.eqv (.tuple xs) (.list xs2))) := by rfl
theorem cmpV_eqTT {xs : List PyData} {xs2 : List PyData} : CmpV .eq (.tuple xs) (.tuple xs2) = gd (shortT xs xs2 || (SeqAt.shaped (.tuple xs) && SeqAt.shaped (.tuple xs2))) (.ok (PyData.eqv (.tuple xs) (.tuple xs2))) := by rfl
theorem cmpV_neTT {xs : List PyData} {xs2 : List PyData} : CmpV .ne (.tuple xs) (.tuple xs2) = gd (SeqAt.shaped (.tuple xs) && SeqAt.shaped (.tuple xs2)) (.ok (!PyData.eqv (.tuple xs) (.tuple xs2))) := by rfl
theorem cmpV_eqTD {xs : List PyData} {ks2 : List (PyData × PyData)} : CmpV .eq (.tuple xs) (.dict ks2) = gd (SeqAt.shaped (.tuple xs) && SeqAt.shaped (.dict ks2)) (.ok (PyData.eqv (.tuple xs) (.dict ks2))) := by rfl
theorem cmpV_neTD {xs : List PyData} {ks2 : List (PyData × PyData)} : CmpV .ne (.tuple xs) (.dict ks2) = gd (SeqAt.shaped (.tuple xs) && SeqAt.shaped (.dict ks2)) (.ok (!PyData.eqv (.tuple xs) (.dict ks2))) := by rfl
theorem cmpV_eqDI {ks : List (PyData × PyData)} {i2 : Int} : CmpV .eq (.dict ks) (.int i2) = gd (SeqAt.shaped (.dict ks) && SeqAt.shaped (.int i2)) (.ok (PyData.eqv (.dict ks) (.int i2))) := by rfl
theorem cmpV_neDI {ks : List (PyData × PyData)} {i2 : Int} : CmpV .ne (.dict ks) (.int i2) = gd (SeqAt.shaped (.dict ks) && SeqAt.shaped (.int i2)) (.ok (!PyData.eqv (.dict ks) (.int i2))) := by rfl
theorem cmpV_eqDS {ks : List (PyData × PyData)} {x2 : Str} : CmpV .eq (.dict ks) (.str x2) = gd (SeqAt.shaped (.dict ks) && SeqAt.shaped (.str x2)) (.ok (PyData.eqv (.dict ks) (.str x2))) := by rfl
theorem cmpV_neDS {ks : List (PyData × PyData)} {x2 : Str} : CmpV .ne (.dict ks) (.str x2) = gd (SeqAt.shaped (.dict ks) && SeqAt.shaped (.str x2)) (.ok (!PyData.eqv (.dict ks) (.str x2))) := by rfl
theorem cmpV_eqDB {ks : List (PyData × PyData)} {b2 : Bool} : CmpV .eq (.dict ks) (.bool b2) = gd (SeqAt.shaped (.dict ks) && SeqAt.shaped (.bool b2)) (.ok (PyData.eqv (.dict ks) (.bool b2))) := by rfl
theorem cmpV_neDB {ks : List (PyData × PyData)} {b2 : Bool} : CmpV .ne (.dict ks) (.bool b2) = gd (SeqAt.shaped (.dict ks) && SeqAt.shaped (.bool b2)) (.ok (!PyData.eqv (.dict ks) (.bool b2))) := by rfl
theorem cmpV_eqDN {ks : List (PyData × PyData)}  : CmpV .eq (.dict ks) .none = gd (SeqAt.shaped (.dict ks) && SeqAt.shaped .none) (.ok (PyData.eqv (.dict ks) .none)) := by rfl
theorem cmpV_neDN {ks : List (PyData × PyData)}  : CmpV .ne (.dict ks) .none = gd (SeqAt.shaped (.dict ks) && SeqAt.shaped .none) (.ok (!PyData.eqv (.dict ks) .none)) := by rfl
theorem cmpV_eqDL {ks : List (PyData × PyData)} {xs2 : List PyData} : CmpV .eq (.dict ks) (.list xs2) = gd (SeqAt.shaped (.dict ks) && SeqAt.shaped (.list xs2)) (.ok (PyData.eqv (.dict ks) (.list xs2))) := by rfl
theorem cmpV_neDL {ks : List (PyData × PyData)} {xs2 : List PyData} : CmpV .ne (.dict ks) (.list xs2) = gd (SeqAt.shaped (.dict ks) && SeqAt.shaped (.list xs2)) (.ok (!PyData.eqv (.dict ks) (.list xs2))) := by rfl
theorem cmpV_eqDT {ks : List (PyData × PyData)} {xs2 : List PyData} : CmpV .eq (.dict ks) (.tuple xs2) = gd (SeqAt.shaped (.dict ks) && SeqAt.shaped (.tuple xs2)) (.ok (PyData.eqv (.dict ks) (.tuple xs2))) := by rfl
theorem cmpV_neDT {ks : List (PyData × PyData)} {xs2 : List PyData} : CmpV .ne (.dict ks) (.tuple xs2) = gd (SeqAt.shaped (.dict ks) && SeqAt.shaped (.tuple xs2)) (.ok (!PyData.eqv (.dict ks) (.tuple xs2))) := by rfl
theorem cmpV_eqDD {ks : List (PyData × PyData)} {ks2 : List (PyData × PyData)} : CmpV .eq (.dict ks) (.dict ks2) = gd (SeqAt.shaped (.dict ks) && SeqAt.shaped (.dict ks2)) (.ok (PyData.eqv (.dict ks) (.dict ks2))) := by rfl
theorem cmpV_neDD {ks : List (PyData × PyData)} {ks2 : List (PyData × PyData)} : CmpV .ne (.dict ks) (.dict ks2) = gd (SeqAt.shaped (.dict ks) && SeqAt.shaped (.dict ks2)) (.ok (!PyData.eqv (.dict ks) (.dict ks2))) := by rfl
theorem cmpV_isI {i : Int} {y : Bool} : CmpV (.isnt y) (.int i) .none = .ok (!y) := by rfl
theorem cmpV_inLItrue {i : Int} {ys : List PyData} : CmpV (.in_ true) (.int i) (.list ys) = gd (SeqAt.shaped (.int i) && SeqAt.shaped (.list ys)) (.ok (ys.any (fun z => PyData.eqv z (.int i)))) := by rfl
theorem cmpV_inTItrue {i : Int} {ys : List PyData} : CmpV (.in_ true) (.int i) (.tuple ys) = gd (SeqAt.shaped (.int i) && SeqAt.shaped (.tuple ys)) (.ok (ys.any (fun z => PyData.eqv z (.int i)))) := by rfl
theorem cmpV_inDItrue {i : Int} {kvs : List (PyData × PyData)} : CmpV (.in_ true) (.int i) (.dict kvs) = .ok ((lookD kvs (.int i)).isSome) := by rfl
theorem cmpV_inLIfalse {i : Int} {ys : List PyData} : CmpV (.in_ false) (.int i) (.list ys) = gd (SeqAt.shaped (.int i) && SeqAt.shaped (.list ys)) (.ok (!ys.any (fun z => PyData.eqv z (.int i)))) := by rfl
theorem cmpV_inTIfalse {i : Int} {ys : List PyData} : CmpV (.in_ false) (.int i) (.tuple ys) = gd (SeqAt.shaped (.int i) && SeqAt.shaped (.tuple ys)) (.ok (!ys.any (fun z => PyData.eqv z (.int i)))) := by rfl
theorem cmpV_inDIfalse {i : Int} {kvs : List (PyData × PyData)} : CmpV (.in_ false) (.int i) (.dict kvs) = .ok (!(lookD kvs (.int i)).isSome) := by rfl
theorem cmpV_isS {x : Str} {y : Bool} : CmpV (.isnt y) (.str x) .none = .ok (!y) := by rfl
theorem cmpV_inLStrue {x : Str} {ys : List PyData} : CmpV (.in_ true) (.str x) (.list ys) = gd (SeqAt.shaped (.str x) && SeqAt.shaped (.list ys)) (.ok (ys.any (fun z => PyData.eqv z (.str x)))) := by rfl
theorem cmpV_inTStrue {x : Str} {ys : List PyData} : CmpV (.in_ true) (.str x) (.tuple ys) = gd (SeqAt.shaped (.str x) && SeqAt.shaped (.tuple ys)) (.ok (ys.any (fun z => PyData.eqv z (.str x)))) := by rfl
theorem cmpV_inDStrue {x : Str} {kvs : List (PyData × PyData)} : CmpV (.in_ true) (.str x) (.dict kvs) = .ok ((lookD kvs (.str x)).isSome) := by rfl
theorem cmpV_inLSfalse {x : Str} {ys : List PyData} : CmpV (.in_ false) (.str x) (.list ys) = gd (SeqAt.shaped (.str x) && SeqAt.shaped (.list ys)) (.ok (!ys.any (fun z => PyData.eqv z (.str x)))) := by rfl
theorem cmpV_inTSfalse {x : Str} {ys : List PyData} : CmpV (.in_ false) (.str x) (.tuple ys) = gd (SeqAt.shaped (.str x) && SeqAt.shaped (.tuple ys)) (.ok (!ys.any (fun z => PyData.eqv z (.str x)))) := by rfl
theorem cmpV_inDSfalse {x : Str} {kvs : List (PyData × PyData)} : CmpV (.in_ false) (.str x) (.dict kvs) = .ok (!(lookD kvs (.str x)).isSome) := by rfl
theorem cmpV_isB {b : Bool} {y : Bool} : CmpV (.isnt y) (.bool b) .none = .ok (!y) := by rfl
theorem cmpV_inLBtrue {b : Bool} {ys : List PyData} : CmpV (.in_ true) (.bool b) (.list ys) = gd (SeqAt.shaped (.bool b) && SeqAt.shaped (.list ys)) (.ok (ys.any (fun z => PyData.eqv z (.bool b)))) := by rfl
theorem cmpV_inTBtrue {b : Bool} {ys : List PyData} : CmpV (.in_ true) (.bool b) (.tuple ys) = gd (SeqAt.shaped (.bool b) && SeqAt.shaped (.tuple ys)) (.ok (ys.any (fun z => PyData.eqv z (.bool b)))) := by rfl
theorem cmpV_inLBfalse {b : Bool} {ys : List PyData} : CmpV (.in_ false) (.bool b) (.list ys) = gd (SeqAt.shaped (.bool b) && SeqAt.shaped (.list ys)) (.ok (!ys.any (fun z => PyData.eqv z (.bool b)))) := by rfl
theorem cmpV_inTBfalse {b : Bool} {ys : List PyData} : CmpV (.in_ false) (.bool b) (.tuple ys) = gd (SeqAt.shaped (.bool b) && SeqAt.shaped (.tuple ys)) (.ok (!ys.any (fun z => PyData.eqv z (.bool b)))) := by rfl
theorem cmpV_isBB {a b : Bool} {y : Bool} : CmpV (.isnt y) (.bool a) (.bool b) = .ok (bif y then decide (a = b) else !decide (a = b)) := by rfl
theorem cmpV_isN  {y : Bool} : CmpV (.isnt y) .none .none = .ok y := by rfl
theorem cmpV_inLNtrue  {ys : List PyData} : CmpV (.in_ true) .none (.list ys) = gd (SeqAt.shaped .none && SeqAt.shaped (.list ys)) (.ok (ys.any (fun z => PyData.eqv z .none))) := by rfl
theorem cmpV_inTNtrue  {ys : List PyData} : CmpV (.in_ true) .none (.tuple ys) = gd (SeqAt.shaped .none && SeqAt.shaped (.tuple ys)) (.ok (ys.any (fun z => PyData.eqv z .none))) := by rfl
theorem cmpV_inLNfalse  {ys : List PyData} : CmpV (.in_ false) .none (.list ys) = gd (SeqAt.shaped .none && SeqAt.shaped (.list ys)) (.ok (!ys.any (fun z => PyData.eqv z .none))) := by rfl
theorem cmpV_inTNfalse  {ys : List PyData} : CmpV (.in_ false) .none (.tuple ys) = gd (SeqAt.shaped .none && SeqAt.shaped (.tuple ys)) (.ok (!ys.any (fun z => PyData.eqv z .none))) := by rfl
theorem cmpV_isL {xs : List PyData} {y : Bool} : CmpV (.isnt y) (.list xs) .none = .ok (!y) := by rfl
theorem cmpV_inLLtrue {xs : List PyData} {ys : List PyData} : CmpV (.in_ true) (.list xs) (.list ys) = gd (SeqAt.shaped (.list xs) && SeqAt.shaped (.list ys)) (.ok (ys.any (fun z => PyData.eqv z (.list xs)))) := by rfl
theorem cmpV_inTLtrue {xs : List PyData} {ys : List PyData} : CmpV (.in_ true) (.list xs) (.tuple ys) = gd (SeqAt.shaped (.list xs) && SeqAt.shaped (.tuple ys)) (.ok (ys.any (fun z => PyData.eqv z (.list xs)))) := by rfl
theorem cmpV_inLLfalse {xs : List PyData} {ys : List PyData} : CmpV (.in_ false) (.list xs) (.list ys) = gd (SeqAt.shaped (.list xs) && SeqAt.shaped (.list ys)) (.ok (!ys.any (fun z => PyData.eqv z (.list xs)))) := by rfl
theorem cmpV_inTLfalse {xs : List PyData} {ys : List PyData} : CmpV (.in_ false) (.list xs) (.tuple ys) = gd (SeqAt.shaped (.list xs) && SeqAt.shaped (.tuple ys)) (.ok (!ys.any (fun z => PyData.eqv z (.list xs)))) := by rfl
theorem cmpV_isT {xs : List PyData} {y : Bool} : CmpV (.isnt y) (.tuple xs) .none = .ok (!y) := by rfl
theorem cmpV_inLTtrue {xs : List PyData} {ys : List PyData} : CmpV (.in_ true) (.tuple xs) (.list ys) = gd (SeqAt.shaped (.tuple xs) && SeqAt.shaped (.list ys)) (.ok (ys.any (fun z => PyData.eqv z (.tuple xs)))) := by rfl
theorem cmpV_inTTtrue {xs : List PyData} {ys : List PyData} : CmpV (.in_ true) (.tuple xs) (.tuple ys) = gd (SeqAt.shaped (.tuple xs) && SeqAt.shaped (.tuple ys)) (.ok (ys.any (fun z => PyData.eqv z (.tuple xs)))) := by rfl
theorem cmpV_inLTfalse {xs : List PyData} {ys : List PyData} : CmpV (.in_ false) (.tuple xs) (.list ys) = gd (SeqAt.shaped (.tuple xs) && SeqAt.shaped (.list ys)) (.ok (!ys.any (fun z => PyData.eqv z (.tuple xs)))) := by rfl
theorem cmpV_inTTfalse {xs : List PyData} {ys : List PyData} : CmpV (.in_ false) (.tuple xs) (.tuple ys) = gd (SeqAt.shaped (.tuple xs) && SeqAt.shaped (.tuple ys)) (.ok (!ys.any (fun z => PyData.eqv z (.tuple xs)))) := by rfl
theorem cmpV_isD {ks : List (PyData × PyData)} {y : Bool} : CmpV (.isnt y) (.dict ks) .none = .ok (!y) := by rfl
theorem cmpV_inLDtrue {ks : List (PyData × PyData)} {ys : List PyData} : CmpV (.in_ true) (.dict ks) (.list ys) = gd (SeqAt.shaped (.dict ks) && SeqAt.shaped (.list ys)) (.ok (ys.any (fun z => PyData.eqv z (.dict ks)))) := by rfl
theorem cmpV_inTDtrue {ks : List (PyData × PyData)} {ys : List PyData} : CmpV (.in_ true) (.dict ks) (.tuple ys) = gd (SeqAt.shaped (.dict ks) && SeqAt.shaped (.tuple ys)) (.ok (ys.any (fun z => PyData.eqv z (.dict ks)))) := by rfl
theorem cmpV_inLDfalse {ks : List (PyData × PyData)} {ys : List PyData} : CmpV (.in_ false) (.dict ks) (.list ys) = gd (SeqAt.shaped (.dict ks) && SeqAt.shaped (.list ys)) (.ok (!ys.any (fun z => PyData.eqv z (.dict ks)))) := by rfl
theorem cmpV_inTDfalse {ks : List (PyData × PyData)} {ys : List PyData} : CmpV (.in_ false) (.dict ks) (.tuple ys) = gd (SeqAt.shaped (.dict ks) && SeqAt.shaped (.tuple ys)) (.ok (!ys.any (fun z => PyData.eqv z (.dict ks)))) := by rfl
theorem biV_lenL {xs : List PyData} : BiV .len [.list xs] = .ok (false, .int xs.length) := by rfl
theorem biV_lenT {xs : List PyData} : BiV .len [.tuple xs] = .ok (false, .int xs.length) := by rfl
theorem biV_lenS {x : Str} : BiV .len [.str x] = gd (leN x.length lim) (.ok (false, .int x.length)) := by rfl
theorem biV_abs {i : Int} : BiV .abs [.int i] = .ok (false, .int (if i < 0 then -i else i)) := by rfl
theorem biV_max2 {i j : Int} : BiV .max [.int i, .int j] = .ok (false, .int (if j > i then j else i)) := by rfl
theorem biV_min2 {i j : Int} : BiV .min [.int i, .int j] = .ok (false, .int (if j < i then j else i)) := by rfl
theorem biV_intI {i : Int} : BiV .int [.int i] = .ok (false, .int i) := by rfl
theorem biV_intB {b : Bool} : BiV .int [.bool b] = .ok (false, .int (if b then 1 else 0)) := by rfl
theorem biV_tuple_list {xs : List PyData} : BiV .tuple [.list xs] = .ok (false, .tuple xs) := by rfl
theorem biV_tuple_tuple {xs : List PyData} : BiV .tuple [.tuple xs] = .ok (false, .tuple xs) := by rfl
theorem biV_list_list {xs : List PyData} : BiV .list [.list xs] = .ok (true, .list xs) := by rfl
theorem biV_list_tuple {xs : List PyData} : BiV .list [.tuple xs] = .ok (true, .list xs) := by rfl
theorem biV_max_list {x : PyData} {xs : List PyData} : BiV .max [.list (x :: xs)] = gd (okMB (x :: xs)) (.ok (false, PySem.W.maxD x xs)) := by rfl
theorem biV_max_tuple {x : PyData} {xs : List PyData} : BiV .max [.tuple (x :: xs)] = gd (okMB (x :: xs)) (.ok (false, PySem.W.maxD x xs)) := by rfl
theorem biV_min_list {x : PyData} {xs : List PyData} : BiV .min [.list (x :: xs)] = gd (okMB (x :: xs)) (.ok (false, PySem.W.minD x xs)) := by rfl
theorem biV_min_tuple {x : PyData} {xs : List PyData} : BiV .min [.tuple (x :: xs)] = gd (okMB (x :: xs)) (.ok (false, PySem.W.minD x xs)) := by rfl
theorem biV_repr {d : PyData} : BiV .repr [d] = gd (okRB d) (.ok (false, .str d.shown)) := by rfl
theorem biV_all {xs : List PyData} : BiV .all [.list xs] = (optV (allBools xs)).bind fun bs => .ok (false, .bool (bs.all _root_.id)) := by rfl
theorem biV_any {xs : List PyData} : BiV .any [.list xs] = (optV (allBools xs)).bind fun bs => .ok (false, .bool (bs.any _root_.id)) := by rfl
theorem biV_sorted {xs : List PyData} : BiV .sorted [.list xs] = gd (okSB xs && leN xs.length lim) (.ok (true, .list (sortD xs))) := by rw [← sortK_eq]; rfl
theorem biV_sumT {xs : List PyData} : BiV .sum [.tuple xs] = (optV (allInts xs)).bind fun ns => .ok (false, .int ns.sum) := by rfl
theorem biV_sum {xs : List PyData} : BiV .sum [.list xs] = (optV (allInts xs)).bind fun ns => .ok (false, .int ns.sum) := by rfl
theorem mtT_bits {i : Int} : mtT .bits (.int i) = true := by rfl
theorem mtT_indexL {xs : List PyData} : mtT .index (.list xs) = true := by rfl
theorem mtT_indexT {xs : List PyData} : mtT .index (.tuple xs) = true := by rfl
theorem mtT_get {kvs : List (PyData × PyData)} : mtT .get (.dict kvs) = true := by rfl
theorem mtV_bits {i : Int} : MtV .bits (.int i) [] = .ok (false, .int (Builtin.Int.intBits i : Nat)) := by rfl
theorem mtV_indexL {ds : List PyData} {x : PyData} : MtV .index (.list ds) [x] = gd (SeqAt.shaped x && SeqAt.shaped (.list ds)) ((optV (idxD ds x)).bind fun n => .ok (false, .int (n : Nat))) := by rfl
theorem mtV_indexT {ds : List PyData} {x : PyData} : MtV .index (.tuple ds) [x] = gd (SeqAt.shaped x && SeqAt.shaped (.list ds)) ((optV (idxD ds x)).bind fun n => .ok (false, .int (n : Nat))) := by rfl
theorem mtV_count {ds : List PyData} {x : PyData} : MtV .count (.tuple ds) [x] = gd (SeqAt.shaped x && SeqAt.shaped (.list ds)) (.ok (false, .int ((ds.countP fun z => PyData.eqv z x : Nat) : Int))) := by rfl
theorem mtV_get1 {kvs : List (PyData × PyData)} {k : PyData} : MtV .get (.dict kvs) [k] = gd (keyFor kvs k) (.ok (false, (lookD kvs k).getD .none)) := by rfl
theorem mtV_get2 {kvs : List (PyData × PyData)} {k d : PyData} : MtV .get (.dict kvs) [k, d] = gd (keyFor kvs k) (.ok (false, (lookD kvs k).getD d)) := by rfl
theorem keyFor_int {kvs : List (PyData × PyData)} {i : Int} : keyFor kvs (.int i) = true := by rfl
theorem keyFor_str {kvs : List (PyData × PyData)} {i : Str} : keyFor kvs (.str i) = true := by rfl
theorem keyPut_int {kvs : List (PyData × PyData)} {i : Int} : keyPut kvs (.int i) = true := by rfl
theorem keyPut_str {kvs : List (PyData × PyData)} {i : Str} : keyPut kvs (.str i) = true := by rfl
theorem ixV_L {xs : List PyData} {i : Int} : IxV (.list xs) (.int i) = (optV (atI xs i)).bind fun d => .ok (false, d) := by rfl
theorem ixV_T {xs : List PyData} {i : Int} : IxV (.tuple xs) (.int i) = (optV (atI xs i)).bind fun d => .ok (false, d) := by rfl
theorem ixV_D {kvs : List (PyData × PyData)} {k : PyData} : IxV (.dict kvs) k = gd (keyFor kvs k) ((optV (lookD kvs k)).bind fun d => .ok (false, d)) := by rfl
theorem slV_L {xs : List PyData} {a b : Option Int} : SlV (.list xs) a b = .ok (true, .list (cutD xs a b)) := by rfl
theorem slV_T {xs : List PyData} {a b : Option Int} : SlV (.tuple xs) a b = .ok (false, .tuple (cutD xs a b)) := by rfl
theorem revV_L {xs : List PyData} : revV (.list xs) = .ok (true, .list xs.reverse) := by rfl
theorem revV_T {xs : List PyData} : revV (.tuple xs) = .ok (false, .tuple xs.reverse) := by rfl
theorem tstV_int {α : Type} {i : Int} {f : Bool → Ev α} : tstV (.int i) f = f (i != 0) := by rfl
theorem tstV_none {α : Type} {f : Bool → Ev α} : tstV .none f = f false := by rfl
theorem tstV_list {α : Type} {xs : List PyData} {f : Bool → Ev α} : tstV (.list xs) f = f (!xs.isEmpty) := by rfl
theorem tstV_tuple {α : Type} {xs : List PyData} {f : Bool → Ev α} : tstV (.tuple xs) f = f (!xs.isEmpty) := by rfl
theorem lstO_list {xs : List PyData} : lstO (.list xs) = some xs := by rfl
theorem slot_sh {d : PyData} {r : Env} : slotV (.sh d :: r) 0 = .ok d := by rfl
theorem slot_ow {d : PyData} {r : Env} : slotV (.ow d :: r) 0 = .ok d := by rfl
theorem slot_succ {s : Sl} {r : Env} {n : Nat} : slotV (s :: r) (n + 1) = slotV r n := by rfl
theorem slotA_sh {d : PyData} {r : Env} : slotA (.sh d :: r) 0 = .ok (.sh d) := by rfl
theorem slotA_ow {d : PyData} {r : Env} : slotA (.ow d :: r) 0 = .ok (.sh d) := by rfl
theorem slotA_src {r : Env} : slotA (.src :: r) 0 = .ok .src := by rfl
theorem slotA_succ {s : Sl} {r : Env} {n : Nat} : slotA (s :: r) (n + 1) = slotA r n := by rfl
theorem intAt_sh {z : Int} {r : Env} : intAt (.sh (.int z) :: r) 0 = some z := by rfl
theorem intAt_succ {s : Sl} {r : Env} {n : Nat} : intAt (s :: r) (n + 1) = intAt r n := by rfl
theorem ownL_ow {xs : List PyData} {r : Env} : ownL (.ow (.list xs) :: r) 0 = some xs := by rfl
theorem ownL_succ {s : Sl} {r : Env} {n : Nat} : ownL (s :: r) (n + 1) = ownL r n := by rfl
theorem ownS_owL {xs : List PyData} {r : Env} {f : List PyData → Res} {g : List (PyData × PyData) → Res} : ownS (.ow (.list xs) :: r) 0 f g = f xs := by rfl
theorem ownS_owD {kvs : List (PyData × PyData)} {r : Env} {f : List PyData → Res} {g : List (PyData × PyData) → Res} : ownS (.ow (.dict kvs) :: r) 0 f g = g kvs := by rfl
theorem ownS_succ {s : Sl} {r : Env} {n : Nat} {f : List PyData → Res} {g : List (PyData × PyData) → Res} : ownS (s :: r) (n + 1) f g = ownS r n f g := by rfl
theorem retS_sh {d : PyData} {r : Env} : retS (.sh d :: r) 0 = .rt false d := by rfl
theorem retS_ow {d : PyData} {r : Env} : retS (.ow d :: r) 0 = .rt true d := by rfl
theorem retS_succ {s : Sl} {r : Env} {n : Nat} : retS (s :: r) (n + 1) = retS r n := by rfl
theorem is_isInt_I {i : Int} : PyData.isInt (.int i) = true := by rfl
theorem is_isInt_S {x : Str} : PyData.isInt (.str x) = false := by rfl
theorem is_isInt_B {b : Bool} : PyData.isInt (.bool b) = true := by rfl
theorem is_isInt_N  : PyData.isInt .none = false := by rfl
theorem is_isInt_L {xs : List PyData} : PyData.isInt (.list xs) = false := by rfl
theorem is_isInt_T {xs : List PyData} : PyData.isInt (.tuple xs) = false := by rfl
theorem is_isInt_D {ks : List (PyData × PyData)} : PyData.isInt (.dict ks) = false := by rfl
theorem is_isBool_I {i : Int} : PyData.isBool (.int i) = false := by rfl
theorem is_isBool_S {x : Str} : PyData.isBool (.str x) = false := by rfl
theorem is_isBool_B {b : Bool} : PyData.isBool (.bool b) = true := by rfl
theorem is_isBool_N  : PyData.isBool .none = false := by rfl
theorem is_isBool_L {xs : List PyData} : PyData.isBool (.list xs) = false := by rfl
theorem is_isBool_T {xs : List PyData} : PyData.isBool (.tuple xs) = false := by rfl
theorem is_isBool_D {ks : List (PyData × PyData)} : PyData.isBool (.dict ks) = false := by rfl
theorem is_isTuple_I {i : Int} : PyData.isTuple (.int i) = false := by rfl
theorem is_isTuple_S {x : Str} : PyData.isTuple (.str x) = false := by rfl
theorem is_isTuple_B {b : Bool} : PyData.isTuple (.bool b) = false := by rfl
theorem is_isTuple_N  : PyData.isTuple .none = false := by rfl
theorem is_isTuple_L {xs : List PyData} : PyData.isTuple (.list xs) = false := by rfl
theorem is_isTuple_T {xs : List PyData} : PyData.isTuple (.tuple xs) = true := by rfl
theorem is_isTuple_D {ks : List (PyData × PyData)} : PyData.isTuple (.dict ks) = false := by rfl
theorem is_isStr_I {i : Int} : PyData.isStr (.int i) = false := by rfl
theorem is_isStr_S {x : Str} : PyData.isStr (.str x) = true := by rfl
theorem is_isStr_B {b : Bool} : PyData.isStr (.bool b) = false := by rfl
theorem is_isStr_N  : PyData.isStr .none = false := by rfl
theorem is_isStr_L {xs : List PyData} : PyData.isStr (.list xs) = false := by rfl
theorem is_isStr_T {xs : List PyData} : PyData.isStr (.tuple xs) = false := by rfl
theorem is_isStr_D {ks : List (PyData × PyData)} : PyData.isStr (.dict ks) = false := by rfl
theorem is_isList_I {i : Int} : PyData.isList (.int i) = false := by rfl
theorem is_isList_S {x : Str} : PyData.isList (.str x) = false := by rfl
theorem is_isList_B {b : Bool} : PyData.isList (.bool b) = false := by rfl
theorem is_isList_N  : PyData.isList .none = false := by rfl
theorem is_isList_L {xs : List PyData} : PyData.isList (.list xs) = true := by rfl
theorem is_isList_T {xs : List PyData} : PyData.isList (.tuple xs) = false := by rfl
theorem is_isList_D {ks : List (PyData × PyData)} : PyData.isList (.dict ks) = false := by rfl
theorem is_isDict_I {i : Int} : PyData.isDict (.int i) = false := by rfl
theorem is_isDict_S {x : Str} : PyData.isDict (.str x) = false := by rfl
theorem is_isDict_B {b : Bool} : PyData.isDict (.bool b) = false := by rfl
theorem is_isDict_N  : PyData.isDict .none = false := by rfl
theorem is_isDict_L {xs : List PyData} : PyData.isDict (.list xs) = false := by rfl
theorem is_isDict_T {xs : List PyData} : PyData.isDict (.tuple xs) = false := by rfl
theorem is_isDict_D {ks : List (PyData × PyData)} : PyData.isDict (.dict ks) = true := by rfl
theorem toNat_0  : Int.toNat 0 = 0 := by rfl
theorem toNat_1  : Int.toNat 1 = 1 := by rfl
theorem toNat_2  : Int.toNat 2 = 2 := by rfl
theorem toNat_3  : Int.toNat 3 = 3 := by rfl
theorem toNat_4  : Int.toNat 4 = 4 := by rfl
theorem toNat_5  : Int.toNat 5 = 5 := by rfl
theorem toNat_6  : Int.toNat 6 = 6 := by rfl
theorem toNat_7  : Int.toNat 7 = 7 := by rfl
theorem toNat_8  : Int.toNat 8 = 8 := by rfl
theorem toNat_9  : Int.toNat 9 = 9 := by rfl
theorem toNat_10  : Int.toNat 10 = 10 := by rfl
theorem toNat_11  : Int.toNat 11 = 11 := by rfl
theorem toNat_12  : Int.toNat 12 = 12 := by rfl
theorem toNat_13  : Int.toNat 13 = 13 := by rfl
theorem toNat_14  : Int.toNat 14 = 14 := by rfl
theorem toNat_15  : Int.toNat 15 = 15 := by rfl
theorem toNat_16  : Int.toNat 16 = 16 := by rfl
theorem toNat_17  : Int.toNat 17 = 17 := by rfl
theorem toNat_18  : Int.toNat 18 = 18 := by rfl
theorem toNat_19  : Int.toNat 19 = 19 := by rfl
theorem toNat_20  : Int.toNat 20 = 20 := by rfl
theorem toNat_21  : Int.toNat 21 = 21 := by rfl
theorem toNat_22  : Int.toNat 22 = 22 := by rfl
theorem toNat_23  : Int.toNat 23 = 23 := by rfl
theorem toNat_24  : Int.toNat 24 = 24 := by rfl
theorem toNat_25  : Int.toNat 25 = 25 := by rfl
theorem toNat_26  : Int.toNat 26 = 26 := by rfl
theorem toNat_27  : Int.toNat 27 = 27 := by rfl
theorem toNat_28  : Int.toNat 28 = 28 := by rfl
theorem toNat_29  : Int.toNat 29 = 29 := by rfl
theorem toNat_30  : Int.toNat 30 = 30 := by rfl
theorem toNat_31  : Int.toNat 31 = 31 := by rfl
theorem toNat_32  : Int.toNat 32 = 32 := by rfl
theorem toNat_33  : Int.toNat 33 = 33 := by rfl
theorem toNat_34  : Int.toNat 34 = 34 := by rfl
theorem toNat_35  : Int.toNat 35 = 35 := by rfl
theorem toNat_36  : Int.toNat 36 = 36 := by rfl
theorem toNat_37  : Int.toNat 37 = 37 := by rfl
theorem toNat_38  : Int.toNat 38 = 38 := by rfl
theorem toNat_39  : Int.toNat 39 = 39 := by rfl
theorem toNat_40  : Int.toNat 40 = 40 := by rfl
theorem cast_0  : (((0 : Nat)) : Int) = 0 := by rfl
theorem cast_1  : (((1 : Nat)) : Int) = 1 := by rfl
theorem cast_2  : (((2 : Nat)) : Int) = 2 := by rfl
theorem cast_3  : (((3 : Nat)) : Int) = 3 := by rfl
theorem cast_4  : (((4 : Nat)) : Int) = 4 := by rfl
theorem cast_5  : (((5 : Nat)) : Int) = 5 := by rfl
theorem cast_6  : (((6 : Nat)) : Int) = 6 := by rfl
theorem cast_7  : (((7 : Nat)) : Int) = 7 := by rfl
theorem cast_8  : (((8 : Nat)) : Int) = 8 := by rfl
theorem cast_9  : (((9 : Nat)) : Int) = 9 := by rfl
theorem cast_10  : (((10 : Nat)) : Int) = 10 := by rfl
theorem cast_11  : (((11 : Nat)) : Int) = 11 := by rfl
theorem cast_12  : (((12 : Nat)) : Int) = 12 := by rfl
theorem cast_13  : (((13 : Nat)) : Int) = 13 := by rfl
theorem cast_14  : (((14 : Nat)) : Int) = 14 := by rfl
theorem cast_15  : (((15 : Nat)) : Int) = 15 := by rfl
theorem cast_16  : (((16 : Nat)) : Int) = 16 := by rfl
theorem cast_17  : (((17 : Nat)) : Int) = 17 := by rfl
theorem cast_18  : (((18 : Nat)) : Int) = 18 := by rfl
theorem cast_19  : (((19 : Nat)) : Int) = 19 := by rfl
theorem leN_0  : leN 0 lim = true := by rfl
theorem leN_1  : leN 1 lim = true := by rfl
theorem leN_2  : leN 2 lim = true := by rfl
theorem leN_3  : leN 3 lim = true := by rfl
theorem leN_4  : leN 4 lim = true := by rfl
theorem leN_5  : leN 5 lim = true := by rfl
theorem leN_6  : leN 6 lim = true := by rfl
theorem leN_7  : leN 7 lim = true := by rfl
theorem leN_8  : leN 8 lim = true := by rfl
theorem leN_9  : leN 9 lim = true := by rfl
theorem leN_10  : leN 10 lim = true := by rfl
theorem leN_11  : leN 11 lim = true := by rfl
theorem leN_12  : leN 12 lim = true := by rfl
theorem leN_13  : leN 13 lim = true := by rfl
theorem leN_14  : leN 14 lim = true := by rfl
theorem leN_15  : leN 15 lim = true := by rfl
theorem leN_16  : leN 16 lim = true := by rfl
theorem leN_17  : leN 17 lim = true := by rfl
theorem leN_18  : leN 18 lim = true := by rfl
theorem leN_19  : leN 19 lim = true := by rfl
theorem leN_20  : leN 20 lim = true := by rfl
theorem leN_21  : leN 21 lim = true := by rfl
theorem leN_22  : leN 22 lim = true := by rfl
theorem leN_23  : leN 23 lim = true := by rfl
end DL
set_option Elab.async false
set_option linter.all false
set_option maxRecDepth 100000
set_option maxHeartbeats 4000000
/-! E5: loops over numbers and over known lists. -/
namespace DL
open PySem PySem.Spec PyProof.Rows L2
theorem gd_pos {α : Type} {c : Bool} {r : Ev α} (h : c = true) : gd c r = r := by subst h; rfl
theorem gdR_pos {c : Bool} {r : Res} (h : c = true) : gdR c r = r := by subst h; rfl
theorem gd_neg {α : Type} {c : Bool} {r : Ev α} (h : c = false) : gd c r = .bad := by subst h; rfl
theorem leN_pos {a b : Nat} (h : a ≤ b) : leN a b = true := leN_iff.mpr h
/-- over the numbers below n: on, or out -/
theorem forV_rngG {step : PyData → Env → Res} {R : Res → Prop} {n : Nat} {env : Env} (I : Nat → Env → Prop) (h0 : I 0 env)
    (hs : ∀ i e, i < n → I i e → (∃ e', (step (.int (i : Nat)) e = .nx e' ∨ step (.int (i : Nat)) e = .ct e') ∧ I (i + 1) e') ∨ ∃ r, outR (step (.int (i : Nat)) e) = some r ∧ R r) (he : ∀ e, I n e → R (.nx e)) : R (forV step (intsD 0 n) env) :=
  forV_gen I h0 (fun i x e hx hi => by
    obtain ⟨h1, rfl⟩ := intsD_get hx
    rw [Int.zero_add]
    exact hs i e h1 hi) fun e h => he e (by rw [intsD_length] at h; exact h)
theorem forV_rng {step : PyData → Env → Res} {R : Res → Prop} {n : Nat} {env : Env} (I : Nat → Env → Prop) (h0 : I 0 env)
    (hs : ∀ i e, i < n → I i e → ∃ e', step (.int (i : Nat)) e = .nx e' ∧ I (i + 1) e') (he : ∀ e, I n e → R (.nx e)) : R (forV step (intsD 0 n) env) :=
  forV_rngG I h0 (fun i e hi h => by obtain ⟨e', h1, h2⟩ := hs i e hi h; exact .inl ⟨e', .inl h1, h2⟩) he
theorem forV_lstG {α : Type} {step : PyData → Env → Res} {R : Res → Prop} {em : α → PyData} {xs : List α} {env : Env} (I : Nat → Env → Prop) (h0 : I 0 env)
    (hs : ∀ i e (h : i < xs.length), I i e → (∃ e', (step (em xs[i]) e = .nx e' ∨ step (em xs[i]) e = .ct e') ∧ I (i + 1) e') ∨ ∃ r, outR (step (em xs[i]) e) = some r ∧ R r) (he : ∀ e, I xs.length e → R (.nx e)) : R (forV step (xs.map em) env) :=
  forV_gen I h0 (fun i x e hx hi => by
    rw [List.getElem?_map, Option.map_eq_some_iff] at hx
    obtain ⟨y, hy, rfl⟩ := hx
    obtain ⟨h1, rfl⟩ := List.getElem?_eq_some_iff.mp hy
    exact hs i e h1 hi) fun e h => he e (by rw [List.length_map] at h; exact h)
theorem forV_lst {α : Type} {step : PyData → Env → Res} {R : Res → Prop} {em : α → PyData} {xs : List α} {env : Env} (I : Nat → Env → Prop) (h0 : I 0 env)
    (hs : ∀ i e (h : i < xs.length), I i e → ∃ e', step (em xs[i]) e = .nx e' ∧ I (i + 1) e') (he : ∀ e, I xs.length e → R (.nx e)) : R (forV step (xs.map em) env) :=
  forV_lstG I h0 (fun i e hi h => by obtain ⟨e', h1, h2⟩ := hs i e hi h; exact .inl ⟨e', .inl h1, h2⟩) he
theorem filV_ints {f : PyData → Ev (Option PyData)} (g : Nat → PyData) {n : Nat} (h : ∀ i < n, f (.int (i : Nat)) = .ok (some (g i))) : filV f (intsD 0 n) = .ok ((List.range n).map g) := by
  have e : intsD 0 n = (List.range n).map fun i => PyData.int (i : Nat) := by
    unfold intsD
    congr 1
    funext i
    rw [Int.zero_add]
  rw [e]
  exact filV_map g fun i hi => h i (List.mem_range.mp hi)
theorem intsD_map (n : Nat) : intsD 0 n = (List.range n).map fun i => PyData.int (i : Nat) := by
  unfold intsD
  congr 1
  funext i
  rw [Int.zero_add]
/-- a while loop that only goes on or ends; what is wanted of it -/
theorem whlV_R {σ : Type} {t : Env → Ev (Bool × Env)} {b : Env → Res} {R : Res → Prop} (S : σ → Env → Prop) (μ : σ → Nat) {s : σ} {env : Env} (h0 : S s env) (hμ : μ s < fuel)
    (hs : ∀ s e, S s e → (∃ e', t e = .ok (false, e') ∧ R (.nx e')) ∨ ∃ e' s' e2, t e = .ok (true, e') ∧ (b e' = .nx e2 ∨ b e' = .ct e2) ∧ S s' e2 ∧ μ s' < μ s) : R (whlV t b fuel env) :=
  whlV_gen S μ (fun s e h => by
    rcases hs s e h with ⟨e', h1, h2⟩ | ⟨e', s', e2, h1, h2, h3, h4⟩
    · exact .inl ⟨e', h1, h2⟩
    · exact .inr ⟨e', h1, .inl ⟨s', e2, h2, h3, h4⟩⟩) fuel s env h0 hμ
end DL
set_option Elab.async false
set_option linter.all false
set_option maxRecDepth 100000
set_option maxHeartbeats 4000000
/-! E6: down to what is computed first. -/
namespace DL
open PySem PySem.Spec PyProof.Rows L2
abbrev No : Str → Prop := fun _ => False
theorem bind_of {α β : Type} {r : Ev α} {f : α → Ev β} {Q : β → Prop} {E : Str → Prop} (h : r.wp (fun a => (f a).wp Q E) E) : (r.bind f).wp Q E := by
  induction r with
  | pk m k ih => exact ⟨h.1, fun r hr => ih r (h.2 r hr)⟩
  | _ => exact h
theorem noex_of {α : Type} {r : Ev α} {Q : α → Prop} {E : Str → Prop} (h : r.wp Q No) : (noex r).wp Q E := by
  induction r with
  | ok a => exact h
  | ex s => exact h
  | bad => exact h
  | pk m k ih => exact ⟨h.1, fun r hr => ih r (h.2 r hr)⟩
theorem evk_of {α : Type} {r : Ev α} {f : α → Res} {k : Kp} (h : r.wp (fun a => (f a).wp k) k.ex) : (evk r f).wp k := by
  induction r with
  | pk m g ih => exact ⟨h.1, fun r hr => ih r (h.2 r hr)⟩
  | _ => exact h
theorem thn_of {F : Nat → FV} {x : Res} {r : Sms} {k : Kp} (h : x.wp { k with nx := fun e => (r.ev F e).wp k }) : (x.thn F r).wp k := by
  induction x with
  | pk m g ih => exact ⟨h.1, fun r hr => ih r (h.2 r hr)⟩
  | _ => exact h
theorem gd_of {α : Type} {c : Bool} {r : Ev α} {Q : α → Prop} {E : Str → Prop} (hc : c = true) (h : r.wp Q E) : (gd c r).wp Q E := by subst hc; exact h
theorem gdR_of {c : Bool} {r : Res} {k : Kp} (hc : c = true) (h : r.wp k) : (gdR c r).wp k := by subst hc; exact h
/-- another's promise -/
theorem Ev.wp.no {α : Type} {r : Ev α} {P Q : α → Prop} {E : Str → Prop} (h : r.wp P No) (k : ∀ a, P a → Q a) : r.wp Q E := h.imp2 k fun _ z => z.elim
theorem sm_nat {m : Nat} (h : m < 2 ^ 1000) : smP (m : Int) := by
  unfold smP
  rw [Int.natAbs_natCast]
  by_cases z : m = 0
  · subst z; decide
  · have := (Nat.log2_lt z).mpr h
    omega
theorem rng_nat {m : Nat} {r : Int} (h : RngP (m : Int) r) (m1 : 1 ≤ m) : ∃ n : Nat, r = (n : Int) ∧ n < m := by
  obtain ⟨n, rfl⟩ := Int.eq_ofNat_of_zero_le h.1
  have := h.2.1 (by omega)
  exact ⟨n, rfl, by omega⟩
/-- a pick below m -/
theorem pk_nat {α : Type} {m : Int} {g : Int → Ev α} {Q : α → Prop} {E : Str → Prop} (n : Nat) (e : m = (n : Int)) (h1 : 1 ≤ n) (h2 : n < 2 ^ 1000) (h : ∀ r : Nat, r < n → (g (r : Nat)).wp Q E) : (Ev.pk m g).wp Q E := by
  subst e
  refine ⟨sm_nat h2, fun r hr => ?_⟩
  obtain ⟨a, rfl, ha⟩ := rng_nat hr h1
  exact h a ha
theorem pkR_nat {m : Int} {g : Int → Res} {k : Kp} (n : Nat) (e : m = (n : Int)) (h1 : 1 ≤ n) (h2 : n < 2 ^ 1000) (h : ∀ r : Nat, r < n → (g (r : Nat)).wp k) : (Res.pk m g).wp k := by
  subst e
  refine ⟨sm_nat h2, fun r hr => ?_⟩
  obtain ⟨a, rfl, ha⟩ := rng_nat hr h1
  exact h a ha
/-- a slot not looked at again -/
def jk (t : Sl) : Sl := t
theorem frzL_jk {vs k t r} : frzL vs k (jk t :: r) = jk (frzO vs k t) :: frzL vs (k + 1) r := (rfl)
theorem lt1000 {m : Nat} (h : m ≤ 2 ^ 60) : m < 2 ^ 1000 := Nat.lt_of_le_of_lt h (by decide)
theorem atI_nat {ds : List PyData} {r : Nat} (hr : r < ds.length) : atI ds (r : Nat) = some ds[r] := by
  unfold atI ixN
  rw [if_pos (by omega), if_pos (by omega), Option.bind_some, Int.toNat_natCast]
  exact List.getElem?_eq_getElem hr
end DL
set_option Elab.async false
set_option linter.all false
set_option maxRecDepth 100000
set_option maxHeartbeats 4000000
/-! E7: data that may be compared, shown, put in order. -/
namespace DL
open PySem PySem.Spec PyProof.Rows L2
/-- may be compared, of depth k -/
def dok (k : Nat) (d : PyData) : Prop := d.canLay0 = true ∧ d.depth ≤ k
theorem dok_int {k : Nat} {i : Int} : dok k (.int i) := ⟨rfl, Nat.zero_le _⟩
theorem dok_bool {k : Nat} {i : Bool} : dok k (.bool i) := ⟨rfl, Nat.zero_le _⟩
theorem dok_none {k : Nat} : dok k .none := ⟨rfl, Nat.zero_le _⟩
theorem layAll {xs : List PyData} (h : ∀ x ∈ xs, x.canLay0 = true) : PyData.canLayAll0 xs = true := by
  induction xs with
  | nil => rfl
  | cons x xs ih => simp only [PyData.canLayAll0, h x (List.mem_cons_self ..), ih fun y hy => h y (List.mem_cons_of_mem _ hy), Bool.and_self]
theorem depAll {k : Nat} {xs : List PyData} (h : ∀ x ∈ xs, x.depth ≤ k) : PyData.depthAll xs ≤ k := by
  induction xs with
  | nil => exact Nat.zero_le _
  | cons x xs ih => simp only [PyData.depthAll]; exact Nat.max_le.mpr ⟨h x (List.mem_cons_self ..), ih fun y hy => h y (List.mem_cons_of_mem _ hy)⟩
theorem dok_list {k : Nat} {xs : List PyData} (h : ∀ x ∈ xs, dok k x) : dok (k + 1) (.list xs) :=
  ⟨by simp only [PyData.canLay0]; exact layAll fun x hx => (h x hx).1, by simp only [PyData.depth]; exact Nat.succ_le_succ (depAll fun x hx => (h x hx).2)⟩
theorem dok_tuple {k : Nat} {xs : List PyData} (h : ∀ x ∈ xs, dok k x) : dok (k + 1) (.tuple xs) :=
  ⟨by simp only [PyData.canLay0]; exact layAll fun x hx => (h x hx).1, by simp only [PyData.depth]; exact Nat.succ_le_succ (depAll fun x hx => (h x hx).2)⟩
theorem dok.mono {k l : Nat} {d : PyData} (h : dok k d) (kl : k ≤ l) : dok l d := ⟨h.1, Nat.le_trans h.2 kl⟩
theorem shaped_of {k : Nat} {d : PyData} (h : dok k d) (kl : k ≤ 64) : SeqAt.shaped d = true := by
  unfold SeqAt.shaped
  rw [h.1, Bool.true_and, decide_eq_true_eq]
  exact Nat.le_trans h.2 kl
theorem shaped_str {x : Str} (h : PyData.strOk x = true) : SeqAt.shaped (.str x) = true := shaped_of (k := 0) ⟨h, Nat.zero_le _⟩ (by decide)
theorem sh_int {i : Int} : SeqAt.shaped (.int i) = true := (rfl)
theorem sh_bool {i : Bool} : SeqAt.shaped (.bool i) = true := (rfl)
theorem sh_none : SeqAt.shaped .none = true := (rfl)
theorem sh_nilL : SeqAt.shaped (.list []) = true := (rfl)
theorem sh_nilT : SeqAt.shaped (.tuple []) = true := (rfl)
theorem shortT_nil {xs : List PyData} : shortT xs [] = true := by
  cases xs with
  | nil => rfl
  | cons x r => cases x <;> rfl
theorem shortT_s {f g : Str} {r : List PyData} : shortT (.str f :: r) [.str g] = true := (rfl)
theorem shortT_cc {xs r : List PyData} {a b : PyData} : shortT xs (a :: b :: r) = false := by
  cases xs with
  | nil => first | rfl | (cases a <;> rfl)
  | cons x s => cases x <;> first | rfl | (cases a <;> rfl)
theorem shortT_i {xs : List PyData} {a : Int} : shortT xs [.int a] = false := by
  cases xs with
  | nil => rfl
  | cons x s => cases x <;> rfl
theorem eqv_nilL {xs : List PyData} : PyData.eqv (.list xs) (.list []) = xs.isEmpty := by
  cases xs <;> rfl
theorem eqv_nilT {xs : List PyData} : PyData.eqv (.tuple xs) (.tuple []) = xs.isEmpty := by
  cases xs <;> rfl
theorem eqvAll_map {α : Type} [DecidableEq α] {em : α → PyData} (h : ∀ a b, PyData.eqv (em a) (em b) = decide (a = b)) : ∀ xs ys : List α, PyData.eqvAll (xs.map em) (ys.map em) = decide (xs = ys)
  | [], [] => rfl
  | [], y :: ys => rfl
  | x :: xs, [] => rfl
  | x :: xs, y :: ys => by
    simp only [List.map_cons, PyData.eqvAll, h x y, eqvAll_map h xs ys, List.cons.injEq, Bool.decide_and]
theorem eqv_listM {α : Type} [DecidableEq α] {em : α → PyData} (h : ∀ a b, PyData.eqv (em a) (em b) = decide (a = b)) (xs ys : List α) : PyData.eqv (.list (xs.map em)) (.list (ys.map em)) = decide (xs = ys) := by
  simp only [PyData.eqv, eqvAll_map h]
theorem eqv_tupleM {α : Type} [DecidableEq α] {em : α → PyData} (h : ∀ a b, PyData.eqv (em a) (em b) = decide (a = b)) (xs ys : List α) : PyData.eqv (.tuple (xs.map em)) (.tuple (ys.map em)) = decide (xs = ys) := by
  simp only [PyData.eqv, eqvAll_map h]
theorem eqv_nat (i j : Nat) : PyData.eqv (.int (i : Int)) (.int (j : Int)) = decide (i = j) := by
  simp only [PyData.eqv]
  by_cases h : i = j
  · subst h; simp
  · have h' : ((i : Int) == (j : Int)) = false := by simp only [beq_eq_false_iff_ne]; omega
    rw [h', decide_eq_false h]
/-! ### what is shown -/
theorem digits_le (n k : Nat) (hk : 0 < k) (h : n < 10 ^ k) : (toString n).length ≤ k := by
  have e : toString n = String.ofList (Nat.toDigits 10 n) := rfl
  rw [e, String.length_ofList]
  exact (Nat.length_toDigits_le_iff (by decide) hk).mpr h
theorem ten_pow (k : Nat) : 2 ^ k ≤ 10 ^ k := Nat.pow_le_pow_left (by decide) k
theorem int_len {i : Int} {k : Nat} (hk : 0 < k) (h : i.natAbs < 2 ^ k) : (toString i).length ≤ k + 1 := by
  have t := ten_pow k
  cases i with
  | ofNat n => exact Nat.le_succ_of_le (digits_le n k hk (by simp at h; omega))
  | negSucc n =>
    have e : (toString (Int.negSucc n)) = "-" ++ toString (n + 1) := rfl
    rw [e, String.length_append]
    have := digits_le (n + 1) k hk (by simp at h; omega)
    have e1 : ("-" : String).length = 1 := rfl
    omega
theorem join_len (s : Str) (m : Nat) : ∀ {ts : List Str}, (∀ t ∈ ts, t.length ≤ m) → (s.join ts).length ≤ ts.length * (m + s.length)
  | [], _ => Nat.zero_le _
  | [t], h => by
    have := h t (List.mem_cons_self ..)
    show t.length ≤ 1 * _
    omega
  | t :: u :: r, h => by
    have h1 := h t (List.mem_cons_self ..)
    have h2 := join_len s m (ts := u :: r) fun x hx => h x (List.mem_cons_of_mem _ hx)
    have e : s.join (t :: u :: r) = t ++ s ++ s.join (u :: r) := rfl
    rw [e, Str.length_append, Str.length_append, List.length_cons, Nat.succ_mul]
    omega
theorem so_ofString (s : String) : PyData.strOk (Str.ofString s) = true := by
  rw [PySem.Str.ofString_eq_toList]
  unfold PyData.strOk
  simp only [Array.all_eq_true', List.mem_toArray, List.mem_map, forall_exists_index, and_imp, forall_apply_eq_imp_iff₂, decide_eq_true_eq]
  intro c _
  have := c.valid
  rcases this with h | h
  · exact Nat.lt_trans h (by decide)
  · exact h.2
theorem so_app {a b : Str} (ha : PyData.strOk a = true) (hb : PyData.strOk b = true) : PyData.strOk (a ++ b) = true := by
  unfold PyData.strOk at *
  show (a.cps ++ b.cps).all _ = true
  rw [Array.all_append, ha, hb]
  rfl
theorem so_join {s : Str} (hs : PyData.strOk s = true) : ∀ {ts : List Str}, (∀ t ∈ ts, PyData.strOk t = true) → PyData.strOk (s.join ts) = true
  | [], _ => so_ofString ""
  | [t], h => h t (List.mem_cons_self ..)
  | t :: u :: r, h => by
    have e : s.join (t :: u :: r) = t ++ s ++ s.join (u :: r) := rfl
    rw [e]
    exact so_app (so_app (h t (List.mem_cons_self ..)) hs) (so_join hs fun x hx => h x (List.mem_cons_of_mem _ hx))
theorem so_mem {xs : List PyData} (h : ∀ x ∈ xs, PyData.strOk x.shown = true) : ∀ t ∈ PyData.shownAll xs, PyData.strOk t = true := by
  induction xs with
  | nil => intro t ht; simp [PyData.shownAll] at ht
  | cons x xs ih =>
    intro t ht
    simp only [PyData.shownAll, List.mem_cons] at ht
    rcases ht with rfl | ht
    · exact h x (List.mem_cons_self ..)
    · exact ih (fun y hy => h y (List.mem_cons_of_mem _ hy)) t ht
/-- may be shown: of depth k, in m signs -/
structure rok (k m : Nat) (d : PyData) : Prop where
  s : d.showable = true
  l : d.shown.length ≤ m
  dep : d.depth ≤ k
  o : PyData.strOk d.shown = true
theorem sh_shown {k m : Nat} {d : PyData} (h : rok k m d) : SeqAt.shaped (.str d.shown) = true := shaped_str h.o
theorem rok.mono {k m k' m' : Nat} {d : PyData} (h : rok k m d) (a : k ≤ k') (b : m ≤ m') : rok k' m' d := ⟨h.s, Nat.le_trans h.l b, Nat.le_trans h.dep a, h.o⟩
theorem okRB_of {k m : Nat} {d : PyData} (h : rok k m d) (a : k ≤ 60) (b : m ≤ 16000000) : okRB d = true := by
  unfold okRB
  rw [h.s, Bool.true_and, Bool.and_eq_true, decide_eq_true_eq]
  exact ⟨leN_pos (Nat.le_trans h.l (Nat.le_trans b (by rw [sizeLine_eq]; decide))), Nat.le_trans h.dep a⟩
theorem shown_len (xs : List PyData) : (PyData.shownAll xs).length = xs.length := by
  induction xs with
  | nil => rfl
  | cons x xs ih => simp only [PyData.shownAll, List.length_cons, ih]
theorem shown_mem {m : Nat} {xs : List PyData} (h : ∀ x ∈ xs, x.shown.length ≤ m) : ∀ t ∈ PyData.shownAll xs, t.length ≤ m := by
  induction xs with
  | nil => intro t ht; simp [PyData.shownAll] at ht
  | cons x xs ih =>
    intro t ht
    simp only [PyData.shownAll, List.mem_cons] at ht
    rcases ht with rfl | ht
    · exact h x (List.mem_cons_self ..)
    · exact ih (fun y hy => h y (List.mem_cons_of_mem _ hy)) t ht
theorem showAll {xs : List PyData} (h : ∀ x ∈ xs, x.showable = true) : PyData.showableAll xs = true := by
  induction xs with
  | nil => rfl
  | cons x xs ih => simp only [PyData.showableAll, h x (List.mem_cons_self ..), ih fun y hy => h y (List.mem_cons_of_mem _ hy), Bool.and_self]
theorem rok_int {b : Nat} {i : Int} (hb : b ≤ 1900) (h : i.natAbs < 2 ^ b) : rok 0 (b + 2) (.int i) := by
  refine ⟨?_, ?_, Nat.zero_le _, by simp only [PyData.shown]; exact so_ofString _⟩
  · simp only [PyData.showable, decide_eq_true_eq]
    by_cases z : i.natAbs = 0
    · rw [z]; decide
    · have := (Nat.log2_lt z).mpr h
      omega
  · simp only [PyData.shown]
    rw [PySem.ofString_length]
    have := int_len (k := b + 1) (by omega) (Nat.lt_of_lt_of_le h (Nat.pow_le_pow_right (by decide) (by omega)))
    omega
theorem rok_bool {b : Bool} : rok 0 5 (.bool b) := by cases b <;> exact ⟨rfl, by decide, Nat.zero_le _, by decide +kernel⟩
theorem rok_none : rok 0 4 .none := ⟨rfl, by decide, Nat.zero_le _, by decide +kernel⟩
theorem rok_list {k m n : Nat} {xs : List PyData} (h : ∀ x ∈ xs, rok k m x) (hn : xs.length ≤ n) : rok (k + 1) (n * (m + 2) + 2) (.list xs) := by
  refine ⟨by simp only [PyData.showable]; exact showAll fun x hx => (h x hx).s, ?_, by simp only [PyData.depth]; exact Nat.succ_le_succ (depAll fun x hx => (h x hx).dep), ?_⟩
  rotate_left
  · simp only [PyData.shown]
    rw [listText_eq_join]
    exact so_app (so_app (so_ofString _) (so_join (so_ofString _) (so_mem fun x hx => (h x hx).o))) (so_ofString _)
  simp only [PyData.shown]
  rw [listText_eq_join, Str.length_append, Str.length_append]
  have h1 := join_len (Str.ofString ", ") m (shown_mem fun x hx => (h x hx).l)
  have e1 : (Str.ofString "[").length = 1 := by rw [PySem.ofString_length]; rfl
  have e2 : (Str.ofString "]").length = 1 := by rw [PySem.ofString_length]; rfl
  have e3 : (Str.ofString ", ").length = 2 := by rw [PySem.ofString_length]; rfl
  rw [shown_len, e3] at h1
  have := Nat.mul_le_mul_right (m + 2) hn
  omega
theorem rok_tuple {k m n : Nat} {xs : List PyData} (h : ∀ x ∈ xs, rok k m x) (hn : xs.length ≤ n) : rok (k + 1) (n * (m + 2) + 3) (.tuple xs) := by
  refine ⟨by simp only [PyData.showable]; exact showAll fun x hx => (h x hx).s, ?_, by simp only [PyData.depth]; exact Nat.succ_le_succ (depAll fun x hx => (h x hx).dep), ?_⟩
  rotate_left
  · simp only [PyData.shown]
    unfold tupleText
    exact so_app (so_app (so_ofString _) (so_join (so_ofString _) (so_mem fun x hx => (h x hx).o))) (so_ofString _)
  simp only [PyData.shown]
  unfold tupleText
  rw [Str.length_append, Str.length_append]
  have h1 := join_len (Str.ofString ", ") m (shown_mem fun x hx => (h x hx).l)
  have e1 : (Str.ofString "(").length = 1 := by rw [PySem.ofString_length]; rfl
  have e2 : (Str.ofString (if ((PyData.shownAll xs).length == 1) = true then ",)" else ")")).length ≤ 2 := by
    rw [PySem.ofString_length]; split <;> decide
  have e3 : (Str.ofString ", ").length = 2 := by rw [PySem.ofString_length]; rfl
  rw [shown_len, e3] at h1
  have := Nat.mul_le_mul_right (m + 2) hn
  omega
/-! ### put in order -/
theorem okMB_ints (ns : List Int) : okMB (ns.map PyData.int) = true := by
  unfold okMB alikeB
  rw [PySem.W.depth_ints]
  simp only [Bool.and_eq_true, List.all_eq_true]
  refine ⟨⟨fun d hd => fun e he => ?_, fun d hd => ?_⟩, by decide⟩
  · obtain ⟨i, _, rfl⟩ := List.mem_map.mp hd
    obtain ⟨j, _, rfl⟩ := List.mem_map.mp he
    rfl
  · obtain ⟨i, _, rfl⟩ := List.mem_map.mp hd
    rfl
theorem okSB_ints (ns : List Int) : okSB (ns.map PyData.int) = true := by
  unfold okSB
  rw [okMB_ints, Bool.true_and, Bool.or_eq_true, Bool.or_eq_true]
  left
  right
  rw [List.all_eq_true]
  intro d hd
  obtain ⟨i, _, rfl⟩ := List.mem_map.mp hd
  rfl
theorem filV_mapD {f : PyData → Ev (Option PyData)} (g : PyData → PyData) {xs : List PyData} (h : ∀ x ∈ xs, f x = .ok (some (g x))) : filV f xs = .ok (xs.map g) := by
  have := filV_map (em := _root_.id) g (xs := xs) h
  rwa [List.map_id] at this
theorem filV_filD {f : PyData → Ev (Option PyData)} (t : PyData → Bool) (g : PyData → PyData) {xs : List PyData} (h : ∀ x ∈ xs, f x = .ok (cond (t x) (some (g x)) none)) : filV f xs = .ok ((xs.filter t).map g) := by
  have := filV_filter (em := _root_.id) t g (xs := xs) h
  rwa [List.map_id] at this
theorem allBools_map {α : Type} (f : α → Bool) : ∀ ds : List α, allBools (ds.map fun d => .bool (f d)) = some (ds.map f)
  | [] => rfl
  | d :: ds => by rw [List.map_cons, allBools, allBools_map f ds]; rfl
theorem all_map_id {α : Type} (f : α → Bool) (ds : List α) : (ds.map f).all _root_.id = ds.all f := by rw [List.all_map]; rfl
theorem dok_ones {α : Type} {xs : List α} : dok 1 (.list (xs.map fun _ => PyData.int 1)) := dok_list fun x hx => by obtain ⟨_, _, rfl⟩ := List.mem_map.mp hx; exact dok_int
theorem sh_ones {α : Type} {xs : List α} : SeqAt.shaped (.list (xs.map fun _ => PyData.int 1)) = true := shaped_of dok_ones (by decide)
theorem filt_empty {α : Type} (t : α → Bool) (g : α → PyData) (xs : List α) : ((xs.filter t).map g).isEmpty = xs.all fun x => !t x := by
  induction xs with
  | nil => rfl
  | cons x xs ih =>
    rw [List.filter_cons, List.all_cons]
    cases t x with
    | true => rfl
    | false => exact ih
end DL
set_option Elab.async false
set_option linter.all false
set_option maxRecDepth 100000
set_option maxHeartbeats 4000000
/-! E8: what is wanted of a computation, closed: it is opened by these rules alone. -/
namespace DL
open PySem PySem.Spec PyProof.Rows L2
@[irreducible] def Ev.wq {α : Type} (r : Ev α) (Q : α → Prop) (E : Str → Prop) : Prop := r.wp Q E
@[irreducible] def Res.wq (r : Res) (k : Kp) : Prop := r.wp k
theorem Ev.wq_iff {α : Type} {r : Ev α} {Q : α → Prop} {E : Str → Prop} : r.wq Q E ↔ r.wp Q E := by
  unfold Ev.wq
  exact Iff.rfl
theorem Res.wq_iff {r : Res} {k : Kp} : r.wq k ↔ r.wp k := by
  unfold Res.wq
  exact Iff.rfl
theorem Ev.wq.imp2 {α : Type} {r : Ev α} {Q Q' : α → Prop} {E E' : Str → Prop} (h : r.wq Q E) (k : ∀ a, Q a → Q' a) (l : ∀ s, E s → E' s) : r.wq Q' E' := Ev.wq_iff.mpr ((Ev.wq_iff.mp h).imp2 k l)
theorem Ev.wq.imp {α : Type} {r : Ev α} {Q Q' : α → Prop} {E : Str → Prop} (h : r.wq Q E) (k : ∀ a, Q a → Q' a) : r.wq Q' E := h.imp2 k fun _ z => z
theorem Ev.wq.no {α : Type} {r : Ev α} {P Q : α → Prop} {E : Str → Prop} (h : r.wq P No) (k : ∀ a, P a → Q a) : r.wq Q E := h.imp2 k fun _ z => z.elim
theorem Res.wq.imp {x : Res} {k k' : Kp} (h : x.wq k) (a : ∀ e, k.nx e → k'.nx e) (b : ∀ e, k.ct e → k'.ct e) (c : ∀ e, k.bk e → k'.bk e) (d : ∀ f d, k.rt f d → k'.rt f d) (s : ∀ e, k.ex e → k'.ex e) : x.wq k' := Res.wq_iff.mpr ((Res.wq_iff.mp h).imp a b c d s)
theorem bindQ {α β : Type} {r : Ev α} {f : α → Ev β} {Q : β → Prop} {E : Str → Prop} (h : r.wq (fun a => (f a).wq Q E) E) : (r.bind f).wq Q E :=
  Ev.wq_iff.mpr (bind_of ((Ev.wq_iff.mp h).imp fun _ h => Ev.wq_iff.mp h))
theorem noexQ {α : Type} {r : Ev α} {Q : α → Prop} {E : Str → Prop} (h : r.wq Q No) : (noex r).wq Q E := Ev.wq_iff.mpr (noex_of (Ev.wq_iff.mp h))
theorem evkQ {α : Type} {r : Ev α} {f : α → Res} {k : Kp} (h : r.wq (fun a => (f a).wq k) k.ex) : (evk r f).wq k :=
  Res.wq_iff.mpr (evk_of ((Ev.wq_iff.mp h).imp fun _ h => Res.wq_iff.mp h))
theorem thnQ {F : Nat → FV} {x : Res} {r : Sms} {k : Kp} (h : x.wq { k with nx := fun e => (r.ev F e).wq k }) : (x.thn F r).wq k :=
  Res.wq_iff.mpr (thn_of (Res.wp.imp (Res.wq_iff.mp h) (fun _ h => Res.wq_iff.mp h) (fun _ h => h) (fun _ h => h) (fun _ _ h => h) (fun _ h => h)))
theorem valQ {x : Res} {Q : Val → Prop} {E : Str → Prop} (h : x.wq { nx := fun _ => Q (false, .none), rt := fun f d => Q (f, d), ex := E }) : x.val.wq Q E := Ev.wq_iff.mpr (val_of (Res.wq_iff.mp h))
theorem cndQ {F : Nat → FV} {r : Ev (Bool × Env)} {a b : Sms} {k : Kp} (h : r.wq (fun p => (Res.cnd F (.ok p) a b).wq k) k.ex) : (Res.cnd F r a b).wq k :=
  Res.wq_iff.mpr (cnd_of ((Ev.wq_iff.mp h).imp fun _ h => Res.wq_iff.mp h))
theorem gdQ {α : Type} {c : Bool} {r : Ev α} {Q : α → Prop} {E : Str → Prop} (hc : c = true) (h : r.wq Q E) : (gd c r).wq Q E := by subst hc; exact h
theorem gdRQ {c : Bool} {r : Res} {k : Kp} (hc : c = true) (h : r.wq k) : (gdR c r).wq k := by subst hc; exact h
theorem wq_nx {e : Env} {k : Kp} : (Res.nx e).wq k = k.nx e := by unfold Res.wq; rfl
theorem wq_rt {f d} {k : Kp} : (Res.rt f d).wq k = k.rt f d := by unfold Res.wq; rfl
theorem wq_ct {e : Env} {k : Kp} : (Res.ct e).wq k = k.ct e := by unfold Res.wq; rfl
theorem wq_bk {e : Env} {k : Kp} : (Res.bk e).wq k = k.bk e := by unfold Res.wq; rfl
theorem wq_ex {e : Str} {k : Kp} : (Res.ex e).wq k = k.ex e := by unfold Res.wq; rfl
theorem Ev.wq_ok {α : Type} {a : α} {Q : α → Prop} {E : Str → Prop} : (Ev.ok a).wq Q E = Q a := by unfold Ev.wq; rfl
theorem Ev.wq_ex {α : Type} {s : Str} {Q : α → Prop} {E : Str → Prop} : (Ev.ex s : Ev α).wq Q E = E s := by unfold Ev.wq; rfl
theorem pkQ {α : Type} {m : Int} {g : Int → Ev α} {Q : α → Prop} {E : Str → Prop} (n : Nat) (e : m = (n : Int)) (h1 : 1 ≤ n) (h2 : n < 2 ^ 1000) (h : ∀ r : Nat, r < n → (g (r : Nat)).wq Q E) : (Ev.pk m g).wq Q E :=
  Ev.wq_iff.mpr (pk_nat n e h1 h2 fun r hr => Ev.wq_iff.mp (h r hr))
theorem pkRQ {m : Int} {g : Int → Res} {k : Kp} (n : Nat) (e : m = (n : Int)) (h1 : 1 ≤ n) (h2 : n < 2 ^ 1000) (h : ∀ r : Nat, r < n → (g (r : Nat)).wq k) : (Res.pk m g).wq k :=
  Res.wq_iff.mpr (pkR_nat n e h1 h2 fun r hr => Res.wq_iff.mp (h r hr))
theorem forQ {step : PyData → Env → Res} {k : Kp} {xs : List PyData} {env : Env} (I : Nat → Env → Prop) (h0 : I 0 env)
    (hs : ∀ i x e, xs[i]? = some x → I i e → (step x e).wq { k with nx := I (i + 1), ct := I (i + 1), bk := k.nx }) (he : ∀ e, I xs.length e → k.nx e) : (forV step xs env).wq k :=
  Res.wq_iff.mpr (forV_wp I h0 (fun i x e hx hi => Res.wq_iff.mp (hs i x e hx hi)) he)
theorem filQ {f : PyData → Ev (Option PyData)} {Q : List PyData → Prop} {E : Str → Prop} {xs : List PyData} (I : Nat → List PyData → Prop) (hs : ∀ i x acc, xs[i]? = some x → I i acc → (f x).wq (fun o => I (i + 1) (acc ++ o.toList)) E) {acc : List PyData} (h0 : I 0 acc) (hq : ∀ L, I xs.length (acc ++ L) → Q L) : (filV f xs).wq Q E :=
  Ev.wq_iff.mpr (filV_wp I (fun i x a hx hi => Ev.wq_iff.mp (hs i x a hx hi)) h0 hq)
/-- a while loop with picks: each turn goes on with what is kept, by a measure -/
theorem whlQ {t : Env → Ev (Bool × Env)} {b : Env → Res} {k : Kp} (I : Env → Prop) (μ : Env → Nat)
    (ht : ∀ e, I e → (t e).wq (fun p => match p.1 with | false => k.nx p.2 | true => (b p.2).wq { k with nx := fun e' => I e' ∧ μ e' < μ e, ct := fun e' => I e' ∧ μ e' < μ e, bk := k.nx }) k.ex) :
    ∀ (n : Nat) (env : Env), I env → μ env < n → (whlV t b n env).wq k
  | 0, env, h, hn => by omega
  | n + 1, env, h, hn => by
    unfold whlV
    refine evkQ ((ht env h).imp fun p q => ?_)
    obtain ⟨c, e'⟩ := p
    cases c with
    | false => rw [wq_nx]; exact q
    | true =>
      have q : (b e').wq { k with nx := fun e' => I e' ∧ μ e' < μ env, ct := fun e' => I e' ∧ μ e' < μ env, bk := k.nx } := q
      refine Res.wq_iff.mpr ?_
      show ((b e').lp (whlV t b n)).wp k
      exact Res.use (Φ := fun x => (x.lp (whlV t b n)).wp k) (Res.wq_iff.mp q) (fun m g a b => ⟨a, b⟩) (fun e h => Res.wq_iff.mp (whlQ I μ ht n e h.1 (by have := h.2; omega))) (fun f d h => h) (fun e h => h) (fun e h => Res.wq_iff.mp (whlQ I μ ht n e h.1 (by have := h.2; omega))) (fun e h => h)
end DL
set_option Elab.async false
set_option linter.all false
set_option maxRecDepth 100000
set_option maxHeartbeats 4000000
/-! Dv: things in a drawn order: what _law_mixed does. -/
namespace DL
open PySem PySem.Spec PyProof.Rows L2
/-- all that may come of things taken one by one -/
def mixP : Nat → List PyData → List PyData → (List PyData → Prop) → Prop
  | 0, _, acc, Q => Q acc
  | t + 1, xs, acc, Q => ∀ r (h : r < xs.length), mixP t (xs.eraseIdx r) (acc ++ [xs[r]]) Q
def cMixF : Fs := fun sl Q _ => ∃ d xs, sl = [.src, .sh d] ∧ (d = .list xs ∨ d = .tuple xs) ∧ xs.length ≤ 1000 ∧ mixP xs.length xs [] fun l => Q true (.list l)
def rListO (K : PySem.W.Frag) : List V → Hp → VK → Prop := fun xs H Q => ∃ p ys, xs = [.ref p] ∧ (SqL K H p ys ∨ SqT K H p ys) ∧ ∀ l, H l = none → Q (.ref l) (upd H l (.lst ys))
def tMixE (K : PySem.W.Frag) (mg : Str → Option Value) : TE := tBM K "list" rPopAt (tVar 2) (tCons (tCall (SpOf K mg cPickF) [] E0 (tCons (tVar 0) (tCons (tCB (rLen1 K) (tCons (tVar 2) tNil)) tNil))) tNil)
def tMixed (K : PySem.W.Frag) (mg : Str → Option Value) : TS := tSeq (tAsg (tCB (rListO K) (tCons (tVar 1) tNil)) (gName 2))
  (tRet (tLc (iRng1 (tCons (tCB (rLen1 K) (tCons (tVar 2) tNil)) tNil)) (gName 4) tYes (tMixE K mg) [3, 4]))
structure MixW (K : PySem.W.Frag) (S : Sx) (G H0 : Hp) (Q : List PyData → Prop) (sa ca p D : Addr) (t : Nat) (H : Hp) : Prop where
  sub : Sub G H
  src : SrcOk S G H
  kp : ∀ a o, H0 a = some o → nsrc S a → H a = some o
  at_ : ∃ rest acc drest dacc, H p = some (.lst rest) ∧ H D = some (.lst acc) ∧ RAll K G rest drest ∧ RAll K G acc dacc ∧ rest.length = t ∧ acc.length + t ≤ 1000 ∧ mixP t drest dacc Q
theorem mixed_sem {K : PySem.W.Frag} {mg : Str → Option Value} {Dn : Ends} {S : Sx} {G H : Hp} {sa ca : Addr} {v : V} {d : PyData} {xs : List PyData} {Q : List PyData → Prop} (hS : S = some (sa, ca)) (sub : Sub G H) (so : SrcOk S G H)
    (hv : R K G v d) (hd : d = .list xs ∨ d = .tuple xs) (len : xs.length ≤ 1000) (mix : mixP xs.length xs [] Q)
    (want : ∀ D H' l, Q l → Ext S G H G H' → H D = none → (∃ acc, H' D = some (.lst acc) ∧ RAll K G acc l) → G D = none → Dn.rt (.ref D) H') :
    tMixed K mg Dn [some (.ref sa), some v, none, none, none] H := by
  have gn : ∀ {a : Addr}, H a = none → G a = none := fun {a} e => by
    cases z : G a with
    | none => rfl
    | some u => rw [sub _ _ z] at e; cases e
  obtain ⟨q, ys, rfl, hq, ry⟩ : ∃ q ys, v = .ref q ∧ (SqL K H q ys ∨ SqT K H q ys) ∧ RAll K G ys xs := by
    rcases hd with rfl | rfl
    · obtain ⟨a, ys, rfl, h1, r⟩ := hv.lst'
      exact ⟨a, ys, rfl, .inl (SqL.of (sub _ _ h1)), r⟩
    · obtain ⟨a, ys, rfl, h1, r⟩ := hv.tup'
      exact ⟨a, ys, rfl, .inr (sub.t h1), r⟩
  refine ⟨.ref q, rfl, q, ys, rfl, hq, fun p np => ?_⟩
  obtain ⟨g1, g2, ne, ns, l, m, t, h1, h2, hr⟩ := so sa ca hS
  have psa : p ≠ sa := fun z => by rw [z, h1] at np; cases np
  have pca : p ≠ ca := fun z => by rw [z, h2] at np; cases np
  have gp : G p = none := gn np
  have elen : ys.length = xs.length := ry.length
  refine ⟨.ref p, rfl, .ref p, ys.length, rfl, .inl ⟨ys, SqL.of upd_same, rfl⟩, (ys.length : Nat), rfl, by omega, by omega, fun D nD => ?_⟩
  have pD : p ≠ D := fun z => by rw [z, upd_same] at nD; cases nD
  have nD0 : H D = none := by rw [upd_ne pD.symm] at nD; exact nD
  have Dsa : D ≠ sa := fun z => by rw [z, h1] at nD0; cases nD0
  have Dca : D ≠ ca := fun z => by rw [z, h2] at nD0; cases nD0
  have gD : G D = none := gn nD0
  have hne : ∀ {a : Addr} {o : HO}, H a = some o → a ≠ p ∧ a ≠ D := fun {a o} e => ⟨fun z => (by rw [z, np] at e; cases e), fun z => (by rw [z, nD0] at e; cases e)⟩
  have two : ∀ {H1 : Hp} {b : Addr} {o : HO}, (b = p ∨ b = D) → Sub G H1 → SrcOk S G H1 → (∀ a o, H a = some o → nsrc S a → H1 a = some o) →
      Sub G (upd H1 b o) ∧ SrcOk S G (upd H1 b o) ∧ ∀ a o', H a = some o' → nsrc S a → upd H1 b o a = some o' := fun {H1 b o} hb s1 s2 k1 => by
    have gb : G b = none := by rcases hb with rfl | rfl <;> assumption
    have bs : b ≠ sa ∧ b ≠ ca := by rcases hb with rfl | rfl <;> exact ⟨by assumption, by assumption⟩
    refine ⟨fun a u e => ?_, fun sa' ca' z => ?_, fun a o' e n => ?_⟩
    · rw [upd_ne (fun z => by rw [z, gb] at e; cases e)]; exact s1 _ _ e
    · rw [hS] at z
      cases z
      obtain ⟨g1, g2, ne, ns, l, m, t, h1, h2, hr⟩ := s2 sa ca hS
      exact ⟨g1, g2, ne, ns, l, m, t, by rw [upd_ne bs.1.symm]; exact h1, by rw [upd_ne bs.2.symm]; exact h2, hr⟩
    · have := hne e
      rw [upd_ne (by rcases hb with rfl | rfl; exact this.1; exact this.2)]
      exact k1 a o' e n
  refine ⟨fun i k I => k + i = ys.length ∧ MixW K S G H Q sa ca p D k I, ⟨ys.length, rfl, ?_⟩, ?_⟩
  · obtain ⟨a1, a2, a3⟩ := two (o := .lst ys) (.inl rfl) sub so (fun a o e _ => e)
    obtain ⟨b1, b2, b3⟩ := two (o := .lst []) (.inr rfl) a1 a2 a3
    exact ⟨b1, b2, b3, ys, [], xs, [], by rw [upd_ne pD, upd_same], upd_same, ry, .nil, rfl, by simp; omega, by rw [elen]; exact mix⟩
  rintro i k I ⟨hk, s1, s2, kp, rest, acc, drest, dacc, e1, e2, r1, r2, l1, l2, mx⟩
  by_cases hi : i < ys.length
  · obtain ⟨k, rfl⟩ : ∃ j, k = j + 1 := ⟨k - 1, by omega⟩
    refine .inr ⟨hi, fun J => MixW K S G H Q sa ca p D k J, fun J e => ⟨k, by omega, by omega, e⟩, ?_⟩
    rintro x J ⟨rfl, rfl⟩
    refine ⟨rfl, ?_⟩
    refine ⟨.ref p, rfl, ?_, ?_⟩
    · exact .inl ⟨rfl, _, SqL.of e1⟩
    refine ⟨.ref sa, rfl, .ref p, rfl, .ref p, rest.length, rfl, .inl ⟨rest, SqL.of e1, rfl⟩, ?_⟩
    refine ⟨S, G, [.src, .sh (.int (rest.length : Nat))], fun _ d => ∃ r : Nat, r < rest.length ∧ d = .int (r : Nat), fun _ => False, s1, s2, .cons ⟨sa, ca, hS, rfl⟩ (.cons (R.int _) .nil), ?_, fun x v G' H' _ z => z.elim, ?_⟩
    · refine ⟨_, rfl, log2_small (by omega), fun r hr => ?_⟩
      obtain ⟨h0, h1, _⟩ := hr
      have := h1 (by omega)
      exact ⟨r.toNat, by omega, by rw [Int.toNat_of_nonneg h0]⟩
    · rintro v H2 ⟨G2, fr, d2, x2, rv, r, hr, rfl⟩
      have ev : v = .int (r : Nat) := by
        cases fr with
        | false => exact R.int' (by simpa [RF] using rv)
        | true =>
          simp only [RF, if_true] at rv
          exact rv.1.elim
      subst ev
      have q1 : H2 p = some (.lst rest) := x2.kp p _ e1 fun sa' ca' z => by rw [hS] at z; cases z; exact ⟨psa, pca⟩
      have q2 : H2 D = some (.lst acc) := x2.kp D _ e2 fun sa' ca' z => by rw [hS] at z; cases z; exact ⟨Dsa, Dca⟩
      have sg : Sub G H2 := fun a o e => x2.gh _ _ (x2.gg _ _ e)
      have sr : SrcOk S G H2 := fun sa' ca' z => by
        obtain ⟨_, _, w⟩ := x2.src sa' ca' z
        obtain ⟨g1, g2, _⟩ := s2 sa' ca' z
        exact ⟨g1, g2, w⟩
      have kp2 : ∀ a o, H a = some o → nsrc S a → H2 a = some o := fun a o e n => x2.kp a o (kp a o e n) n
      obtain ⟨y, ey⟩ : ∃ y, rest[r]? = some y := ⟨rest[r], List.getElem?_eq_getElem hr⟩
      refine ⟨p, rest, (r : Nat), r, y, rfl, rfl, q1, by omega, by omega, ?_, ey, acc, ?_, by rw [sizeLine_eq]; omega, ?_⟩
      · refine (ixN_seq (i := ((r : Nat) : Int)) (j := r) ?_).1
        unfold ixN
        rw [if_pos (Int.natCast_nonneg r), if_pos (by omega), Int.toNat_natCast]
      · rw [upd_ne pD.symm]; exact q2
      · obtain ⟨a1, a2, a3⟩ := two (o := .lst (rest.eraseIdx r)) (.inl rfl) sg sr kp2
        obtain ⟨b1, b2, b3⟩ := two (o := .lst (acc ++ [y])) (.inr rfl) a1 a2 a3
        obtain ⟨dy, edy, ry'⟩ := r1.getV r ey
        have hr' : r < drest.length := by rw [← r1.length]; exact hr
        have : drest[r] = dy := by rw [List.getElem?_eq_getElem hr'] at edy; exact Option.some.inj edy
        refine ⟨b1, b2, b3, rest.eraseIdx r, acc ++ [y], drest.eraseIdx r, dacc ++ [drest[r]], by rw [upd_ne pD, upd_same], upd_same, r1.erase r, r2.append (.one (by rw [this]; exact ry')), ?_, ?_, mx r hr'⟩
        · rw [List.length_eraseIdx_of_lt hr]; omega
        · rw [List.length_append]; simp; omega
  · refine .inl ⟨?_, want D I dacc ?_ ⟨.refl G, s1, kp, fun _ _ => rfl, s2⟩ nD0 ⟨acc, e2, r2⟩ gD⟩
    · show ((ys.length : Nat) : Int).toNat ≤ i
      omega
    · have : k = 0 := by omega
      subst this
      exact mx
theorem mixed_spec {K : PySem.W.Frag} {mg : Str → Option Value} {ws : List V} {H : Hp} {Q : VK} {E : XK} (h : SpOf K mg cMixF ws H Q E) : tMixed K mg { nx := fun _ G => Q .non G, rt := Q } (L2.start ["source", "things", "rest", ".0", "lap"] ws) H := by
  obtain ⟨S, G, sl, Qp, Ep, sub, so, pr, ⟨d, xs, rfl, hd, len, mix⟩, rz, fin⟩ := h
  cases pr with
  | cons a1 pr =>
  cases pr with
  | cons a2 pr =>
  cases pr
  obtain ⟨sa, ca, eS, rfl⟩ := a1
  refine mixed_sem eS sub so a2 hd len mix fun D H' l q x n ⟨acc, e, r⟩ gD => fin _ _ ⟨G, true, _, x, ?_, q⟩
  simp only [RF, if_true]
  exact ⟨⟨D, acc, rfl, e, gD, r⟩, fun a z => by cases z; exact n⟩
end DL
set_option Elab.async false
set_option linter.all false
set_option maxRecDepth 100000
set_option maxHeartbeats 4000000
/-! E9: things in a drawn order; sorted by a def as key. -/
namespace DL
open PySem PySem.Spec PyProof.Rows L2
def mixV : Nat → List PyData → List PyData → Ev Val
  | 0, _, acc => .ok (true, .list acc)
  | t + 1, xs, acc => .pk (xs.length : Nat) fun r => match xs[r.toNat]? with
    | some x => mixV t (xs.eraseIdx r.toNat) (acc ++ [x])
    | none => .bad
theorem mixV_ok {Q : Bool → PyData → Prop} {E : Str → Prop} : ∀ {t : Nat} {xs acc : List PyData}, (mixV t xs acc).wp (fun p => Q p.1 p.2) E → mixP t xs acc fun l => Q true (.list l)
  | 0, _, _, h => h
  | t + 1, xs, acc, h => fun r hr => by
    have h := h.2 (r : Nat) ⟨by omega, fun _ => by omega, fun z => by omega⟩
    simp only [Int.toNat_natCast, List.getElem?_eq_getElem hr] at h
    exact mixV_ok h
@[irreducible] def F_mixed : FV := fun sl => match sl with
  | [.src, .sh (.list xs)] => gd (leN xs.length 1000) (mixV xs.length xs [])
  | [.src, .sh (.tuple xs)] => gd (leN xs.length 1000) (mixV xs.length xs [])
  | _ => .bad
theorem mixed_ok {sl : List Sl} {Q : Bool → PyData → Prop} {E : Str → Prop} (h : wOf F_mixed sl Q E) : cMixF sl Q E := by
  unfold wOf F_mixed at h
  split at h
  · obtain ⟨c, h⟩ := gd_wp h
    exact ⟨_, _, rfl, .inl rfl, leN_iff.mp c, mixV_ok h⟩
  · obtain ⟨c, h⟩ := gd_wp h
    exact ⟨_, _, rfl, .inr rfl, leN_iff.mp c, mixV_ok h⟩
  · exact h.elim
theorem mixV_wq {L : List PyData} {Q : Val → Prop} {E : Str → Prop} (hL : L.length < 2 ^ 60) (q : ∀ ys, ys.Perm L → Q (true, .list ys)) : ∀ {t : Nat} {xs acc : List PyData}, xs.length = t → (acc ++ xs).Perm L → (mixV t xs acc).wq Q E
  | 0, xs, acc, hl, hp => by
    have : xs = [] := List.eq_nil_of_length_eq_zero hl
    subst this
    rw [List.append_nil] at hp
    unfold mixV
    rw [Ev.wq_ok]
    exact q acc hp
  | t + 1, xs, acc, hl, hp => by
    have h1 := hp.length_eq
    rw [List.length_append] at h1
    unfold mixV
    refine pkQ xs.length rfl (by omega) (lt1000 (by omega)) fun r hr => ?_
    simp only [Int.toNat_natCast, List.getElem?_eq_getElem hr]
    refine mixV_wq hL q (t := t) (by rw [List.length_eraseIdx_of_lt hr, hl]; rfl) (List.Perm.trans ?_ hp)
    rw [List.append_assoc]
    refine List.Perm.append_left acc ?_
    rw [List.eraseIdx_eq_take_drop_succ]
    have e : xs.take r ++ (xs[r] :: xs.drop (r + 1)) = xs := by rw [List.getElem_cons_drop, List.take_append_drop]
    have := (List.perm_middle (a := xs[r]) (l₁ := xs.take r) (l₂ := xs.drop (r + 1))).symm
    rw [e] at this
    exact this
theorem F_mixed_wq {d : PyData} {xs : List PyData} (hd : d = .list xs ∨ d = .tuple xs) (h : xs.length ≤ 1000) : (F_mixed [.src, .sh d]).wq (fun v => ∃ ys, ys.Perm xs ∧ v = (true, .list ys)) No := by
  unfold F_mixed
  rcases hd with rfl | rfl <;>
  · show (gd (leN xs.length 1000) (mixV xs.length xs [])).wq _ No
    rw [gd_pos (leN_pos h)]
    exact mixV_wq (L := xs) (by omega) (fun ys p => ⟨ys, p, rfl⟩) rfl (List.Perm.refl _)
/-! ### sorted(xs, key=f) -/
def okOf (r : Ev Val) : Bool := match r with
  | .ok _ => true
  | _ => false
def valOf (r : Ev Val) : PyData := match r with
  | .ok p => p.2
  | _ => .none
def keyD (f : FV) (x : PyData) : PyData := valOf (f [.sh x])
@[irreducible] def sortF (f : FV) : FV := fun sl => match sl with
  | [.sh (.list xs)] => gd ((xs.all fun x => okOf (f [.sh x])) && (okSB (xs.map (keyD f)) && leN xs.length lim)) (.ok (true, .list (msK (PySem.W.dataLe false (keyD f)) xs.length xs)))
  | _ => .bad
theorem sortF_ok {f : FV} {sl : List Sl} {Q : Bool → PyData → Prop} {E : Str → Prop} (h : (sortF f sl).wp (fun p => Q p.1 p.2) E) : SortP (wOf f) sl Q E := by
  unfold sortF at h
  split at h
  · rename_i xs
    obtain ⟨c, h⟩ := gd_wp h
    rw [msK_eq (Nat.le_refl _)] at h
    rw [Bool.and_eq_true, Bool.and_eq_true] at c
    refine ⟨xs, keyD f, rfl, fun x hx => ?_, okSB_ok c.2.1, leN_iff.mp c.2.2, h⟩
    have := List.all_eq_true.mp c.1 x hx
    unfold wOf keyD
    cases e : f [.sh x] with
    | ok p => exact rfl
    | _ => rw [e] at this; cases this
  · exact h.elim
theorem under_sort {C : Nat → Fs} {j : Nat} {f : FV} {r : List (Nat × FV)} (h : C (10000 + j) = SortP (wOf f)) (t : Under (tab r) C) : Under (tab ((10000 + j, sortF f) :: r)) C := under_imp (fun sl Q E w => by rw [h]; exact sortF_ok w) t
theorem sortF_map {f : FV} {α : Type} {em : α → PyData} {k : α → PyData} {zs : List α} {r : α → α → Bool} (hk : ∀ z ∈ zs, ∃ b, f [.sh (em z)] = .ok (b, k z)) (hs : okSB (zs.map k) = true) (hl : zs.length ≤ 1000000)
    (hr : ∀ a ∈ zs, ∀ b ∈ zs, r a b = PySem.W.dataLe false _root_.id (k a) (k b)) : sortF f [.sh (.list (zs.map em))] = .ok (true, .list ((zs.mergeSort r).map em)) := by
  have key : ∀ z ∈ zs, keyD f (em z) = k z := fun z hz => by
    obtain ⟨b, e⟩ := hk z hz
    unfold keyD
    rw [e]
    rfl
  unfold sortF
  show gd _ _ = _
  rw [msK_eq (Nat.le_refl _), gd_pos]
  · rw [List.map_mergeSort (s := PySem.W.dataLe false (keyD f))]
    intro a ha b hb
    rw [hr a ha b hb]
    show PySem.W.dataLe false _root_.id (k a) (k b) = PySem.W.dataLe false (keyD f) (em a) (em b)
    unfold PySem.W.dataLe PySem.W.sortLe
    simp only [key a ha, key b hb]
    rfl
  · rw [Bool.and_eq_true, Bool.and_eq_true]
    refine ⟨List.all_eq_true.mpr fun x hx => ?_, ?_, leN_pos (by rw [List.length_map]; unfold lim; omega)⟩
    · obtain ⟨z, hz, rfl⟩ := List.mem_map.mp hx
      obtain ⟨b, e⟩ := hk z hz
      rw [e]
      rfl
    · rw [List.map_map, show zs.map (keyD f ∘ em) = zs.map k from List.map_congr_left key]
      exact hs
end DL
set_option Elab.async false
set_option linter.all false
set_option maxRecDepth 100000
set_option maxHeartbeats 4000000
/-! W1: polynomials and words: the defs' trees and what they are worth. -/
namespace W
open PySem PySem.Spec PyProof.Rows L2 DL
local macro_rules | `(tactic| walk_at "ev") => `(tactic| try simp only [Sms.ev_cons, Sms.ev_nil, Ex_ev_var, Ex_ev_lit, Ex_ev_tup, Ex_ev_lst, Ex_ev_bin, Ex_ev_neg, Ex_ev_cmp, Ex_ev_cmp2, Ex_ev_and_, Ex_ev_or_, Ex_ev_not_, Ex_ev_ite, Ex_ev_call, Ex_ev_bi, Ex_ev_mth, Ex_ev_ix, Ex_ev_slc, Ex_ev_isa, Ex_ev_rev, Ex_ev_dic0, Ex_ev_comp, Exo_ev_no, Exo_ev_so, Exs_ev_nil, Exs_ev_cons, Exs_evt_nil, Exs_evt_cons, It_ev_seq, It_ev_range1, It_ev_range2, It_ev_enum, It_ev_zips, It_ev_zip, Exs_evf_nil, Exs_evf_cons, Sm_ev_asg_nm, Sm_ev_asg_tp, Sm_ev_par, Sm_ev_aug, Sm_ev_app, Sm_ev_setx, Sm_ev_ite, Sm_ev_for_, Sm_ev_whl, Sm_ev_retn, Sm_ev_brk, Sm_ev_cnt, Sm_ev_pass, Sm_ev_expr, Sm_ev_ret_lit, Sm_ev_ret_tup, Sm_ev_ret_lst, Sm_ev_ret_bin, Sm_ev_ret_neg, Sm_ev_ret_cmp, Sm_ev_ret_cmp2, Sm_ev_ret_and_, Sm_ev_ret_or_, Sm_ev_ret_not_, Sm_ev_ret_ite, Sm_ev_ret_call, Sm_ev_ret_bi, Sm_ev_ret_mth, Sm_ev_ret_ix, Sm_ev_ret_slc, Sm_ev_ret_isa, Sm_ev_ret_rev, Sm_ev_ret_dic0, Sm_ev_ret_comp, Ex.tst, Ev.ok_bind, Ev.ex_bind, Ev.bad_bind, evk_ok, evk_ex, evk_bad, Res.thn_nx, Res.thn_rt, Res.thn_bk, Res.thn_ct, Res.thn_ex, Res.thn_bad, gd_true, gdR_true, optV_some, optR_some, intV_int, seqV_list, seqV_tuple, lstV_list, twoV_list, twoV_tuple, tstV_bool, noex_ok, tab_cons, aft_eq, frz_eq, frzL_nil, frzL_un, frzL_sh, frzL_src, frzL_ow, memN_nil, memN_cons, leafy_int, leafy_bool, leafy_str, leafy_none, leafy_tuple, leafy_list, leafy_dict, flats_nil, flats_cons, flat_int, flat_bool, flat_str, flat_none, flat_tuple, flat_list, put_true, put_false, putAll_nil, putAll_cons, bv_nm, bv_tp, bv_nil, bv_cons, intO_int, wipeE, Ex.vs, Exs.vs, Exo.vs, It.vs, cond_true, cond_false, Bool.cond_self, Option.bind_some, Bool.true_and, Bool.and_true, Bool.false_or, Bool.or_false, Bool.true_or, Bool.or_true, Bool.false_and, Bool.and_false, Bool.not_true, Bool.not_false, decide_true, decide_false, reduceIte, List.map_cons, List.map_nil, List.cons_append, List.nil_append, List.replicate, List.length_cons, List.length_nil, Nat.reduceAdd, Nat.reduceSub, Nat.reduceEqDiff, Nat.reduceBEq, List.set_cons_succ, List.set_cons_zero, List.length_map, Nat.zero_add, evDef_eq, val_rt, val_nx, val_ex, Sm_ev_ext, Sm_ev_augx, Sm_ev_ret_v, binV_addI, binV_addS, binV_addL, binV_addT, binV_subI, binV_mulI, binV_mulT, binV_mulL, binV_fdivI, binV_modI, binV_powI, binV_shlI, binV_shrI, binV_bandI, binV_borI, binV_bxorI, augV_add, augV_sub, augV_band, augV_bor, augV_bxor, augV_mul, augV_fdiv, augV_mod, augV_shl, augV_shr, cmpV_eqI, cmpV_neI, cmpV_lt, cmpV_le, cmpV_gt, cmpV_ge, cmpV_eqIS, cmpV_neIS, cmpV_eqIB, cmpV_neIB, cmpV_eqIN, cmpV_neIN, cmpV_eqIL, cmpV_neIL, cmpV_eqIT, cmpV_neIT, cmpV_eqID, cmpV_neID, cmpV_eqSI, cmpV_neSI, cmpV_eqSS, cmpV_neSS, cmpV_eqSB, cmpV_neSB, cmpV_eqSN, cmpV_neSN, cmpV_eqSL, cmpV_neSL, cmpV_eqST, cmpV_neST, cmpV_eqSD, cmpV_neSD, cmpV_eqBI, cmpV_neBI, cmpV_eqBS, cmpV_neBS, cmpV_eqBB, cmpV_neBB, cmpV_eqBN, cmpV_neBN, cmpV_eqBL, cmpV_neBL, cmpV_eqBT, cmpV_neBT, cmpV_eqBD, cmpV_neBD, cmpV_eqNI, cmpV_neNI, cmpV_eqNS, cmpV_neNS, cmpV_eqNB, cmpV_neNB, cmpV_eqNN, cmpV_neNN, cmpV_eqNL, cmpV_neNL, cmpV_eqNT, cmpV_neNT, cmpV_eqND, cmpV_neND, cmpV_eqLI, cmpV_neLI, cmpV_eqLS, cmpV_neLS, cmpV_eqLB, cmpV_neLB, cmpV_eqLN, cmpV_neLN, cmpV_eqLL, cmpV_neLL, cmpV_eqLT, cmpV_neLT, cmpV_eqLD, cmpV_neLD, cmpV_eqTI, cmpV_neTI, cmpV_eqTS, cmpV_neTS, cmpV_eqTB, cmpV_neTB, cmpV_eqTN, cmpV_neTN, cmpV_eqTL, cmpV_neTL, cmpV_eqTT, cmpV_neTT, cmpV_eqTD, cmpV_neTD, cmpV_eqDI, cmpV_neDI, cmpV_eqDS, cmpV_neDS, cmpV_eqDB, cmpV_neDB, cmpV_eqDN, cmpV_neDN, cmpV_eqDL, cmpV_neDL, cmpV_eqDT, cmpV_neDT, cmpV_eqDD, cmpV_neDD, cmpV_isI, cmpV_inLItrue, cmpV_inTItrue, cmpV_inDItrue, cmpV_inLIfalse, cmpV_inTIfalse, cmpV_inDIfalse, cmpV_isS, cmpV_inLStrue, cmpV_inTStrue, cmpV_inDStrue, cmpV_inLSfalse, cmpV_inTSfalse, cmpV_inDSfalse, cmpV_isB, cmpV_inLBtrue, cmpV_inTBtrue, cmpV_inLBfalse, cmpV_inTBfalse, cmpV_isN, cmpV_inLNtrue, cmpV_inTNtrue, cmpV_inLNfalse, cmpV_inTNfalse, cmpV_isL, cmpV_inLLtrue, cmpV_inTLtrue, cmpV_inLLfalse, cmpV_inTLfalse, cmpV_isT, cmpV_inLTtrue, cmpV_inTTtrue, cmpV_inLTfalse, cmpV_inTTfalse, cmpV_isD, cmpV_inLDtrue, cmpV_inTDtrue, cmpV_inLDfalse, cmpV_inTDfalse, biV_lenL, biV_lenT, biV_lenS, biV_abs, biV_max2, biV_min2, biV_intI, biV_intB, biV_tuple_list, biV_tuple_tuple, biV_list_list, biV_list_tuple, biV_max_list, biV_max_tuple, biV_min_list, biV_min_tuple, biV_repr, biV_all, biV_any, biV_sorted, biV_sum, mtT_bits, mtT_indexL, mtT_indexT, mtT_get, mtV_bits, mtV_indexL, mtV_indexT, mtV_get1, mtV_get2, keyFor_int, keyFor_str, keyPut_int, keyPut_str, ixV_L, ixV_T, ixV_D, slV_L, slV_T, revV_L, revV_T, tstV_int, tstV_none, tstV_list, tstV_tuple, lstO_list, slot_sh, slot_ow, slot_succ, intAt_sh, intAt_succ, ownL_ow, ownL_succ, ownS_owL, ownS_owD, ownS_succ, retS_sh, retS_ow, retS_succ, leN_0, leN_1, leN_2, leN_3, leN_4, leN_5, leN_6, leN_7, leN_8, leN_9, leN_10, leN_11, leN_12, Int.toNat_natCast, Int.zero_add, Exs_eva_nil, Exs_eva_var, Exs_eva_lit, Exs_eva_tup, Exs_eva_lst, Exs_eva_bin, Exs_eva_neg, Exs_eva_cmp, Exs_eva_cmp2, Exs_eva_and_, Exs_eva_or_, Exs_eva_not_, Exs_eva_ite, Exs_eva_call, Exs_eva_bi, Exs_eva_mth, Exs_eva_ix, Exs_eva_slc, Exs_eva_isa, Exs_eva_rev, Exs_eva_dic0, Exs_eva_comp, Ev.pk_bind, evk_pk, noex_pk, Res.thn_pk, wp_nx, wp_rt, wp_ct, wp_bk, Ev.wp_ok, val_pk, F_pick_eq, slotA_sh, slotA_ow, slotA_src, slotA_succ, cnd_t, cnd_f, cnd_ex, cnd_pk, stepV_eq, sh_int, sh_bool, sh_none, sh_nilL, sh_nilT, eqv_nilL, eqv_nilT, frzL_jk, Bool.not_not, Bool.and_self, Int.reduceBEq, Int.reduceLT, Int.reduceLE, Int.reduceAdd, Int.reduceSub, Int.reduceNeg, Int.reduceMul, is_isInt_I, is_isInt_S, is_isInt_B, is_isInt_N, is_isInt_L, is_isInt_T, is_isInt_D, is_isBool_I, is_isBool_S, is_isBool_B, is_isBool_N, is_isBool_L, is_isBool_T, is_isBool_D, is_isTuple_I, is_isTuple_S, is_isTuple_B, is_isTuple_N, is_isTuple_L, is_isTuple_T, is_isTuple_D, is_isStr_I, is_isStr_S, is_isStr_B, is_isStr_N, is_isStr_L, is_isStr_T, is_isStr_D, is_isList_I, is_isList_S, is_isList_B, is_isList_N, is_isList_L, is_isList_T, is_isList_D, is_isDict_I, is_isDict_S, is_isDict_B, is_isDict_N, is_isDict_L, is_isDict_T, is_isDict_D, cast_0, cast_1, cast_2, cast_3, cast_4, cast_5, cast_6, cast_7, cast_8, cast_9, cast_10, cast_11, cast_12, cast_13, cast_14, cast_15, cast_16, cast_17, cast_18, cast_19, leN_13, leN_14, leN_15, leN_16, leN_17, leN_18, leN_19, leN_20, leN_21, leN_22, leN_23, toNat_0, toNat_1, toNat_2, toNat_3, toNat_4, toNat_5, toNat_6, toNat_7, toNat_8, toNat_9, toNat_10, toNat_11, toNat_12, toNat_13, toNat_14, toNat_15, toNat_16, toNat_17, toNat_18, toNat_19, toNat_20, toNat_21, toNat_22, toNat_23, toNat_24, toNat_25, toNat_26, toNat_27, toNat_28, toNat_29, toNat_30, toNat_31, toNat_32, toNat_33, toNat_34, toNat_35, toNat_36, toNat_37, toNat_38, toNat_39, toNat_40, wq_nx, wq_rt, wq_ct, wq_bk, Ev.wq_ok, Ev.wq_ex, wq_ex, Sm_ev_asx, slO_sh, slO_ow, slO_succ, twoV_listT, twoV_tupleL, Bool.false_eq_true, shortT_nil, shortT_s, shortT_cc, shortT_i, okv, okn, isaD])
local macro_rules | `(tactic| walk_at "down") => `(tactic| repeat (first | with_reducible refine valQ ?_ | with_reducible refine thnQ ?_ | with_reducible refine evkQ ?_ | with_reducible refine bindQ ?_ | with_reducible refine noexQ ?_ | with_reducible refine cndQ ?_))
def N_degree : List Str := ["p"]
def b_degree : Sms := (.cons (.ret (.bin .sub (.mth .bits (.var 0) .nil) (.lit (.int 1))))
    .nil)
def F_degree : FV := evDef (tab []) 1 1 b_degree
def N_poly_product : List Str := ["p", "q", "found", "i"]
def b_poly_product : Sms := (.cons (.asg (.nm 2) (.lit (.int 0)))
    (.cons (.for_ (.nm 3) (.range1 (.mth .bits (.var 1) .nil)) (.cons (.aug 2 .bxor (.bin .mul (.bin .band (.bin .shr (.var 1) (.var 3)) (.lit (.int 1))) (.bin .shl (.var 0) (.var 3))))
    .nil))
    (.cons (.ret (.var 2))
    .nil)))
def F_poly_product : FV := evDef (tab []) 4 2 b_poly_product
def N_word_degree : List Str := ["word", ".0", "p"]
def b_word_degree : Sms := (.cons (.ret (.bi .max (.cons (.comp (.call 7 (.cons (.var 2) .nil)) (.nm 2) (.seq (.var 0)) .nil [1, 2]) .nil)))
    .nil)
def F_word_degree : FV := evDef (tab [(7, F_degree)]) 3 1 b_word_degree
def N_words_added : List Str := ["one", "other", ".0", "p", "q"]
def b_words_added : Sms := (.cons (.ret (.bi .tuple (.cons (.comp (.bin .bxor (.var 3) (.var 4)) (.tp (.cons (.nm 3) (.cons (.nm 4) .nil))) (.zips (.var 0) (.var 1)) .nil [2, 3, 4]) .nil)))
    .nil)
def F_words_added : FV := evDef (tab []) 5 2 b_words_added
def N_word_times : List Str := ["p", "word", ".0", "q"]
def b_word_times : Sms := (.cons (.ret (.bi .tuple (.cons (.comp (.call 8 (.cons (.var 3) (.cons (.var 0) .nil))) (.nm 3) (.seq (.var 1)) .nil [2, 3]) .nil)))
    .nil)
def F_word_times : FV := evDef (tab [(8, F_poly_product)]) 4 2 b_word_times
def N_leading_row : List Str := ["word", ".0", "p"]
def b_leading_row : Sms := (.cons (.ret (.bi .tuple (.cons (.comp (.bin .band (.bin .shr (.var 2) (.call 9 (.cons (.var 0) .nil))) (.lit (.int 1))) (.nm 2) (.seq (.var 0)) .nil [1, 2]) .nil)))
    .nil)
def F_leading_row : FV := evDef (tab [(9, F_word_degree)]) 3 1 b_leading_row
def N_combination : List Str := ["n", "coefficients", "words", "found", "p", "word"]
def b_combination : Sms := (.cons (.asg (.nm 3) (.bin .mul (.tup (.cons (.lit (.int 0)) .nil)) (.var 0)))
    (.cons (.for_ (.tp (.cons (.nm 4) (.cons (.nm 5) .nil))) (.zips (.var 1) (.var 2)) (.cons (.asg (.nm 3) (.call 10 (.cons (.var 3) (.cons (.call 11 (.cons (.var 4) (.cons (.var 5) .nil))) .nil))))
    .nil))
    (.cons (.ret (.var 3))
    .nil)))
def F_combination : FV := evDef (tab [(10, F_words_added), (11, F_word_times)]) 6 3 b_combination
def N__law_length : List Str := ["p", "found"]
def b__law_length : Sms := (.cons (.asg (.nm 1) (.lit (.int 0)))
    (.cons (.whl (.cmp .gt (.bin .shr (.var 0) (.var 1)) (.lit (.int 0))) (.cons (.asg (.nm 1) (.bin .add (.var 1) (.lit (.int 1))))
    .nil))
    (.cons (.ret (.var 1))
    .nil)))
def F__law_length : FV := evDef (tab []) 2 1 b__law_length
def N__law_times : List Str := ["p", "q", "found", "i"]
def b__law_times : Sms := (.cons (.asg (.nm 2) (.lit (.int 0)))
    (.cons (.for_ (.nm 3) (.range1 (.call 41 (.cons (.var 0) .nil))) (.cons (.asg (.nm 2) (.bin .bxor (.var 2) (.bin .mul (.bin .shl (.var 1) (.var 3)) (.bin .band (.bin .shr (.var 0) (.var 3)) (.lit (.int 1))))))
    .nil))
    (.cons (.ret (.var 2))
    .nil)))
def F__law_times : FV := evDef (tab [(41, F__law_length)]) 4 2 b__law_times
def N__law_degree : List Str := ["word", ".0", "p"]
def b__law_degree : Sms := (.cons (.ret (.bin .sub (.bi .max (.cons (.comp (.call 41 (.cons (.var 2) .nil)) (.nm 2) (.seq (.var 0)) .nil [1, 2]) .nil)) (.lit (.int 1))))
    .nil)
def F__law_degree : FV := evDef (tab [(41, F__law_length)]) 3 1 b__law_degree
def N__law_added : List Str := ["one", "other", ".0", "p", "q"]
def b__law_added : Sms := (.cons (.ret (.bi .tuple (.cons (.comp (.bin .bxor (.var 3) (.var 4)) (.tp (.cons (.nm 3) (.cons (.nm 4) .nil))) (.zip (.var 0) (.var 1)) .nil [2, 3, 4]) .nil)))
    .nil)
def F__law_added : FV := evDef (tab []) 5 2 b__law_added
def N__law_word_times : List Str := ["p", "word", ".0", "q"]
def b__law_word_times : Sms := (.cons (.ret (.bi .tuple (.cons (.comp (.call 42 (.cons (.var 0) (.cons (.var 3) .nil))) (.nm 3) (.seq (.var 1)) .nil [2, 3]) .nil)))
    .nil)
def F__law_word_times : FV := evDef (tab [(42, F__law_times)]) 4 2 b__law_word_times
def N__law_combined : List Str := ["n", "coefficients", "words", "found", "p", "word"]
def b__law_combined : Sms := (.cons (.asg (.nm 3) (.bin .mul (.tup (.cons (.lit (.int 0)) .nil)) (.var 0)))
    (.cons (.for_ (.tp (.cons (.nm 4) (.cons (.nm 5) .nil))) (.zip (.var 1) (.var 2)) (.cons (.asg (.nm 3) (.call 44 (.cons (.var 3) (.cons (.call 45 (.cons (.var 4) (.cons (.var 5) .nil))) .nil))))
    .nil))
    (.cons (.ret (.var 3))
    .nil)))
def F__law_combined : FV := evDef (tab [(44, F__law_added), (45, F__law_word_times)]) 6 3 b__law_combined
def N__law_leading : List Str := ["word", ".0", "p"]
def b__law_leading : Sms := (.cons (.ret (.bi .tuple (.cons (.comp (.bin .band (.bin .shr (.var 2) (.call 43 (.cons (.var 0) .nil))) (.lit (.int 1))) (.nm 2) (.seq (.var 0)) .nil [1, 2]) .nil)))
    .nil)
def F__law_leading : FV := evDef (tab [(43, F__law_degree)]) 3 1 b__law_leading
/-- ints from nought on -/
abbrev nis (ns : List Nat) : List PyData := ns.map fun n => .int (n : Nat)
abbrev wd (ns : List Nat) : PyData := .tuple (nis ns)
theorem nis_len {ns : List Nat} : (nis ns).length = ns.length := by simp [nis]
theorem flats_nis {ns : List Nat} : flats (ns.map fun n => PyData.int (n : Nat)) = true := by
  induction ns with
  | nil => rfl
  | cons n ns ih => rw [List.map_cons, flats_cons, ih]; rfl
local macro_rules | `(tactic| walk_at "ew") => `(tactic| try simp only [Sms.ev_cons, Sms.ev_nil, Ex_ev_var, Ex_ev_lit, Ex_ev_tup, Ex_ev_lst, Ex_ev_bin, Ex_ev_neg, Ex_ev_cmp, Ex_ev_cmp2, Ex_ev_and_, Ex_ev_or_, Ex_ev_not_, Ex_ev_ite, Ex_ev_call, Ex_ev_bi, Ex_ev_mth, Ex_ev_ix, Ex_ev_slc, Ex_ev_isa, Ex_ev_rev, Ex_ev_dic0, Ex_ev_comp, Exo_ev_no, Exo_ev_so, Exs_ev_nil, Exs_ev_cons, Exs_evt_nil, Exs_evt_cons, It_ev_seq, It_ev_range1, It_ev_range2, It_ev_enum, It_ev_zips, It_ev_zip, Exs_evf_nil, Exs_evf_cons, Sm_ev_asg_nm, Sm_ev_asg_tp, Sm_ev_par, Sm_ev_aug, Sm_ev_app, Sm_ev_setx, Sm_ev_ite, Sm_ev_for_, Sm_ev_whl, Sm_ev_retn, Sm_ev_brk, Sm_ev_cnt, Sm_ev_pass, Sm_ev_expr, Sm_ev_ret_lit, Sm_ev_ret_tup, Sm_ev_ret_lst, Sm_ev_ret_bin, Sm_ev_ret_neg, Sm_ev_ret_cmp, Sm_ev_ret_cmp2, Sm_ev_ret_and_, Sm_ev_ret_or_, Sm_ev_ret_not_, Sm_ev_ret_ite, Sm_ev_ret_call, Sm_ev_ret_bi, Sm_ev_ret_mth, Sm_ev_ret_ix, Sm_ev_ret_slc, Sm_ev_ret_isa, Sm_ev_ret_rev, Sm_ev_ret_dic0, Sm_ev_ret_comp, Ex.tst, Ev.ok_bind, Ev.ex_bind, Ev.bad_bind, evk_ok, evk_ex, evk_bad, Res.thn_nx, Res.thn_rt, Res.thn_bk, Res.thn_ct, Res.thn_ex, Res.thn_bad, gd_true, gdR_true, optV_some, optR_some, intV_int, seqV_list, seqV_tuple, lstV_list, twoV_list, twoV_tuple, tstV_bool, noex_ok, tab_cons, aft_eq, frz_eq, frzL_nil, frzL_un, frzL_sh, frzL_src, frzL_ow, memN_nil, memN_cons, leafy_int, leafy_bool, leafy_str, leafy_none, leafy_tuple, leafy_list, leafy_dict, flats_nil, flats_cons, flat_int, flat_bool, flat_str, flat_none, flat_tuple, flat_list, put_true, put_false, putAll_nil, putAll_cons, bv_nm, bv_tp, bv_nil, bv_cons, intO_int, wipeE, Ex.vs, Exs.vs, Exo.vs, It.vs, cond_true, cond_false, Bool.cond_self, Option.bind_some, Bool.true_and, Bool.and_true, Bool.false_or, Bool.or_false, Bool.true_or, Bool.or_true, Bool.false_and, Bool.and_false, Bool.not_true, Bool.not_false, decide_true, decide_false, reduceIte, List.map_cons, List.map_nil, List.cons_append, List.nil_append, List.replicate, List.length_cons, List.length_nil, Nat.reduceAdd, Nat.reduceSub, Nat.reduceEqDiff, Nat.reduceBEq, List.set_cons_succ, List.set_cons_zero, List.length_map, Nat.zero_add, evDef_eq, val_rt, val_nx, val_ex, Sm_ev_ext, Sm_ev_augx, Sm_ev_ret_v, binV_addI, binV_addS, binV_addL, binV_addT, binV_subI, binV_mulI, binV_mulT, binV_mulL, binV_fdivI, binV_modI, binV_powI, binV_shlI, binV_shrI, binV_bandI, binV_borI, binV_bxorI, augV_add, augV_sub, augV_band, augV_bor, augV_bxor, augV_mul, augV_fdiv, augV_mod, augV_shl, augV_shr, cmpV_eqI, cmpV_neI, cmpV_lt, cmpV_le, cmpV_gt, cmpV_ge, cmpV_eqIS, cmpV_neIS, cmpV_eqIB, cmpV_neIB, cmpV_eqIN, cmpV_neIN, cmpV_eqIL, cmpV_neIL, cmpV_eqIT, cmpV_neIT, cmpV_eqID, cmpV_neID, cmpV_eqSI, cmpV_neSI, cmpV_eqSS, cmpV_neSS, cmpV_eqSB, cmpV_neSB, cmpV_eqSN, cmpV_neSN, cmpV_eqSL, cmpV_neSL, cmpV_eqST, cmpV_neST, cmpV_eqSD, cmpV_neSD, cmpV_eqBI, cmpV_neBI, cmpV_eqBS, cmpV_neBS, cmpV_eqBB, cmpV_neBB, cmpV_eqBN, cmpV_neBN, cmpV_eqBL, cmpV_neBL, cmpV_eqBT, cmpV_neBT, cmpV_eqBD, cmpV_neBD, cmpV_eqNI, cmpV_neNI, cmpV_eqNS, cmpV_neNS, cmpV_eqNB, cmpV_neNB, cmpV_eqNN, cmpV_neNN, cmpV_eqNL, cmpV_neNL, cmpV_eqNT, cmpV_neNT, cmpV_eqND, cmpV_neND, cmpV_eqLI, cmpV_neLI, cmpV_eqLS, cmpV_neLS, cmpV_eqLB, cmpV_neLB, cmpV_eqLN, cmpV_neLN, cmpV_eqLL, cmpV_neLL, cmpV_eqLT, cmpV_neLT, cmpV_eqLD, cmpV_neLD, cmpV_eqTI, cmpV_neTI, cmpV_eqTS, cmpV_neTS, cmpV_eqTB, cmpV_neTB, cmpV_eqTN, cmpV_neTN, cmpV_eqTL, cmpV_neTL, cmpV_eqTT, cmpV_neTT, cmpV_eqTD, cmpV_neTD, cmpV_eqDI, cmpV_neDI, cmpV_eqDS, cmpV_neDS, cmpV_eqDB, cmpV_neDB, cmpV_eqDN, cmpV_neDN, cmpV_eqDL, cmpV_neDL, cmpV_eqDT, cmpV_neDT, cmpV_eqDD, cmpV_neDD, cmpV_isI, cmpV_inLItrue, cmpV_inTItrue, cmpV_inDItrue, cmpV_inLIfalse, cmpV_inTIfalse, cmpV_inDIfalse, cmpV_isS, cmpV_inLStrue, cmpV_inTStrue, cmpV_inDStrue, cmpV_inLSfalse, cmpV_inTSfalse, cmpV_inDSfalse, cmpV_isB, cmpV_inLBtrue, cmpV_inTBtrue, cmpV_inLBfalse, cmpV_inTBfalse, cmpV_isN, cmpV_inLNtrue, cmpV_inTNtrue, cmpV_inLNfalse, cmpV_inTNfalse, cmpV_isL, cmpV_inLLtrue, cmpV_inTLtrue, cmpV_inLLfalse, cmpV_inTLfalse, cmpV_isT, cmpV_inLTtrue, cmpV_inTTtrue, cmpV_inLTfalse, cmpV_inTTfalse, cmpV_isD, cmpV_inLDtrue, cmpV_inTDtrue, cmpV_inLDfalse, cmpV_inTDfalse, biV_lenL, biV_lenT, biV_lenS, biV_abs, biV_max2, biV_min2, biV_intI, biV_intB, biV_tuple_list, biV_tuple_tuple, biV_list_list, biV_list_tuple, biV_max_list, biV_max_tuple, biV_min_list, biV_min_tuple, biV_repr, biV_all, biV_any, biV_sorted, biV_sum, mtT_bits, mtT_indexL, mtT_indexT, mtT_get, mtV_bits, mtV_indexL, mtV_indexT, mtV_get1, mtV_get2, keyFor_int, keyFor_str, keyPut_int, keyPut_str, ixV_L, ixV_T, ixV_D, slV_L, slV_T, revV_L, revV_T, tstV_int, tstV_none, tstV_list, tstV_tuple, lstO_list, slot_sh, slot_ow, slot_succ, intAt_sh, intAt_succ, ownL_ow, ownL_succ, ownS_owL, ownS_owD, ownS_succ, retS_sh, retS_ow, retS_succ, leN_0, leN_1, leN_2, leN_3, leN_4, leN_5, leN_6, leN_7, leN_8, leN_9, leN_10, leN_11, leN_12, Int.toNat_natCast, Int.zero_add, Exs_eva_nil, Exs_eva_var, Exs_eva_lit, Exs_eva_tup, Exs_eva_lst, Exs_eva_bin, Exs_eva_neg, Exs_eva_cmp, Exs_eva_cmp2, Exs_eva_and_, Exs_eva_or_, Exs_eva_not_, Exs_eva_ite, Exs_eva_call, Exs_eva_bi, Exs_eva_mth, Exs_eva_ix, Exs_eva_slc, Exs_eva_isa, Exs_eva_rev, Exs_eva_dic0, Exs_eva_comp, Ev.pk_bind, evk_pk, noex_pk, Res.thn_pk, wp_nx, wp_rt, wp_ct, wp_bk, Ev.wp_ok, val_pk, F_pick_eq, slotA_sh, slotA_ow, slotA_src, slotA_succ, cnd_t, cnd_f, cnd_ex, cnd_pk, stepV_eq, sh_int, sh_bool, sh_none, sh_nilL, sh_nilT, eqv_nilL, eqv_nilT, frzL_jk, Bool.not_not, Bool.and_self, Int.reduceBEq, Int.reduceLT, Int.reduceLE, Int.reduceAdd, Int.reduceSub, Int.reduceNeg, Int.reduceMul, is_isInt_I, is_isInt_S, is_isInt_B, is_isInt_N, is_isInt_L, is_isInt_T, is_isInt_D, is_isBool_I, is_isBool_S, is_isBool_B, is_isBool_N, is_isBool_L, is_isBool_T, is_isBool_D, is_isTuple_I, is_isTuple_S, is_isTuple_B, is_isTuple_N, is_isTuple_L, is_isTuple_T, is_isTuple_D, is_isStr_I, is_isStr_S, is_isStr_B, is_isStr_N, is_isStr_L, is_isStr_T, is_isStr_D, is_isList_I, is_isList_S, is_isList_B, is_isList_N, is_isList_L, is_isList_T, is_isList_D, is_isDict_I, is_isDict_S, is_isDict_B, is_isDict_N, is_isDict_L, is_isDict_T, is_isDict_D, cast_0, cast_1, cast_2, cast_3, cast_4, cast_5, cast_6, cast_7, cast_8, cast_9, cast_10, cast_11, cast_12, cast_13, cast_14, cast_15, cast_16, cast_17, cast_18, cast_19, leN_13, leN_14, leN_15, leN_16, leN_17, leN_18, leN_19, leN_20, leN_21, leN_22, leN_23, toNat_0, toNat_1, toNat_2, toNat_3, toNat_4, toNat_5, toNat_6, toNat_7, toNat_8, toNat_9, toNat_10, toNat_11, toNat_12, toNat_13, toNat_14, toNat_15, toNat_16, toNat_17, toNat_18, toNat_19, toNat_20, toNat_21, toNat_22, toNat_23, toNat_24, toNat_25, toNat_26, toNat_27, toNat_28, toNat_29, toNat_30, toNat_31, toNat_32, toNat_33, toNat_34, toNat_35, toNat_36, toNat_37, toNat_38, toNat_39, toNat_40, wq_nx, wq_rt, wq_ct, wq_bk, Ev.wq_ok, Ev.wq_ex, wq_ex, Sm_ev_asx, slO_sh, slO_ow, slO_succ, twoV_listT, twoV_tupleL, Bool.false_eq_true, shortT_nil, shortT_s, shortT_cc, shortT_i, okv, okn, isaD, flats_nis])
theorem F_degree_eq (p : Nat) : F_degree [.sh (.int p)] = .ok (false, .int ((bl p : Nat) - 1)) := by
  unfold F_degree b_degree
  walk_at "ev"
  rw [intBits_nat]
/-- the product of polynomials -/
def clm (x y : Nat) : Nat → Nat
  | 0 => 0
  | i + 1 => clm x y i ^^^ ((y >>> i &&& 1) * (x <<< i))
def pmul (x y : Nat) : Nat := clm x y (bl y)
theorem one_nat : (1 : Int) = ((1 : Nat) : Int) := rfl
theorem bl_shl (x i : Nat) : bl (x <<< i) ≤ bl x + i := by
  rw [bl_le, Nat.shiftLeft_eq, Nat.pow_add]
  exact Nat.mul_lt_mul_of_pos_right lt_bl (Nat.two_pow_pos i)
theorem bl_and1 (x : Nat) : bl (x &&& 1) ≤ 1 := by
  rw [bl_le]
  have : x &&& 1 ≤ 1 := Nat.and_le_right
  omega
theorem log_le (x : Nat) : x.log2 ≤ bl x := by unfold bl; split <;> simp_all
theorem mulOk_nat {x y : Nat} (h : bl x + bl y < 1000000) : mulOk (x : Int) (y : Int) = true := by
  unfold mulOk
  have h1 := log_le x
  have h2 := log_le y
  rw [Int.natAbs_natCast, Int.natAbs_natCast, decide_eq_true_eq]
  omega
theorem shlOk_nat {x i : Nat} (h : bl x + i ≤ 2 ^ 27) : shlOk (x : Int) (i : Int) = true := by
  unfold shlOk
  rw [intBits_nat, Bool.and_eq_true, decide_eq_true_eq, decide_eq_true_eq]
  constructor
  · omega
  · have : ((bl x + i : Nat) : Int) ≤ ((2 ^ 27 : Nat) : Int) := by exact_mod_cast h
    simpa using this
theorem rngOk {n : Nat} (h : n ≤ 2 ^ 60) : (decide (-(2 ^ 60) ≤ ((n : Nat) : Int)) && decide (((n : Nat) : Int) ≤ 2 ^ 60)) = true := by
  rw [Bool.and_eq_true, decide_eq_true_eq, decide_eq_true_eq]
  constructor
  · have : (0 : Int) ≤ (n : Int) := Int.natCast_nonneg n
    have : (-(2 ^ 60) : Int) ≤ 0 := by decide
    omega
  · exact_mod_cast h
theorem ge0 (n : Nat) : decide ((0 : Int) ≤ (n : Int)) = true := decide_eq_true (Int.natCast_nonneg n)
theorem F_poly_product_eq (x y : Nat) (hx : bl x ≤ 100000) (hy : bl y ≤ 100000) : F_poly_product [.sh (.int x), .sh (.int y)] = .ok (false, .int (pmul x y : Nat)) := by
  unfold F_poly_product b_poly_product
  walk_at "ev"
  rw [intBits_nat, gd_pos (rngOk (by omega))]
  walk_at "ev"
  refine forV_rng (R := fun r => (Res.thn _ r _).val = _) (fun i e => ∃ s, e = [.sh (.int x), .sh (.int y), .sh (.int (clm x y i : Nat)), s]) ⟨_, rfl⟩ ?_ ?_
  · rintro i e hi ⟨s, rfl⟩
    walk_at "ev"
    rw [gd_pos (ge0 i), gd_pos (shlOk_nat (by omega))]
    walk_at "ev"
    rw [shrN, shlN, one_nat, bandN, gd_pos (mulOk_nat (by have := bl_shl x i; have := bl_and1 (y >>> i); omega))]
    walk_at "ev"
    refine ⟨_, rfl, .sh (.int i), ?_⟩
    rw [← Int.natCast_mul, bxorN]
    rfl
  · rintro e ⟨s, rfl⟩
    walk_at "ev"
    rfl
/-- a word's length: its degree and 1 -/
def wl : List Nat → Nat
  | [] => 0
  | x :: xs => max (bl x) (wl xs)
theorem wl_le {w : List Nat} {k : Nat} : wl w ≤ k ↔ ∀ x ∈ w, bl x ≤ k := by
  induction w with
  | nil => simp [wl]
  | cons x xs ih => simp only [wl, Nat.max_le, ih, List.mem_cons, forall_eq_or_imp]
theorem fold_max (c : Int) : ∀ (xs : List Nat) (m : Nat), (xs.map fun y => ((bl y : Nat) : Int) + c).foldl max ((m : Nat) + c) = ((max m (wl xs) : Nat) : Int) + c
  | [], m => by simp [wl]
  | x :: xs, m => by
    rw [List.map_cons, List.foldl_cons, show max ((m : Nat) + c) (((bl x : Nat) : Int) + c) = ((max m (bl x) : Nat) : Int) + c from by omega, fold_max c xs, wl, Nat.max_assoc]
theorem biV_max_ints (n : Int) (ns : List Int) : BiV .max [.list (.int n :: ns.map PyData.int)] = .ok (false, .int (ns.foldl max n)) := by
  rw [biV_max_list, gd_pos (r := .ok _) (show okMB (PyData.int n :: ns.map PyData.int) = true from okMB_ints (n :: ns)), PySem.W.maxD_ints]
theorem biV_max_len (c : Int) {w : List Nat} (h : w ≠ []) : BiV .max [.list (w.map fun x => .int (((bl x : Nat) : Int) + c))] = .ok (false, .int ((wl w : Nat) + c)) := by
  cases w with
  | nil => exact absurd rfl h
  | cons x xs =>
    have e : xs.map (fun x => PyData.int (((bl x : Nat) : Int) + c)) = (xs.map fun y => ((bl y : Nat) : Int) + c).map PyData.int := by simp
    rw [List.map_cons, e, biV_max_ints, fold_max, wl]
theorem leLim {n : Nat} (h : n ≤ 1000000) : leN n lim = true := leN_pos (by unfold lim; omega)
theorem F_word_degree_eq {w : List Nat} (h : w ≠ []) (hl : w.length ≤ 1000000) : F_word_degree [.sh (wd w)] = .ok (false, .int ((wl w : Nat) - 1)) := by
  unfold F_word_degree b_word_degree wd nis
  walk_at "ev"
  rw [gd_pos (leLim hl), filV_map (fun x => .int (((bl x : Nat) : Int) + -1))]
  · walk_at "ev"
    rw [biV_max_len _ h]
    rfl
  · intro x hx
    walk_at "ev"
    rw [F_degree_eq]
    rfl
def wadd (a b : List Nat) : List Nat := (a.zip b).map fun p => p.1 ^^^ p.2
theorem F_words_added_eq {a b : List Nat} (e : a.length = b.length) (h : a.length ≤ 1000000) : F_words_added [.sh (wd a), .sh (wd b)] = .ok (false, wd (wadd a b)) := by
  unfold F_words_added b_words_added wd nis
  walk_at "ev"
  rw [gd_pos (decide_eq_true e), zipD_map]
  walk_at "ev"
  rw [gd_pos (leLim (by rw [List.length_zip]; omega)), filV_map (fun p => .int ((p.1 ^^^ p.2 : Nat) : Int))]
  · walk_at "ev"
    simp only [wadd, wd, nis, List.map_map, Function.comp_def]
  · intro p hp
    walk_at "ev"
    rw [bxorN]
def wtms (p : Nat) (w : List Nat) : List Nat := w.map fun x => pmul x p
theorem F_word_times_eq {p : Nat} {w : List Nat} (hp : bl p ≤ 100000) (hw : wl w ≤ 100000) (h : w.length ≤ 1000000) : F_word_times [.sh (.int p), .sh (wd w)] = .ok (false, wd (wtms p w)) := by
  unfold F_word_times b_word_times wd nis
  walk_at "ev"
  rw [gd_pos (leLim h), filV_map (fun x => .int (pmul x p : Nat))]
  · walk_at "ev"
    simp only [wtms, wd, nis, List.map_map, Function.comp_def]
  · intro x hx
    walk_at "ev"
    rw [F_poly_product_eq _ _ (wl_le.mp hw x hx) hp]
    rfl
def wlead (w : List Nat) : List Nat := w.map fun p => p >>> (wl w - 1) &&& 1
theorem wl_pos {w : List Nat} (h : 1 ≤ wl w) : ((wl w : Nat) : Int) - 1 = ((wl w - 1 : Nat) : Int) := by omega
theorem F_leading_row_eq {w : List Nat} (h : 1 ≤ wl w) (hl : w.length ≤ 1000000) : F_leading_row [.sh (wd w)] = .ok (false, wd (wlead w)) := by
  have ne : w ≠ [] := fun z => by subst z; simp [wl] at h
  have e := F_word_degree_eq ne hl
  unfold F_leading_row b_leading_row wd nis
  unfold wd nis at e
  walk_at "ev"
  rw [gd_pos (leLim hl), filV_map (fun x => .int ((x >>> (wl w - 1) &&& 1 : Nat) : Int))]
  · walk_at "ev"
    simp only [wlead, wd, nis, List.map_map, Function.comp_def]
  · intro x hx
    rw [e]
    walk_at "ev"
    rw [wl_pos h, gd_pos (ge0 _)]
    walk_at "ev"
    rw [shrN, one_nat, bandN]
theorem wadd_len (a b : List Nat) : (wadd a b).length = min a.length b.length := by simp [wadd]
theorem wtms_len (p : Nat) (w : List Nat) : (wtms p w).length = w.length := by simp [wtms]
def nought (n : Nat) : List Nat := List.replicate n 0
/-- words times their polynomials, added -/
def wcomb (n : Nat) (ps : List Nat) (ws : List (List Nat)) : List Nat := (ps.zip ws).foldl (fun f p => wadd f (wtms p.1 p.2)) (nought n)
theorem replicate_flat (n : Nat) (d : PyData) : (List.replicate n [d]).flatten = List.replicate n d := by
  induction n with
  | zero => rfl
  | succ n ih => rw [List.replicate_succ, List.flatten_cons, ih]; rfl
theorem gd_nought {n : Nat} (h1 : 1 ≤ n) (h2 : n ≤ 1000) : gd (![PyData.int 0].isEmpty && (decide ((0 : Int) ≤ ((n : Nat) : Int)) && (decide (((n : Nat) : Int) ≤ 1000) && leN 1 1000))) (Ev.ok (false, PyData.tuple (List.replicate n [PyData.int 0]).flatten)) = .ok (false, wd (nought n)) := by
  rw [gd_pos]
  · rw [replicate_flat, wd, nis, nought, List.map_replicate]
    rfl
  · have e1 : decide ((0 : Int) ≤ ((n : Nat) : Int)) = true := decide_eq_true (by omega)
    have e2 : decide (((n : Nat) : Int) ≤ 1000) = true := decide_eq_true (by omega)
    rw [e1, e2]
    rfl
theorem foldl_take {α β : Type} (f : β → α → β) (b : β) (xs : List α) (i : Nat) (h : i < xs.length) : (xs.take (i + 1)).foldl f b = f ((xs.take i).foldl f b) xs[i] := by
  rw [List.take_succ_eq_append_getElem h, List.foldl_append]
  rfl
/-- words of n places, not too long -/
def WsOk (n : Nat) (ws : List (List Nat)) : Prop := ∀ w ∈ ws, w.length = n ∧ wl w ≤ 100000
theorem foldl_wadd_len {n : Nat} : ∀ (xs : List (Nat × List Nat)) (f : List Nat), f.length = n → (∀ p ∈ xs, p.2.length = n) → (xs.foldl (fun f p => wadd f (wtms p.1 p.2)) f).length = n
  | [], f, h, _ => h
  | p :: xs, f, h, hx => foldl_wadd_len xs _ (by rw [wadd_len, wtms_len, h, hx p (List.mem_cons_self ..), Nat.min_self]) fun q hq => hx q (List.mem_cons_of_mem _ hq)
theorem zip_snd_mem {ps : List Nat} {ws : List (List Nat)} {p : Nat × List Nat} (h : p ∈ ps.zip ws) : p.1 ∈ ps ∧ p.2 ∈ ws := ⟨(List.of_mem_zip h).1, (List.of_mem_zip h).2⟩
theorem F_combination_eq {n : Nat} {ps : List Nat} {ws : List (List Nat)} (h1 : 1 ≤ n) (h2 : n ≤ 1000) (e : ps.length = ws.length) (hp : ∀ p ∈ ps, bl p ≤ 100000) (hw : WsOk n ws) :
    F_combination [.sh (.int (n : Nat)), .sh (wd ps), .sh (.tuple (ws.map wd))] = .ok (false, wd (wcomb n ps ws)) := by
  unfold F_combination b_combination
  walk_at "ew"
  rw [gd_nought h1 h2]
  walk_at "ew"
  rw [gd_pos (decide_eq_true e), zipD_map]
  refine forV_lst (R := fun r => (Res.thn _ r _).val = _) (fun i e => ∃ s t, e = [.sh (.int (n : Nat)), .sh (wd ps), .sh (.tuple (ws.map wd)), .sh (wd (((ps.zip ws).take i).foldl (fun f p => wadd f (wtms p.1 p.2)) (nought n))), s, t]) ⟨.un, .un, rfl⟩ ?_ ?_
  · rintro i e hi ⟨s, t, rfl⟩
    have hm := zip_snd_mem (List.getElem_mem hi)
    have hl : ∀ p ∈ (ps.zip ws).take i, p.2.length = n := fun p hp => (hw _ (zip_snd_mem (List.mem_of_mem_take hp)).2).1
    have l1 := foldl_wadd_len ((ps.zip ws).take i) (nought n) (by simp [nought]) hl
    obtain ⟨w1, w2⟩ := hw _ hm.2
    walk_at "ew"
    rw [F_word_times_eq (hp _ hm.1) w2 (by omega)]
    walk_at "ew"
    rw [F_words_added_eq (by rw [l1, wtms_len, w1]) (by omega)]
    walk_at "ew"
    refine ⟨_, rfl, .sh (.int (((ps.zip ws)[i]).1 : Nat)), .sh (wd ((ps.zip ws)[i]).2), ?_⟩
    rw [foldl_take _ _ _ _ hi]
  · rintro e ⟨s, t, rfl⟩
    walk_at "ew"
    rw [List.take_length]
    rfl
theorem shr_pos {p i : Nat} : 0 < p >>> i ↔ i < bl p := by
  rw [Nat.shiftRight_eq_div_pow, Nat.div_pos_iff]
  have h := @bl_le p i
  have t := Nat.two_pow_pos i
  constructor
  · intro h1; have : ¬ p < 2 ^ i := by omega
    have : ¬ bl p ≤ i := fun z => this (h.mp z)
    omega
  · intro h1; have : ¬ bl p ≤ i := by omega
    have : ¬ p < 2 ^ i := fun z => this (h.mpr z)
    omega
theorem F__law_length_eq {p : Nat} (h : bl p < 1000000) : F__law_length [.sh (.int p)] = .ok (false, .int (bl p : Nat)) := by
  unfold F__law_length b__law_length
  walk_at "ew"
  refine whlV_R (R := fun r => (Res.thn _ r _).val = _) (fun (i : Nat) e => i ≤ bl p ∧ e = [.sh (.int p), .sh (.int (i : Nat))]) (fun i => bl p - i) (s := 0) ⟨Nat.zero_le _, rfl⟩ (by unfold fuel; omega) ?_
  rintro i e ⟨hi, rfl⟩
  by_cases z : i < bl p
  · right
    have z1 : decide ((0 : Int) < ((p >>> i : Nat) : Int)) = true := decide_eq_true (by have := shr_pos.mpr z; omega)
    refine ⟨[.sh (.int p), .sh (.int (i : Nat))], i + 1, [.sh (.int p), .sh (.int ((i + 1 : Nat) : Int))], ?_, .inl (by walk_at "ew"; rfl), ⟨z, rfl⟩, by omega⟩
    walk_at "ew"
    rw [gd_pos (ge0 i)]
    walk_at "ew"
    rw [shrN, z1]
  · left
    have z1 : decide ((0 : Int) < ((p >>> i : Nat) : Int)) = false := decide_eq_false (by have := mt shr_pos.mp z; omega)
    have z2 : i = bl p := by omega
    refine ⟨[.sh (.int p), .sh (.int (i : Nat))], ?_, by subst z2; rfl⟩
    walk_at "ew"
    rw [gd_pos (ge0 i)]
    walk_at "ew"
    rw [shrN, z1]
theorem clm_self (x y : Nat) (h : bl y ≤ k) : clm x y k = pmul x y := by
  induction k with
  | zero => rw [pmul, Nat.le_zero.mp h]
  | succ k ih =>
    by_cases e : bl y = k + 1
    · rw [pmul, e]
    · have e2 : bl y ≤ k := by omega
      rw [clm, ih e2]
      have : y >>> k = 0 := Nat.eq_zero_of_not_pos (mt shr_pos.mp (show ¬ k < bl y by omega))
      rw [this]; simp
theorem F__law_times_eq {p x : Nat} (hp : bl p ≤ 100000) (hx : bl x ≤ 100000) : F__law_times [.sh (.int p), .sh (.int x)] = .ok (false, .int (pmul x p : Nat)) := by
  unfold F__law_times b__law_times
  walk_at "ew"
  rw [F__law_length_eq (by omega)]
  walk_at "ew"
  rw [gd_pos (rngOk (by omega))]
  walk_at "ew"
  refine forV_rng (R := fun r => (Res.thn _ r _).val = _) (fun i e => ∃ s, e = [.sh (.int p), .sh (.int x), .sh (.int (clm x p i : Nat)), s]) ⟨.un, rfl⟩ ?_ ?_
  · rintro i e hi ⟨s, rfl⟩
    walk_at "ew"
    rw [gd_pos (shlOk_nat (by omega)), gd_pos (ge0 i)]
    walk_at "ew"
    rw [shrN, shlN, one_nat, bandN, gd_pos (mulOk_nat (by have := bl_shl x i; have := bl_and1 (p >>> i); omega))]
    walk_at "ew"
    refine ⟨_, rfl, .sh (.int i), ?_⟩
    rw [← Int.natCast_mul, bxorN, Nat.mul_comm]
    rfl
  · rintro e ⟨s, rfl⟩
    walk_at "ew"
    rfl
theorem F__law_degree_eq {w : List Nat} (h : w ≠ []) (hw : wl w ≤ 100000) (hl : w.length ≤ 1000000) : F__law_degree [.sh (wd w)] = .ok (false, .int ((wl w : Nat) - 1)) := by
  unfold F__law_degree b__law_degree
  walk_at "ew"
  rw [gd_pos (leLim hl), filV_map (fun x => .int (((bl x : Nat) : Int) + 0))]
  · walk_at "ew"
    rw [biV_max_len _ h]
    walk_at "ew"
    rw [Int.add_zero]
  · intro x hx
    walk_at "ew"
    rw [F__law_length_eq (by have := wl_le.mp hw x hx; omega)]
    walk_at "ew"
    rw [Int.add_zero]
theorem F__law_added_eq {a b : List Nat} (h : a.length ≤ 1000000) : F__law_added [.sh (wd a), .sh (wd b)] = .ok (false, wd (wadd a b)) := by
  unfold F__law_added b__law_added
  walk_at "ew"
  rw [zipD_map, gd_pos (leLim (by rw [List.length_map, List.length_zip]; omega)), filV_map (fun p => .int ((p.1 ^^^ p.2 : Nat) : Int))]
  · walk_at "ew"
    simp only [wadd, wd, nis, List.map_map, Function.comp_def]
  · intro p hp
    walk_at "ew"
    rw [bxorN]
theorem F__law_word_times_eq {p : Nat} {w : List Nat} (hp : bl p ≤ 100000) (hw : wl w ≤ 100000) (h : w.length ≤ 1000000) : F__law_word_times [.sh (.int p), .sh (wd w)] = .ok (false, wd (wtms p w)) := by
  unfold F__law_word_times b__law_word_times
  walk_at "ew"
  rw [gd_pos (leLim h), filV_map (fun x => .int (pmul x p : Nat))]
  · walk_at "ew"
    simp only [wtms, wd, nis, List.map_map, Function.comp_def]
  · intro x hx
    walk_at "ew"
    rw [F__law_times_eq hp (wl_le.mp hw x hx)]
    rfl
theorem F__law_combined_eq {n : Nat} {ps : List Nat} {ws : List (List Nat)} (h1 : 1 ≤ n) (h2 : n ≤ 1000) (hp : ∀ p ∈ ps, bl p ≤ 100000) (hw : WsOk n ws) {d : PyData} (hd : d = .tuple (ws.map wd) ∨ d = .list (ws.map wd)) {e : PyData} (he : e = .tuple (nis ps) ∨ e = .list (nis ps)) :
    F__law_combined [.sh (.int (n : Nat)), .sh e, .sh d] = .ok (false, wd (wcomb n ps ws)) := by
  have key : (Res.thn (tab [(44, F__law_added), (45, F__law_word_times)]) (forV (fun x env' => optR ((Tg.tp (Tgs.cons (Tg.nm 4) (Tgs.cons (Tg.nm 5) Tgs.nil))).bv x env')
              (Sms.ev (tab [(44, F__law_added), (45, F__law_word_times)]) (Sms.cons (Sm.asg (Tg.nm 3) (Ex.call 44 (Exs.cons (Ex.var 3) (Exs.cons (Ex.call 45 (Exs.cons (Ex.var 4) (Exs.cons (Ex.var 5) Exs.nil))) Exs.nil)))) Sms.nil)))
          (List.map (fun p => PyData.tuple [PyData.int ↑p.fst, wd p.snd]) (ps.zip ws)) [Sl.sh (PyData.int ↑n), Sl.sh e, Sl.sh d, Sl.sh (wd (nought n)), Sl.un, Sl.un])
        (Sms.cons (Sm.ret (Ex.var 3)) Sms.nil)).val = Ev.ok (false, wd (wcomb n ps ws)) := by
    refine forV_lst (R := fun r => (Res.thn _ r _).val = _) (fun i env => ∃ s t, env = [.sh (.int (n : Nat)), .sh e, .sh d, .sh (wd (((ps.zip ws).take i).foldl (fun f p => wadd f (wtms p.1 p.2)) (nought n))), s, t]) ⟨.un, .un, rfl⟩ ?_ ?_
    · rintro i env hi ⟨s, t, rfl⟩
      have hm := zip_snd_mem (List.getElem_mem hi)
      have hl : ∀ p ∈ (ps.zip ws).take i, p.2.length = n := fun p hp => (hw _ (zip_snd_mem (List.mem_of_mem_take hp)).2).1
      have l1 := foldl_wadd_len ((ps.zip ws).take i) (nought n) (by simp [nought]) hl
      obtain ⟨w1, w2⟩ := hw _ hm.2
      walk_at "ew"
      rw [F__law_word_times_eq (hp _ hm.1) w2 (by omega)]
      walk_at "ew"
      rw [F__law_added_eq (by omega)]
      walk_at "ew"
      refine ⟨_, rfl, .sh (.int (((ps.zip ws)[i]).1 : Nat)), .sh (wd ((ps.zip ws)[i]).2), ?_⟩
      rw [foldl_take _ _ _ _ hi]
    · rintro env ⟨s, t, rfl⟩
      walk_at "ew"
      rw [List.take_length]
      rfl
  unfold F__law_combined b__law_combined
  rcases hd with rfl | rfl <;> rcases he with rfl | rfl <;>
  · walk_at "ew"
    rw [gd_nought h1 h2]
    walk_at "ew"
    rw [zipD_map]
    exact key
theorem F__law_leading_eq {w : List Nat} (h : 1 ≤ wl w) (hw : wl w ≤ 100000) (hl : w.length ≤ 1000000) : F__law_leading [.sh (wd w)] = .ok (false, wd (wlead w)) := by
  have ne : w ≠ [] := fun z => by subst z; simp [wl] at h
  unfold F__law_leading b__law_leading
  walk_at "ew"
  rw [gd_pos (leLim hl), filV_map (fun x => .int ((x >>> (wl w - 1) &&& 1 : Nat) : Int))]
  · walk_at "ew"
    simp only [wlead, wd, nis, List.map_map, Function.comp_def]
  · intro x hx
    rw [F__law_degree_eq ne hw hl]
    walk_at "ew"
    rw [wl_pos h, gd_pos (ge0 _)]
    walk_at "ew"
    rw [shrN, one_nat, bandN]
/-! K71: the law itself; what is finite is run by the kernel. -/
local macro_rules | `(tactic| walk_at "ev") => `(tactic| try simp only [Sms.ev_cons, Sms.ev_nil, Ex_ev_var, Ex_ev_lit, Ex_ev_tup, Ex_ev_lst, Ex_ev_bin, Ex_ev_neg, Ex_ev_cmp, Ex_ev_cmp2, Ex_ev_and_, Ex_ev_or_, Ex_ev_not_, Ex_ev_ite, Ex_ev_call, Ex_ev_bi, Ex_ev_mth, Ex_ev_ix, Ex_ev_slc, Ex_ev_isa, Ex_ev_rev, Ex_ev_dic0, Ex_ev_lrng, Ex_ev_sdk, Exs_eva_sdk, Sm_ev_ret_sdk, It_ev_rangd, mtV_count, Ex_ev_star, Exs_eva_lrng, Exs_eva_star, Sm_ev_ret_lrng, Sm_ev_ret_star, tupV_tuple, Ex_ev_comp, Exo_ev_no, Exo_ev_so, Exs_ev_nil, Exs_ev_cons, Exs_evt_nil, Exs_evt_cons, It_ev_seq, It_ev_range1, It_ev_range2, It_ev_enum, It_ev_zips, It_ev_zip, Exs_evf_nil, Exs_evf_cons, Sm_ev_asg_nm, Sm_ev_asg_tp, Sm_ev_par, Sm_ev_aug, Sm_ev_app, Sm_ev_setx, Sm_ev_ite, Sm_ev_for_, Sm_ev_whl, Sm_ev_retn, Sm_ev_brk, Sm_ev_cnt, Sm_ev_pass, Sm_ev_expr, Sm_ev_ret_lit, Sm_ev_ret_tup, Sm_ev_ret_lst, Sm_ev_ret_bin, Sm_ev_ret_neg, Sm_ev_ret_cmp, Sm_ev_ret_cmp2, Sm_ev_ret_and_, Sm_ev_ret_or_, Sm_ev_ret_not_, Sm_ev_ret_ite, Sm_ev_ret_call, Sm_ev_ret_bi, Sm_ev_ret_mth, Sm_ev_ret_ix, Sm_ev_ret_slc, Sm_ev_ret_isa, Sm_ev_ret_rev, Sm_ev_ret_dic0, Sm_ev_ret_comp, Ex.tst, Ev.ok_bind, Ev.ex_bind, Ev.bad_bind, evk_ok, evk_ex, evk_bad, Res.thn_nx, Res.thn_rt, Res.thn_bk, Res.thn_ct, Res.thn_ex, Res.thn_bad, gd_true, gdR_true, optV_some, optR_some, intV_int, seqV_list, seqV_tuple, lstV_list, twoV_list, twoV_tuple, tstV_bool, noex_ok, tab_cons, aft_eq, frz_eq, frzL_nil, frzL_un, frzL_sh, frzL_src, frzL_ow, memN_nil, memN_cons, leafy_int, leafy_bool, leafy_str, leafy_none, leafy_tuple, leafy_list, leafy_dict, flats_nil, flats_cons, flat_int, flat_bool, flat_str, flat_none, flat_tuple, flat_list, put_true, put_false, putAll_nil, putAll_cons, bv_nm, bv_tp, bv_nil, bv_cons, intO_int, wipeE, Ex.vs, Exs.vs, Exo.vs, It.vs, cond_true, cond_false, Bool.cond_self, Option.bind_some, Bool.true_and, Bool.and_true, Bool.false_or, Bool.or_false, Bool.true_or, Bool.or_true, Bool.false_and, Bool.and_false, Bool.not_true, Bool.not_false, decide_true, decide_false, reduceIte, List.map_cons, List.map_nil, List.cons_append, List.nil_append, List.replicate, List.length_cons, List.length_nil, Nat.reduceAdd, Nat.reduceSub, Nat.reduceEqDiff, Nat.reduceBEq, List.set_cons_succ, List.set_cons_zero, List.length_map, Nat.zero_add, evDef_eq, val_rt, val_nx, val_ex, Sm_ev_ext, Sm_ev_augx, Sm_ev_ret_v, binV_addI, binV_addS, binV_addL, binV_addT, binV_subI, binV_mulI, binV_mulT, binV_mulL, binV_fdivI, binV_modI, binV_powI, binV_shlI, binV_shrI, binV_bandI, binV_borI, binV_bxorI, augV_add, augV_sub, augV_band, augV_bor, augV_bxor, augV_mul, augV_fdiv, augV_mod, augV_shl, augV_shr, cmpV_eqI, cmpV_neI, cmpV_lt, cmpV_le, cmpV_gt, cmpV_ge, cmpV_eqIS, cmpV_neIS, cmpV_eqIB, cmpV_neIB, cmpV_eqIN, cmpV_neIN, cmpV_eqIL, cmpV_neIL, cmpV_eqIT, cmpV_neIT, cmpV_eqID, cmpV_neID, cmpV_eqSI, cmpV_neSI, cmpV_eqSS, cmpV_neSS, cmpV_eqSB, cmpV_neSB, cmpV_eqSN, cmpV_neSN, cmpV_eqSL, cmpV_neSL, cmpV_eqST, cmpV_neST, cmpV_eqSD, cmpV_neSD, cmpV_eqBI, cmpV_neBI, cmpV_eqBS, cmpV_neBS, cmpV_eqBB, cmpV_neBB, cmpV_eqBN, cmpV_neBN, cmpV_eqBL, cmpV_neBL, cmpV_eqBT, cmpV_neBT, cmpV_eqBD, cmpV_neBD, cmpV_eqNI, cmpV_neNI, cmpV_eqNS, cmpV_neNS, cmpV_eqNB, cmpV_neNB, cmpV_eqNN, cmpV_neNN, cmpV_eqNL, cmpV_neNL, cmpV_eqNT, cmpV_neNT, cmpV_eqND, cmpV_neND, cmpV_eqLI, cmpV_neLI, cmpV_eqLS, cmpV_neLS, cmpV_eqLB, cmpV_neLB, cmpV_eqLN, cmpV_neLN, cmpV_eqLL, cmpV_neLL, cmpV_eqLT, cmpV_neLT, cmpV_eqLD, cmpV_neLD, cmpV_eqTI, cmpV_neTI, cmpV_eqTS, cmpV_neTS, cmpV_eqTB, cmpV_neTB, cmpV_eqTN, cmpV_neTN, cmpV_eqTL, cmpV_neTL, cmpV_eqTT, cmpV_neTT, cmpV_eqTD, cmpV_neTD, cmpV_eqDI, cmpV_neDI, cmpV_eqDS, cmpV_neDS, cmpV_eqDB, cmpV_neDB, cmpV_eqDN, cmpV_neDN, cmpV_eqDL, cmpV_neDL, cmpV_eqDT, cmpV_neDT, cmpV_eqDD, cmpV_neDD, cmpV_isI, cmpV_inLItrue, cmpV_inTItrue, cmpV_inDItrue, cmpV_inLIfalse, cmpV_inTIfalse, cmpV_inDIfalse, cmpV_isS, cmpV_inLStrue, cmpV_inTStrue, cmpV_inDStrue, cmpV_inLSfalse, cmpV_inTSfalse, cmpV_inDSfalse, cmpV_isB, cmpV_inLBtrue, cmpV_inTBtrue, cmpV_inLBfalse, cmpV_inTBfalse, cmpV_isN, cmpV_inLNtrue, cmpV_inTNtrue, cmpV_inLNfalse, cmpV_inTNfalse, cmpV_isL, cmpV_inLLtrue, cmpV_inTLtrue, cmpV_inLLfalse, cmpV_inTLfalse, cmpV_isT, cmpV_inLTtrue, cmpV_inTTtrue, cmpV_inLTfalse, cmpV_inTTfalse, cmpV_isD, cmpV_inLDtrue, cmpV_inTDtrue, cmpV_inLDfalse, cmpV_inTDfalse, biV_lenL, biV_lenT, biV_lenS, biV_abs, biV_max2, biV_min2, biV_intI, biV_intB, biV_tuple_list, biV_tuple_tuple, biV_list_list, biV_list_tuple, biV_max_list, biV_max_tuple, biV_min_list, biV_min_tuple, biV_repr, biV_all, biV_any, biV_sorted, biV_sum, mtT_bits, mtT_indexL, mtT_indexT, mtT_get, mtV_bits, mtV_indexL, mtV_indexT, mtV_get1, mtV_get2, keyFor_int, keyFor_str, keyPut_int, keyPut_str, ixV_L, ixV_T, ixV_D, slV_L, slV_T, revV_L, revV_T, tstV_int, tstV_none, tstV_list, tstV_tuple, lstO_list, slot_sh, slot_ow, slot_succ, intAt_sh, intAt_succ, ownL_ow, ownL_succ, ownS_owL, ownS_owD, ownS_succ, retS_sh, retS_ow, retS_succ, leN_0, leN_1, leN_2, leN_3, leN_4, leN_5, leN_6, leN_7, leN_8, leN_9, leN_10, leN_11, leN_12, Int.toNat_natCast, Int.zero_add, Exs_eva_nil, Exs_eva_var, Exs_eva_lit, Exs_eva_tup, Exs_eva_lst, Exs_eva_bin, Exs_eva_neg, Exs_eva_cmp, Exs_eva_cmp2, Exs_eva_and_, Exs_eva_or_, Exs_eva_not_, Exs_eva_ite, Exs_eva_call, Exs_eva_bi, Exs_eva_mth, Exs_eva_ix, Exs_eva_slc, Exs_eva_isa, Exs_eva_rev, Exs_eva_dic0, Exs_eva_comp, Ev.pk_bind, evk_pk, noex_pk, Res.thn_pk, wp_nx, wp_rt, wp_ct, wp_bk, Ev.wp_ok, val_pk, F_pick_eq, slotA_sh, slotA_ow, slotA_src, slotA_succ, cnd_t, cnd_f, cnd_ex, cnd_pk, stepV_eq, sh_int, sh_bool, sh_none, sh_nilL, sh_nilT, eqv_nilL, eqv_nilT, frzL_jk, Bool.not_not, Bool.and_self, Int.reduceBEq, Int.reduceLT, Int.reduceLE, Int.reduceAdd, Int.reduceSub, Int.reduceNeg, Int.reduceMul, is_isInt_I, is_isInt_S, is_isInt_B, is_isInt_N, is_isInt_L, is_isInt_T, is_isInt_D, is_isBool_I, is_isBool_S, is_isBool_B, is_isBool_N, is_isBool_L, is_isBool_T, is_isBool_D, is_isTuple_I, is_isTuple_S, is_isTuple_B, is_isTuple_N, is_isTuple_L, is_isTuple_T, is_isTuple_D, is_isStr_I, is_isStr_S, is_isStr_B, is_isStr_N, is_isStr_L, is_isStr_T, is_isStr_D, is_isList_I, is_isList_S, is_isList_B, is_isList_N, is_isList_L, is_isList_T, is_isList_D, is_isDict_I, is_isDict_S, is_isDict_B, is_isDict_N, is_isDict_L, is_isDict_T, is_isDict_D, cast_0, cast_1, cast_2, cast_3, cast_4, cast_5, cast_6, cast_7, cast_8, cast_9, cast_10, cast_11, cast_12, cast_13, cast_14, cast_15, cast_16, cast_17, cast_18, cast_19, leN_13, leN_14, leN_15, leN_16, leN_17, leN_18, leN_19, leN_20, leN_21, leN_22, leN_23, toNat_0, toNat_1, toNat_2, toNat_3, toNat_4, toNat_5, toNat_6, toNat_7, toNat_8, toNat_9, toNat_10, toNat_11, toNat_12, toNat_13, toNat_14, toNat_15, toNat_16, toNat_17, toNat_18, toNat_19, toNat_20, toNat_21, toNat_22, toNat_23, toNat_24, toNat_25, toNat_26, toNat_27, toNat_28, toNat_29, toNat_30, toNat_31, toNat_32, toNat_33, toNat_34, toNat_35, toNat_36, toNat_37, toNat_38, toNat_39, toNat_40, wq_nx, wq_rt, wq_ct, wq_bk, Ev.wq_ok, Ev.wq_ex, wq_ex, Sm_ev_asx, slO_sh, slO_ow, slO_succ, twoV_listT, twoV_tupleL, Bool.false_eq_true, shortT_nil, shortT_s, shortT_cc, shortT_i, okv, okn, isaD])
def N_row_choices : List Str := ["n", "k", "found", "i"]
def b_row_choices : Sms := (.cons (.asg (.nm 2) (.lit (.int 1)))
    (.cons (.for_ (.nm 3) (.range1 (.var 1)) (.cons (.aug 2 .mul (.bin .sub (.bin .shl (.lit (.int 1)) (.var 0)) (.bin .shl (.lit (.int 1)) (.var 3))))
    .nil))
    (.cons (.ret (.var 2))
    .nil)))
def F_row_choices : FV := evDef (tab []) 4 2 b_row_choices
def N_flat_number : List Str := ["n", "k"]
def b_flat_number : Sms := (.cons (.ret (.bin .fdiv (.call 507 (.cons (.var 0) (.cons (.var 1) .nil))) (.call 507 (.cons (.var 1) (.cons (.var 1) .nil)))))
    .nil)
def F_flat_number : FV := evDef (tab [(507, F_row_choices)]) 2 2 b_flat_number
def N_degree_lists : List Str := ["k", "total", "found", "left", "late", "row", "rest", "low", "high", ".0", "number"]
def b_degree_lists : Sms := (.cons (.asg (.nm 2) (.lst (.cons (.tup (.cons (.tup .nil) (.cons (.var 1) .nil))) .nil)))
    (.cons (.for_ (.nm 3) (.rangd (.var 0) (.lit (.int 0))) (.cons (.asg (.nm 4) (.lst .nil))
    (.cons (.for_ (.tp (.cons (.nm 5) (.cons (.nm 6) .nil))) (.seq (.var 2)) (.cons (.asg (.nm 7) (.ite (.cmp .ne (.var 5) (.tup .nil)) (.ix (.var 5) (.neg (.lit (.int 1)))) (.lit (.int 0))))
    (.cons (.asg (.nm 8) (.ite (.cmp .gt (.var 3) (.lit (.int 1))) (.bin .fdiv (.var 6) (.var 3)) (.var 6)))
    (.cons (.ext 4 (.comp (.tup (.cons (.star (.var 5) (.var 10)) (.cons (.bin .sub (.var 6) (.var 10)) .nil))) (.nm 10) (.range2 (.var 7) (.bin .add (.var 8) (.lit (.int 1)))) .nil [9, 10]))
    .nil))))
    (.cons (.asg (.nm 2) (.var 4))
    .nil))))
    (.cons (.ret (.bi .sorted (.cons (.comp (.var 5) (.tp (.cons (.nm 5) (.cons (.nm 6) .nil))) (.seq (.var 2)) (.cons (.cmp .eq (.var 6) (.lit (.int 0))) .nil) [9, 5, 6]) .nil)))
    .nil)))
def F_degree_lists : FV := evDef (tab []) 11 2 b_degree_lists
def N_base_number : List Str := ["degrees", "found", "number", "late", "many", ".0", "one"]
def b_base_number : Sms := (.cons (.asg (.nm 1) (.lit (.int 1)))
    (.cons (.for_ (.nm 2) (.seq (.var 0)) (.cons (.for_ (.nm 3) (.seq (.var 0)) (.cons (.ite (.cmp .lt (.var 3) (.var 2)) (.cons (.aug 1 .shl (.bin .add (.bin .sub (.var 2) (.var 3)) (.lit (.int 1))))
    .nil) .nil)
    .nil))
    .nil))
    (.cons (.for_ (.nm 2) (.seq (.sdk (.comp (.tup (.cons (.var 6) (.cons (.lit (.bool true)) .nil))) (.nm 6) (.seq (.var 0)) .nil [5, 6]))) (.cons (.asg (.nm 4) (.mth .count (.var 0) (.cons (.var 2) .nil)))
    (.cons (.aug 1 .mul (.call 507 (.cons (.var 4) (.cons (.var 4) .nil))))
    .nil)))
    (.cons (.ret (.var 1))
    .nil))))
def F_base_number : FV := evDef (tab [(507, F_row_choices)]) 7 1 b_base_number
def N_codes_with_degrees : List Str := ["n", "degrees"]
def b_codes_with_degrees : Sms := (.cons (.ret (.bin .fdiv (.bin .shl (.call 507 (.cons (.var 0) (.cons (.bi .len (.cons (.var 1) .nil)) .nil))) (.bin .mul (.var 0) (.bi .sum (.cons (.var 1) .nil)))) (.call 720 (.cons (.var 1) .nil))))
    .nil)
def F_codes_with_degrees : FV := evDef (tab [(507, F_row_choices), (720, F_base_number)]) 2 2 b_codes_with_degrees
def N_more_row : List Str := ["row", "c", "found", "number"]
def b_more_row_1b : Sms := (.cons (.app 2 (.bin .add (.var 3) (.ite (.cmp .ne (.var 2) (.lst .nil)) (.bin .mul (.var 1) (.ix (.var 2) (.neg (.lit (.int 1))))) (.lit (.int 0))))) .nil)
def b_more_row_t2 : Sms := (.cons (.ret (.var 2)) .nil)
def b_more_row_t1 : Sms := (.cons (.for_ (.nm 3) (.seq (.var 0)) b_more_row_1b) b_more_row_t2)
def b_more_row : Sms := (.cons (.asg (.nm 2) (.lst .nil)) b_more_row_t1)
def F_more_row : FV := evDef (tab []) 4 2 b_more_row
def N_less_row : List Str := ["row", "c", ".0", "m", "number"]
def b_less_row : Sms := (.cons (.ret (.comp (.bin .sub (.var 4) (.ite (.cmp .gt (.var 3) (.lit (.int 0))) (.bin .mul (.var 1) (.ix (.var 0) (.bin .sub (.var 3) (.lit (.int 1))))) (.lit (.int 0)))) (.tp (.cons (.nm 3) (.cons (.nm 4) .nil))) (.enum (.var 0)) .nil [2, 3, 4]))
    .nil)
def F_less_row : FV := evDef (tab []) 5 2 b_less_row
def N_beginning : List Str := ["most"]
def b_beginning : Sms := (.cons (.ret (.bin .add (.lst (.cons (.lit (.int 1)) .nil)) (.bin .mul (.lst (.cons (.lit (.int 0)) .nil)) (.var 0))))
    .nil)
def F_beginning : FV := evDef (tab []) 1 1 b_beginning
def N_inside_number : List Str := ["k", "m", "row", "i"]
def b_inside_number : Sms := (.cons (.asg (.nm 2) (.call 511 (.cons (.var 1) .nil)))
    (.cons (.for_ (.nm 3) (.range2 (.lit (.int 1)) (.bin .add (.var 0) (.lit (.int 1)))) (.cons (.asg (.nm 2) (.call 509 (.cons (.var 2) (.cons (.bin .shl (.lit (.int 1)) (.var 3)) .nil))))
    .nil))
    (.cons (.ret (.ix (.var 2) (.var 1)))
    .nil)))
def F_inside_number : FV := evDef (tab [(511, F_beginning), (509, F_more_row)]) 4 2 b_inside_number
def N_all_number : List Str := ["n", "k", "total"]
def b_all_number : Sms := (.cons (.ret (.bin .mul (.bin .shl (.call 508 (.cons (.var 0) (.cons (.var 1) .nil))) (.bin .mul (.bin .sub (.var 0) (.var 1)) (.var 2))) (.call 512 (.cons (.var 1) (.cons (.var 2) .nil)))))
    .nil)
def F_all_number : FV := evDef (tab [(508, F_flat_number), (512, F_inside_number)]) 3 3 b_all_number
def N_whole_number : List Str := ["n", "k", "total", "row", "i"]
def b_whole_number : Sms := (.cons (.asg (.nm 3) (.call 511 (.cons (.var 2) .nil)))
    (.cons (.for_ (.nm 4) (.range2 (.bin .add (.bin .sub (.var 0) (.var 1)) (.lit (.int 1))) (.bin .add (.var 0) (.lit (.int 1)))) (.cons (.asg (.nm 3) (.call 509 (.cons (.var 3) (.cons (.bin .shl (.lit (.int 1)) (.var 4)) .nil))))
    .nil))
    (.cons (.for_ (.nm 4) (.range2 (.lit (.int 1)) (.bin .add (.var 1) (.lit (.int 1)))) (.cons (.asg (.nm 3) (.call 510 (.cons (.var 3) (.cons (.bin .shl (.lit (.int 1)) (.var 4)) .nil))))
    .nil))
    (.cons (.ret (.bin .mul (.call 508 (.cons (.var 0) (.cons (.var 1) .nil))) (.ix (.var 3) (.var 2))))
    .nil))))
def F_whole_number : FV := evDef (tab [(511, F_beginning), (509, F_more_row), (510, F_less_row), (508, F_flat_number)]) 5 3 b_whole_number
def N_prompt_number : List Str := ["n", "k", "total", "row", "i"]
def b_prompt_number : Sms := (.cons (.asg (.nm 3) (.call 511 (.cons (.var 2) .nil)))
    (.cons (.for_ (.nm 4) (.range2 (.bin .add (.bin .sub (.var 0) (.var 1)) (.lit (.int 1))) (.bin .add (.var 0) (.lit (.int 1)))) (.cons (.asg (.nm 3) (.call 509 (.cons (.var 3) (.cons (.bin .shl (.lit (.int 1)) (.var 4)) .nil))))
    .nil))
    (.cons (.for_ (.nm 4) (.range1 (.var 1)) (.cons (.asg (.nm 3) (.call 510 (.cons (.var 3) (.cons (.bin .shl (.lit (.int 1)) (.var 4)) .nil))))
    .nil))
    (.cons (.ret (.bin .mul (.call 508 (.cons (.var 0) (.cons (.var 1) .nil))) (.ix (.var 3) (.var 2))))
    .nil))))
def F_prompt_number : FV := evDef (tab [(511, F_beginning), (509, F_more_row), (510, F_less_row), (508, F_flat_number)]) 5 3 b_prompt_number
def N_whole_rule : List Str := ["n", "k", "most", "row", "i", ".0", "number"]
def b_whole_rule : Sms := (.cons (.asg (.nm 2) (.bi .min (.cons (.var 1) (.cons (.bin .sub (.var 0) (.var 1)) .nil))))
    (.cons (.asg (.nm 3) (.call 511 (.cons (.var 2) .nil)))
    (.cons (.for_ (.nm 4) (.range2 (.bin .add (.bin .sub (.var 0) (.var 2)) (.lit (.int 1))) (.bin .add (.var 0) (.lit (.int 1)))) (.cons (.asg (.nm 3) (.call 510 (.cons (.var 3) (.cons (.bin .shl (.lit (.int 1)) (.var 4)) .nil))))
    .nil))
    (.cons (.ret (.bi .tuple (.cons (.comp (.neg (.var 6)) (.nm 6) (.seq (.slc (.var 3) (.so (.lit (.int 1))) .no)) .nil [5, 6]) .nil)))
    .nil))))
def F_whole_rule : FV := evDef (tab [(511, F_beginning), (510, F_less_row)]) 7 2 b_whole_rule
def N__law_inside_number : List Str := ["k", "m", ".0", "e"]
def b__law_inside_number : Sms := (.cons (.ite (.cmp .eq (.var 0) (.lit (.int 0))) (.cons (.ret (.bi .int (.cons (.cmp .eq (.var 1) (.lit (.int 0))) .nil)))
    .nil) .nil)
    (.cons (.ret (.bi .sum (.cons (.comp (.bin .shl (.call 750 (.cons (.bin .sub (.var 0) (.lit (.int 1))) (.cons (.bin .sub (.var 1) (.var 3)) .nil))) (.bin .mul (.var 0) (.var 3))) (.nm 3) (.range1 (.bin .add (.var 1) (.lit (.int 1)))) .nil [2, 3]) .nil)))
    .nil))
def F_insideL : Nat → FV
  | 0 => fun _ => .bad
  | t + 1 => evDef (tab [(750, F_insideL t)]) 4 2 b__law_inside_number
theorem F_insideL_succ {t : Nat} : F_insideL (t + 1) = evDef (tab [(750, F_insideL t)]) 4 2 b__law_inside_number := rfl
def N__law_free_rows : List Str := ["n", "k", "found", "i"]
def b__law_free_rows : Sms := (.cons (.asg (.nm 2) (.lit (.int 1)))
    (.cons (.for_ (.nm 3) (.range1 (.var 1)) (.cons (.asg (.nm 2) (.bin .mul (.var 2) (.bin .sub (.bin .shl (.lit (.int 1)) (.var 0)) (.bin .shl (.lit (.int 1)) (.var 3)))))
    .nil))
    (.cons (.ret (.var 2))
    .nil)))
def F__law_free_rows : FV := evDef (tab []) 4 2 b__law_free_rows
def N__law_lists : List Str := ["k", "total", "least", "found", "d", ".0", "rest"]
def b__law_lists : Sms := (.cons (.ite (.cmp .eq (.var 0) (.lit (.int 0))) (.cons (.ret (.ite (.cmp .eq (.var 1) (.lit (.int 0))) (.lst (.cons (.tup .nil) .nil)) (.lst .nil)))
    .nil) .nil)
    (.cons (.asg (.nm 3) (.lst .nil))
    (.cons (.for_ (.nm 4) (.range2 (.var 2) (.bin .add (.var 1) (.lit (.int 1)))) (.cons (.asg (.nm 3) (.bin .add (.var 3) (.comp (.bin .add (.tup (.cons (.var 4) .nil)) (.var 6)) (.nm 6) (.seq (.call 663 (.cons (.bin .sub (.var 0) (.lit (.int 1))) (.cons (.bin .sub (.var 1) (.var 4)) (.cons (.var 4) .nil))))) .nil [5, 6])))
    .nil))
    (.cons (.ret (.var 3))
    .nil))))
def F_listsL : Nat → FV
  | 0 => fun _ => .bad
  | t + 1 => evDef (tab [(663, F_listsL t)]) 7 3 b__law_lists
theorem F_listsL_succ {t : Nat} : F_listsL (t + 1) = evDef (tab [(663, F_listsL t)]) 7 3 b__law_lists := rfl
def N__law_base_number : List Str := ["degrees", "found", "d", "e", "many", ".0"]
def b__law_base_number : Sms := (.cons (.asg (.nm 1) (.lit (.int 1)))
    (.cons (.for_ (.nm 2) (.seq (.var 0)) (.cons (.for_ (.nm 3) (.seq (.var 0)) (.cons (.asg (.nm 1) (.bin .shl (.var 1) (.ite (.cmp .lt (.var 3) (.var 2)) (.bin .add (.bin .sub (.var 2) (.var 3)) (.lit (.int 1))) (.lit (.int 0)))))
    .nil))
    .nil))
    (.cons (.for_ (.nm 2) (.seq (.sdk (.comp (.tup (.cons (.var 2) (.cons (.lit (.int 0)) .nil))) (.nm 2) (.seq (.var 0)) .nil [5, 2]))) (.cons (.asg (.nm 4) (.bi .len (.cons (.comp (.var 3) (.nm 3) (.seq (.var 0)) (.cons (.cmp .eq (.var 3) (.var 2)) .nil) [5, 3]) .nil)))
    (.cons (.asg (.nm 1) (.bin .mul (.var 1) (.call 662 (.cons (.var 4) (.cons (.var 4) .nil)))))
    .nil)))
    (.cons (.ret (.var 1))
    .nil))))
def F__law_base_number : FV := evDef (tab [(662, F__law_free_rows)]) 6 1 b__law_base_number
def N__law_with_degrees : List Str := ["n", "degrees"]
def b__law_with_degrees : Sms := (.cons (.ret (.bin .fdiv (.bin .shl (.call 662 (.cons (.var 0) (.cons (.bi .len (.cons (.var 1) .nil)) .nil))) (.bin .mul (.var 0) (.bi .sum (.cons (.var 1) .nil)))) (.call 664 (.cons (.var 1) .nil))))
    .nil)
def F__law_with_degrees : FV := evDef (tab [(662, F__law_free_rows), (664, F__law_base_number)]) 2 2 b__law_with_degrees
def N__law_all_number : List Str := ["n", "k", "total", ".0", "degrees"]
def b__law_all_number : Sms := (.cons (.ret (.bi .sum (.cons (.comp (.call 665 (.cons (.var 0) (.cons (.var 4) .nil))) (.nm 4) (.seq (.call 663 (.cons (.var 1) (.cons (.var 2) (.cons (.lit (.int 0)) .nil))))) .nil [3, 4]) .nil)))
    .nil)
def F__law_all_number : FV := evDef (tab [(665, F__law_with_degrees), (663, F_listsL 5)]) 5 3 b__law_all_number
def N__law_upright : List Str := ["k", "m", ".0", "e"]
def b__law_upright : Sms := (.cons (.ite (.cmp .eq (.var 0) (.lit (.int 0))) (.cons (.ret (.bi .int (.cons (.cmp .eq (.var 1) (.lit (.int 0))) .nil)))
    .nil) .nil)
    (.cons (.ret (.bi .sum (.cons (.comp (.bin .shl (.call 752 (.cons (.bin .sub (.var 0) (.lit (.int 1))) (.cons (.bin .sub (.var 1) (.var 3)) .nil))) (.bin .mul (.bin .sub (.var 0) (.lit (.int 1))) (.var 3))) (.nm 3) (.range1 (.bin .add (.var 1) (.lit (.int 1)))) .nil [2, 3]) .nil)))
    .nil))
def F_uprightL : Nat → FV
  | 0 => fun _ => .bad
  | t + 1 => evDef (tab [(752, F_uprightL t)]) 4 2 b__law_upright
theorem F_uprightL_succ {t : Nat} : F_uprightL (t + 1) = evDef (tab [(752, F_uprightL t)]) 4 2 b__law_upright := rfl
def N__law_whole_numbers : List Str := ["n", "k", "most", "found", "total", "gone", ".0", "m"]
def b__law_whole_numbers : Sms := (.cons (.asg (.nm 3) (.lst .nil))
    (.cons (.for_ (.nm 4) (.range1 (.bin .add (.var 2) (.lit (.int 1)))) (.cons (.asg (.nm 5) (.bi .sum (.cons (.comp (.bin .mul (.ix (.var 3) (.var 7)) (.call 750 (.cons (.var 1) (.cons (.bin .sub (.var 4) (.var 7)) .nil)))) (.nm 7) (.range1 (.var 4)) .nil [6, 7]) .nil)))
    (.cons (.app 3 (.bin .sub (.call 666 (.cons (.var 0) (.cons (.var 1) (.cons (.var 4) .nil)))) (.var 5)))
    .nil)))
    (.cons (.ret (.var 3))
    .nil)))
def F__law_whole_numbers : FV := evDef (tab [(750, F_insideL 5), (666, F__law_all_number)]) 8 3 b__law_whole_numbers
def N__law_rule : List Str := ["n", "q", "row", "i", ".0", "a", "b", "number"]
def b__law_rule : Sms := (.cons (.asg (.nm 2) (.lst (.cons (.lit (.int 1)) .nil)))
    (.cons (.for_ (.nm 3) (.range2 (.bin .add (.bin .sub (.var 0) (.var 1)) (.lit (.int 1))) (.bin .add (.var 0) (.lit (.int 1)))) (.cons (.asg (.nm 2) (.comp (.bin .sub (.var 5) (.bin .shl (.var 6) (.var 3))) (.tp (.cons (.nm 5) (.cons (.nm 6) .nil))) (.zip (.bin .add (.var 2) (.lst (.cons (.lit (.int 0)) .nil))) (.bin .add (.lst (.cons (.lit (.int 0)) .nil)) (.var 2))) .nil [4, 5, 6]))
    .nil))
    (.cons (.ret (.bi .tuple (.cons (.comp (.bin .sub (.lit (.int 0)) (.var 7)) (.nm 7) (.seq (.slc (.var 2) (.so (.lit (.int 1))) .no)) .nil [4, 7]) .nil)))
    .nil)))
def F__law_rule : FV := evDef (tab []) 8 2 b__law_rule



def bl_law_6b : Sms := (.cons (.asg (.nm 8) (.lst (.cons (.call 664 (.cons (.var 7) .nil)) (.cons (.call 665 (.cons (.var 2) (.cons (.var 7) .nil))) .nil)))) (.cons (.ite (.cmp .ne (.bi .repr (.cons (.lst (.cons (.call 720 (.cons (.var 7) .nil)) (.cons (.call 748 (.cons (.var 2) (.cons (.var 7) .nil))) .nil))) .nil)) (.bi .repr (.cons (.var 8) .nil))) (.cons (.ret (.lit (.bool false))) .nil) .nil) (.cons (.ite (.cmp .ne (.bin .mul (.ix (.var 8) (.lit (.int 1))) (.ix (.var 8) (.lit (.int 0)))) (.bin .shl (.call 662 (.cons (.var 2) (.cons (.var 3) .nil))) (.bin .mul (.var 2) (.var 4)))) (.cons (.ret (.lit (.bool false))) .nil) .nil) .nil)))
def bl_law_14b : Sms := (.cons (.ite (.cmp .ne (.ix (.var 13) (.var 11)) (.bi .sum (.cons (.comp (.bin .mul (.ix (.var 12) (.var 26)) (.ix (.var 14) (.bin .sub (.var 11) (.var 26)))) (.nm 26) (.range1 (.bin .add (.var 11) (.lit (.int 1)))) .nil [25, 26]) .nil))) (.cons (.ret (.lit (.bool false))) .nil) .nil) (.cons (.ite (.cmp .ne (.ix (.var 13) (.var 11)) (.bin .shl (.bin .mul (.var 5) (.ix (.var 14) (.var 11))) (.bin .mul (.bin .sub (.var 2) (.var 3)) (.var 11)))) (.cons (.ret (.lit (.bool false))) .nil) .nil) .nil))
def bl_law_16b : Sms := (.cons (.ite (.or_ (.cmp .ne (.ix (.var 13) (.var 11)) (.bi .sum (.cons (.comp (.bin .mul (.ix (.var 15) (.var 26)) (.call 752 (.cons (.var 3) (.cons (.bin .sub (.var 11) (.var 26)) .nil)))) (.nm 26) (.range1 (.bin .add (.var 11) (.lit (.int 1)))) .nil [25, 26]) .nil))) (.cmp .lt (.ix (.var 15) (.var 11)) (.ix (.var 12) (.var 11)))) (.cons (.ret (.lit (.bool false))) .nil) .nil) .nil)
def bl_law_20b : Sms := (.cons (.ite (.cmp .ne (.ix (.var 18) (.var 11)) (.bi .sum (.cons (.comp (.bin .mul (.var 28) (.ix (.var 18) (.bin .sub (.bin .sub (.var 11) (.lit (.int 1))) (.var 27)))) (.tp (.cons (.nm 27) (.cons (.nm 28) .nil))) (.enum (.var 17)) .nil [25, 27, 28]) .nil))) (.cons (.ret (.lit (.bool false))) .nil) .nil) .nil)
def bl_law_23b : Sms := (.cons (.app 22 (.bin .add (.var 24) (.ite (.cmp .gt (.var 11) (.lit (.int 0))) (.bin .mul (.var 20) (.ix (.var 22) (.bin .sub (.var 11) (.lit (.int 1))))) (.lit (.int 0))))) (.cons (.app 23 (.bin .sub (.var 24) (.ite (.cmp .gt (.var 11) (.lit (.int 0))) (.bin .mul (.var 20) (.ix (.var 19) (.bin .sub (.var 11) (.lit (.int 1))))) (.lit (.int 0))))) .nil))
def bl_law_t24 : Sms := (.cons (.ite (.or_ (.cmp .ne (.bi .repr (.cons (.lst (.cons (.call 509 (.cons (.var 19) (.cons (.var 20) .nil))) (.cons (.call 510 (.cons (.var 19) (.cons (.var 20) .nil))) .nil))) .nil)) (.bi .repr (.cons (.lst (.cons (.var 22) (.cons (.var 23) .nil))) .nil))) (.cmp .ne (.bi .repr (.cons (.var 19) .nil)) (.var 21))) (.cons (.ret (.lit (.bool false))) .nil) .nil) (.cons (.ret (.and_ (.cmp .eq (.call 510 (.cons (.call 509 (.cons (.var 19) (.cons (.var 20) .nil))) (.cons (.var 20) .nil))) (.var 19)) (.cmp .eq (.call 514 (.cons (.lit (.int 4)) (.cons (.lit (.int 2)) (.cons (.lit (.int 2)) .nil)))) (.lit (.int 10920))))) .nil))
def bl_law_t23 : Sms := (.cons (.for_ (.tp (.cons (.nm 11) (.cons (.nm 24) .nil))) (.enum (.var 19)) bl_law_23b) bl_law_t24)
def bl_law_t21 : Sms := (.cons (.par [19, 20] (.cons (.comp (.bin .sub (.call 1 (.cons (.var 1) (.cons (.lit (.int 19)) .nil))) (.lit (.int 9))) (.nm 11) (.range1 (.call 1 (.cons (.var 1) (.cons (.lit (.int 6)) .nil)))) .nil [25, 11]) (.cons (.call 1 (.cons (.var 1) (.cons (.lit (.int 101)) .nil))) .nil))) (.cons (.par [21, 22, 23] (.cons (.bi .repr (.cons (.var 19) .nil)) (.cons (.lst .nil) (.cons (.lst .nil) .nil)))) bl_law_t23))
def bl_law_t20 : Sms := (.cons (.for_ (.nm 11) (.range2 (.bin .add (.var 16) (.lit (.int 1))) (.lit (.int 21))) bl_law_20b) bl_law_t21)
def bl_law_t17 : Sms := (.cons (.asg (.nm 16) (.bi .min (.cons (.var 3) (.cons (.bin .sub (.var 2) (.var 3)) .nil)))) (.cons (.par [17, 18] (.cons (.call 749 (.cons (.var 2) (.cons (.var 3) .nil))) (.cons (.comp (.call 514 (.cons (.var 2) (.cons (.var 3) (.cons (.var 11) .nil)))) (.nm 11) (.range1 (.lit (.int 21))) .nil [25, 11]) .nil))) (.cons (.ite (.cmp .ne (.bi .repr (.cons (.var 17) .nil)) (.bi .repr (.cons (.call 753 (.cons (.var 2) (.cons (.var 16) .nil))) .nil))) (.cons (.ret (.lit (.bool false))) .nil) .nil) bl_law_t20)))
def bl_law_t16 : Sms := (.cons (.for_ (.nm 11) (.range1 (.bin .add (.var 4) (.lit (.int 1)))) bl_law_16b) bl_law_t17)
def bl_law_t15 : Sms := (.cons (.asg (.nm 15) (.comp (.call 515 (.cons (.var 2) (.cons (.var 3) (.cons (.var 11) .nil)))) (.nm 11) (.range1 (.bin .add (.var 4) (.lit (.int 1)))) .nil [25, 11])) bl_law_t16)
def bl_law_t14 : Sms := (.cons (.for_ (.nm 11) (.range1 (.bin .add (.var 4) (.lit (.int 1)))) bl_law_14b) bl_law_t15)
def bl_law_t7 : Sms := (.cons (.par [9, 10] (.cons (.call 751 (.cons (.var 2) (.cons (.var 3) (.cons (.var 4) .nil)))) (.cons (.call 751 (.cons (.var 2) (.cons (.bin .sub (.var 2) (.var 3)) (.cons (.var 4) .nil)))) .nil))) (.cons (.ite (.or_ (.cmp .ne (.var 9) (.var 10)) (.cmp .ne (.ix (.var 9) (.lit (.int 0))) (.var 5))) (.cons (.ret (.lit (.bool false))) .nil) .nil) (.cons (.asg (.nm 12) (.comp (.call 514 (.cons (.var 2) (.cons (.var 3) (.cons (.var 11) .nil)))) (.nm 11) (.range1 (.bin .add (.var 4) (.lit (.int 1)))) .nil [25, 11])) (.cons (.asg (.nm 13) (.comp (.call 513 (.cons (.var 2) (.cons (.var 3) (.cons (.var 11) .nil)))) (.nm 11) (.range1 (.bin .add (.var 4) (.lit (.int 1)))) .nil [25, 11])) (.cons (.asg (.nm 14) (.comp (.call 512 (.cons (.var 3) (.cons (.var 11) .nil))) (.nm 11) (.range1 (.bin .add (.var 4) (.lit (.int 1)))) .nil [25, 11])) (.cons (.ite (.or_ (.cmp .ne (.bi .repr (.cons (.var 12) .nil)) (.bi .repr (.cons (.var 9) .nil))) (.cmp .ne (.bi .repr (.cons (.var 13) .nil)) (.bi .repr (.cons (.comp (.call 666 (.cons (.var 2) (.cons (.var 3) (.cons (.var 11) .nil)))) (.nm 11) (.range1 (.bin .add (.var 4) (.lit (.int 1)))) .nil [25, 11]) .nil)))) (.cons (.ret (.lit (.bool false))) .nil) .nil) (.cons (.ite (.cmp .ne (.bi .repr (.cons (.var 14) .nil)) (.bi .repr (.cons (.comp (.call 750 (.cons (.var 3) (.cons (.var 11) .nil))) (.nm 11) (.range1 (.bin .add (.var 4) (.lit (.int 1)))) .nil [25, 11]) .nil))) (.cons (.ret (.lit (.bool false))) .nil) .nil) bl_law_t14)))))))
def bl_law_t6 : Sms := (.cons (.for_ (.nm 7) (.seq (.slc (.call 40 (.cons (.var 1) (.cons (.var 6) .nil))) .no (.so (.lit (.int 4))))) bl_law_6b) bl_law_t7)
def bl_law_t2 : Sms := (.cons (.asg (.nm 5) (.bin .fdiv (.call 662 (.cons (.var 2) (.cons (.var 3) .nil))) (.call 662 (.cons (.var 3) (.cons (.var 3) .nil))))) (.cons (.ite (.cmp .ne (.bi .repr (.cons (.lst (.cons (.call 507 (.cons (.var 2) (.cons (.var 3) .nil))) (.cons (.call 508 (.cons (.var 2) (.cons (.var 3) .nil))) .nil))) .nil)) (.bi .repr (.cons (.lst (.cons (.call 662 (.cons (.var 2) (.cons (.var 3) .nil))) (.cons (.var 5) .nil))) .nil))) (.cons (.ret (.lit (.bool false))) .nil) .nil) (.cons (.asg (.nm 6) (.call 663 (.cons (.var 3) (.cons (.var 4) (.cons (.lit (.int 0)) .nil))))) (.cons (.ite (.cmp .ne (.bi .repr (.cons (.call 747 (.cons (.var 3) (.cons (.var 4) .nil))) .nil)) (.bi .repr (.cons (.var 6) .nil))) (.cons (.ret (.lit (.bool false))) .nil) .nil) bl_law_t6))))
def bl_law : Sms := (.cons (.asg (.nm 2) (.bin .add (.lit (.int 1)) (.call 1 (.cons (.var 1) (.cons (.lit (.int 4)) .nil))))) (.cons (.par [3, 4] (.cons (.call 1 (.cons (.var 1) (.cons (.bin .add (.var 2) (.lit (.int 1))) .nil))) (.cons (.call 1 (.cons (.var 1) (.cons (.lit (.int 7)) .nil))) .nil))) bl_law_t2))
def Flaw : Nat → FV := tab [(1, F_pick), (662, F__law_free_rows), (507, F_row_choices), (508, F_flat_number), (663, F_listsL 5), (747, F_degree_lists), (40, F_mixed), (664, F__law_base_number), (665, F__law_with_degrees), (720, F_base_number), (748, F_codes_with_degrees), (751, F__law_whole_numbers), (514, F_whole_number), (513, F_all_number), (512, F_inside_number), (666, F__law_all_number), (750, F_insideL 5), (515, F_prompt_number), (752, F_uprightL 5), (749, F_whole_rule), (753, F__law_rule), (509, F_more_row), (510, F_less_row)]
def bl_A : Sms := (.cons (.asg (.nm 5) (.bin .fdiv (.call 662 (.cons (.var 2) (.cons (.var 3) .nil))) (.call 662 (.cons (.var 3) (.cons (.var 3) .nil))))) (.cons (.ite (.cmp .ne (.bi .repr (.cons (.lst (.cons (.call 507 (.cons (.var 2) (.cons (.var 3) .nil))) (.cons (.call 508 (.cons (.var 2) (.cons (.var 3) .nil))) .nil))) .nil)) (.bi .repr (.cons (.lst (.cons (.call 662 (.cons (.var 2) (.cons (.var 3) .nil))) (.cons (.var 5) .nil))) .nil))) (.cons (.ret (.lit (.bool false))) .nil) .nil) (.cons (.asg (.nm 6) (.call 663 (.cons (.var 3) (.cons (.var 4) (.cons (.lit (.int 0)) .nil))))) (.cons (.ite (.cmp .ne (.bi .repr (.cons (.call 747 (.cons (.var 3) (.cons (.var 4) .nil))) .nil)) (.bi .repr (.cons (.var 6) .nil))) (.cons (.ret (.lit (.bool false))) .nil) .nil) .nil))))
def bl_mid : Sms := (.cons (.par [9, 10] (.cons (.call 751 (.cons (.var 2) (.cons (.var 3) (.cons (.var 4) .nil)))) (.cons (.call 751 (.cons (.var 2) (.cons (.bin .sub (.var 2) (.var 3)) (.cons (.var 4) .nil)))) .nil))) (.cons (.ite (.or_ (.cmp .ne (.var 9) (.var 10)) (.cmp .ne (.ix (.var 9) (.lit (.int 0))) (.var 5))) (.cons (.ret (.lit (.bool false))) .nil) .nil) (.cons (.asg (.nm 12) (.comp (.call 514 (.cons (.var 2) (.cons (.var 3) (.cons (.var 11) .nil)))) (.nm 11) (.range1 (.bin .add (.var 4) (.lit (.int 1)))) .nil [25, 11])) (.cons (.asg (.nm 13) (.comp (.call 513 (.cons (.var 2) (.cons (.var 3) (.cons (.var 11) .nil)))) (.nm 11) (.range1 (.bin .add (.var 4) (.lit (.int 1)))) .nil [25, 11])) (.cons (.asg (.nm 14) (.comp (.call 512 (.cons (.var 3) (.cons (.var 11) .nil))) (.nm 11) (.range1 (.bin .add (.var 4) (.lit (.int 1)))) .nil [25, 11])) (.cons (.ite (.or_ (.cmp .ne (.bi .repr (.cons (.var 12) .nil)) (.bi .repr (.cons (.var 9) .nil))) (.cmp .ne (.bi .repr (.cons (.var 13) .nil)) (.bi .repr (.cons (.comp (.call 666 (.cons (.var 2) (.cons (.var 3) (.cons (.var 11) .nil)))) (.nm 11) (.range1 (.bin .add (.var 4) (.lit (.int 1)))) .nil [25, 11]) .nil)))) (.cons (.ret (.lit (.bool false))) .nil) .nil) (.cons (.ite (.cmp .ne (.bi .repr (.cons (.var 14) .nil)) (.bi .repr (.cons (.comp (.call 750 (.cons (.var 3) (.cons (.var 11) .nil))) (.nm 11) (.range1 (.bin .add (.var 4) (.lit (.int 1)))) .nil [25, 11]) .nil))) (.cons (.ret (.lit (.bool false))) .nil) .nil) (.cons (.for_ (.nm 11) (.range1 (.bin .add (.var 4) (.lit (.int 1)))) bl_law_14b) (.cons (.asg (.nm 15) (.comp (.call 515 (.cons (.var 2) (.cons (.var 3) (.cons (.var 11) .nil)))) (.nm 11) (.range1 (.bin .add (.var 4) (.lit (.int 1)))) .nil [25, 11])) (.cons (.for_ (.nm 11) (.range1 (.bin .add (.var 4) (.lit (.int 1)))) bl_law_16b) .nil))))))))))
def bl_mid2 : Sms := (.cons (.asg (.nm 16) (.bi .min (.cons (.var 3) (.cons (.bin .sub (.var 2) (.var 3)) .nil)))) (.cons (.par [17, 18] (.cons (.call 749 (.cons (.var 2) (.cons (.var 3) .nil))) (.cons (.comp (.call 514 (.cons (.var 2) (.cons (.var 3) (.cons (.var 11) .nil)))) (.nm 11) (.range1 (.lit (.int 21))) .nil [25, 11]) .nil))) (.cons (.ite (.cmp .ne (.bi .repr (.cons (.var 17) .nil)) (.bi .repr (.cons (.call 753 (.cons (.var 2) (.cons (.var 16) .nil))) .nil))) (.cons (.ret (.lit (.bool false))) .nil) .nil) (.cons (.for_ (.nm 11) (.range2 (.bin .add (.var 16) (.lit (.int 1))) (.lit (.int 21))) bl_law_20b) .nil))))

theorem eqvSS {x : Str} : PyData.eqv (.str x) (.str x) = true := by
  simp only [PyData.eqv]
  exact beq_self_eq_true x
local macro_rules | `(tactic| walk_at "ex") => `(tactic| try simp only [Sms.ev_cons, Sms.ev_nil, Ex_ev_var, Ex_ev_lit, Ex_ev_tup, Ex_ev_lst, Ex_ev_bin, Ex_ev_neg, Ex_ev_cmp, Ex_ev_cmp2, Ex_ev_and_, Ex_ev_or_, Ex_ev_not_, Ex_ev_ite, Ex_ev_call, Ex_ev_bi, Ex_ev_mth, Ex_ev_ix, Ex_ev_slc, Ex_ev_isa, Ex_ev_rev, Ex_ev_dic0, Ex_ev_lrng, Ex_ev_sdk, Exs_eva_sdk, Sm_ev_ret_sdk, It_ev_rangd, mtV_count, Ex_ev_star, Exs_eva_lrng, Exs_eva_star, Sm_ev_ret_lrng, Sm_ev_ret_star, tupV_tuple, Ex_ev_comp, Exo_ev_no, Exo_ev_so, Exs_ev_nil, Exs_ev_cons, Exs_evt_nil, Exs_evt_cons, It_ev_seq, It_ev_range1, It_ev_range2, It_ev_enum, It_ev_zips, It_ev_zip, Exs_evf_nil, Exs_evf_cons, Sm_ev_asg_nm, Sm_ev_asg_tp, Sm_ev_par, Sm_ev_aug, Sm_ev_app, Sm_ev_setx, Sm_ev_ite, Sm_ev_for_, Sm_ev_whl, Sm_ev_retn, Sm_ev_brk, Sm_ev_cnt, Sm_ev_pass, Sm_ev_expr, Sm_ev_ret_lit, Sm_ev_ret_tup, Sm_ev_ret_lst, Sm_ev_ret_bin, Sm_ev_ret_neg, Sm_ev_ret_cmp, Sm_ev_ret_cmp2, Sm_ev_ret_and_, Sm_ev_ret_or_, Sm_ev_ret_not_, Sm_ev_ret_ite, Sm_ev_ret_call, Sm_ev_ret_bi, Sm_ev_ret_mth, Sm_ev_ret_ix, Sm_ev_ret_slc, Sm_ev_ret_isa, Sm_ev_ret_rev, Sm_ev_ret_dic0, Sm_ev_ret_comp, Ex.tst, Ev.ok_bind, Ev.ex_bind, Ev.bad_bind, evk_ok, evk_ex, evk_bad, Res.thn_nx, Res.thn_rt, Res.thn_bk, Res.thn_ct, Res.thn_ex, Res.thn_bad, gd_true, gdR_true, optV_some, optR_some, intV_int, seqV_list, seqV_tuple, lstV_list, twoV_list, twoV_tuple, tstV_bool, noex_ok, tab_cons, aft_eq, frz_eq, frzL_nil, frzL_un, frzL_sh, frzL_src, frzL_ow, memN_nil, memN_cons, leafy_int, leafy_bool, leafy_str, leafy_none, leafy_tuple, leafy_list, leafy_dict, flats_nil, flats_cons, flat_int, flat_bool, flat_str, flat_none, flat_tuple, flat_list, put_true, put_false, putAll_nil, putAll_cons, bv_nm, bv_tp, bv_nil, bv_cons, intO_int, wipeE, Ex.vs, Exs.vs, Exo.vs, It.vs, cond_true, cond_false, Bool.cond_self, Option.bind_some, Bool.true_and, Bool.and_true, Bool.false_or, Bool.or_false, Bool.true_or, Bool.or_true, Bool.false_and, Bool.and_false, Bool.not_true, Bool.not_false, decide_true, decide_false, reduceIte, List.map_cons, List.map_nil, List.cons_append, List.nil_append, List.replicate, List.length_cons, List.length_nil, Nat.reduceAdd, Nat.reduceSub, Nat.reduceEqDiff, Nat.reduceBEq, List.set_cons_succ, List.set_cons_zero, List.length_map, Nat.zero_add, evDef_eq, val_rt, val_nx, val_ex, Sm_ev_ext, Sm_ev_augx, Sm_ev_ret_v, binV_addI, binV_addS, binV_addL, binV_addT, binV_subI, binV_mulI, binV_mulT, binV_mulL, binV_fdivI, binV_modI, binV_powI, binV_shlI, binV_shrI, binV_bandI, binV_borI, binV_bxorI, augV_add, augV_sub, augV_band, augV_bor, augV_bxor, augV_mul, augV_fdiv, augV_mod, augV_shl, augV_shr, cmpV_eqI, cmpV_neI, cmpV_lt, cmpV_le, cmpV_gt, cmpV_ge, cmpV_eqIS, cmpV_neIS, cmpV_eqIB, cmpV_neIB, cmpV_eqIN, cmpV_neIN, cmpV_eqIL, cmpV_neIL, cmpV_eqIT, cmpV_neIT, cmpV_eqID, cmpV_neID, cmpV_eqSI, cmpV_neSI, cmpV_eqSS, cmpV_neSS, cmpV_eqSB, cmpV_neSB, cmpV_eqSN, cmpV_neSN, cmpV_eqSL, cmpV_neSL, cmpV_eqST, cmpV_neST, cmpV_eqSD, cmpV_neSD, cmpV_eqBI, cmpV_neBI, cmpV_eqBS, cmpV_neBS, cmpV_eqBB, cmpV_neBB, cmpV_eqBN, cmpV_neBN, cmpV_eqBL, cmpV_neBL, cmpV_eqBT, cmpV_neBT, cmpV_eqBD, cmpV_neBD, cmpV_eqNI, cmpV_neNI, cmpV_eqNS, cmpV_neNS, cmpV_eqNB, cmpV_neNB, cmpV_eqNN, cmpV_neNN, cmpV_eqNL, cmpV_neNL, cmpV_eqNT, cmpV_neNT, cmpV_eqND, cmpV_neND, cmpV_eqLI, cmpV_neLI, cmpV_eqLS, cmpV_neLS, cmpV_eqLB, cmpV_neLB, cmpV_eqLN, cmpV_neLN, cmpV_eqLL, cmpV_neLL, cmpV_eqLT, cmpV_neLT, cmpV_eqLD, cmpV_neLD, cmpV_eqTI, cmpV_neTI, cmpV_eqTS, cmpV_neTS, cmpV_eqTB, cmpV_neTB, cmpV_eqTN, cmpV_neTN, cmpV_eqTL, cmpV_neTL, cmpV_eqTT, cmpV_neTT, cmpV_eqTD, cmpV_neTD, cmpV_eqDI, cmpV_neDI, cmpV_eqDS, cmpV_neDS, cmpV_eqDB, cmpV_neDB, cmpV_eqDN, cmpV_neDN, cmpV_eqDL, cmpV_neDL, cmpV_eqDT, cmpV_neDT, cmpV_eqDD, cmpV_neDD, cmpV_isI, cmpV_inLItrue, cmpV_inTItrue, cmpV_inDItrue, cmpV_inLIfalse, cmpV_inTIfalse, cmpV_inDIfalse, cmpV_isS, cmpV_inLStrue, cmpV_inTStrue, cmpV_inDStrue, cmpV_inLSfalse, cmpV_inTSfalse, cmpV_inDSfalse, cmpV_isB, cmpV_inLBtrue, cmpV_inTBtrue, cmpV_inLBfalse, cmpV_inTBfalse, cmpV_isN, cmpV_inLNtrue, cmpV_inTNtrue, cmpV_inLNfalse, cmpV_inTNfalse, cmpV_isL, cmpV_inLLtrue, cmpV_inTLtrue, cmpV_inLLfalse, cmpV_inTLfalse, cmpV_isT, cmpV_inLTtrue, cmpV_inTTtrue, cmpV_inLTfalse, cmpV_inTTfalse, cmpV_isD, cmpV_inLDtrue, cmpV_inTDtrue, cmpV_inLDfalse, cmpV_inTDfalse, biV_lenL, biV_lenT, biV_lenS, biV_abs, biV_max2, biV_min2, biV_intI, biV_intB, biV_tuple_list, biV_tuple_tuple, biV_list_list, biV_list_tuple, biV_max_list, biV_max_tuple, biV_min_list, biV_min_tuple, biV_repr, biV_all, biV_any, biV_sorted, biV_sum, mtT_bits, mtT_indexL, mtT_indexT, mtT_get, mtV_bits, mtV_indexL, mtV_indexT, mtV_get1, mtV_get2, keyFor_int, keyFor_str, keyPut_int, keyPut_str, ixV_L, ixV_T, ixV_D, slV_L, slV_T, revV_L, revV_T, tstV_int, tstV_none, tstV_list, tstV_tuple, lstO_list, slot_sh, slot_ow, slot_succ, intAt_sh, intAt_succ, ownL_ow, ownL_succ, ownS_owL, ownS_owD, ownS_succ, retS_sh, retS_ow, retS_succ, leN_0, leN_1, leN_2, leN_3, leN_4, leN_5, leN_6, leN_7, leN_8, leN_9, leN_10, leN_11, leN_12, Int.toNat_natCast, Int.zero_add, Exs_eva_nil, Exs_eva_var, Exs_eva_lit, Exs_eva_tup, Exs_eva_lst, Exs_eva_bin, Exs_eva_neg, Exs_eva_cmp, Exs_eva_cmp2, Exs_eva_and_, Exs_eva_or_, Exs_eva_not_, Exs_eva_ite, Exs_eva_call, Exs_eva_bi, Exs_eva_mth, Exs_eva_ix, Exs_eva_slc, Exs_eva_isa, Exs_eva_rev, Exs_eva_dic0, Exs_eva_comp, Ev.pk_bind, evk_pk, noex_pk, Res.thn_pk, wp_nx, wp_rt, wp_ct, wp_bk, Ev.wp_ok, val_pk, F_pick_eq, slotA_sh, slotA_ow, slotA_src, slotA_succ, cnd_t, cnd_f, cnd_ex, cnd_pk, stepV_eq, sh_int, sh_bool, sh_none, sh_nilL, sh_nilT, eqv_nilL, eqv_nilT, frzL_jk, Bool.not_not, Bool.and_self, Int.reduceBEq, Int.reduceLT, Int.reduceLE, Int.reduceAdd, Int.reduceSub, Int.reduceNeg, Int.reduceMul, is_isInt_I, is_isInt_S, is_isInt_B, is_isInt_N, is_isInt_L, is_isInt_T, is_isInt_D, is_isBool_I, is_isBool_S, is_isBool_B, is_isBool_N, is_isBool_L, is_isBool_T, is_isBool_D, is_isTuple_I, is_isTuple_S, is_isTuple_B, is_isTuple_N, is_isTuple_L, is_isTuple_T, is_isTuple_D, is_isStr_I, is_isStr_S, is_isStr_B, is_isStr_N, is_isStr_L, is_isStr_T, is_isStr_D, is_isList_I, is_isList_S, is_isList_B, is_isList_N, is_isList_L, is_isList_T, is_isList_D, is_isDict_I, is_isDict_S, is_isDict_B, is_isDict_N, is_isDict_L, is_isDict_T, is_isDict_D, cast_0, cast_1, cast_2, cast_3, cast_4, cast_5, cast_6, cast_7, cast_8, cast_9, cast_10, cast_11, cast_12, cast_13, cast_14, cast_15, cast_16, cast_17, cast_18, cast_19, leN_13, leN_14, leN_15, leN_16, leN_17, leN_18, leN_19, leN_20, leN_21, leN_22, leN_23, toNat_0, toNat_1, toNat_2, toNat_3, toNat_4, toNat_5, toNat_6, toNat_7, toNat_8, toNat_9, toNat_10, toNat_11, toNat_12, toNat_13, toNat_14, toNat_15, toNat_16, toNat_17, toNat_18, toNat_19, toNat_20, toNat_21, toNat_22, toNat_23, toNat_24, toNat_25, toNat_26, toNat_27, toNat_28, toNat_29, toNat_30, toNat_31, toNat_32, toNat_33, toNat_34, toNat_35, toNat_36, toNat_37, toNat_38, toNat_39, toNat_40, wq_nx, wq_rt, wq_ct, wq_bk, Ev.wq_ok, Ev.wq_ex, wq_ex, Sm_ev_asx, slO_sh, slO_ow, slO_succ, twoV_listT, twoV_tupleL, Bool.false_eq_true, shortT_nil, shortT_s, shortT_cc, shortT_i, okv, okn, isaD, eqvSS, cmpV_isBB, biV_sumT])
def Sms.app : Sms → Sms → Sms
  | .nil, q => q
  | .cons s r, q => .cons s (Sms.app r q)
theorem thn_thn {F : Nat → FV} {p q : Sms} (ih : ∀ env, (Sms.app p q).ev F env = (p.ev F env).thn F q) : ∀ r : Res, (r.thn F p).thn F q = r.thn F (Sms.app p q)
  | .nx e => by rw [Res.thn_nx, Res.thn_nx, ih]
  | .rt f d => by rw [Res.thn_rt, Res.thn_rt, Res.thn_rt]
  | .bk e => by rw [Res.thn_bk, Res.thn_bk, Res.thn_bk]
  | .ct e => by rw [Res.thn_ct, Res.thn_ct, Res.thn_ct]
  | .ex e => by rw [Res.thn_ex, Res.thn_ex, Res.thn_ex]
  | .bad => by rw [Res.thn_bad, Res.thn_bad, Res.thn_bad]
  | .pk m g => by
    rw [Res.thn_pk, Res.thn_pk, Res.thn_pk]
    congr 1
    funext i
    exact thn_thn ih (g i)
theorem ev_app {F : Nat → FV} {q : Sms} : ∀ {p : Sms} {env : DL.Env}, (Sms.app p q).ev F env = (p.ev F env).thn F q
  | .nil, env => by
    show q.ev F env = _
    rw [Sms.ev_nil, Res.thn_nx]
  | .cons s r, env => by
    show (Sms.cons s (Sms.app r q)).ev F env = _
    rw [Sms.ev_cons, Sms.ev_cons, thn_thn fun env => ev_app]
theorem t2_app : bl_law_t2 = Sms.app bl_A bl_law_t6 := rfl
theorem t7_app : bl_law_t7 = Sms.app bl_mid bl_law_t17 := rfl
theorem t17_app : bl_law_t17 = Sms.app bl_mid2 bl_law_t21 := rfl
def uns : List Sl := [.un, .un, .un, .un, .un, .un, .un, .un, .un, .un, .un, .un, .un, .un, .un, .un, .un, .un, .un, .un]
def mk (n k t f : Int) (u6 u7 u8 : Sl) : DL.Env := .un :: .src :: .sh (.int n) :: .sh (.int k) :: .sh (.int t) :: .sh (.int f) :: u6 :: u7 :: u8 :: uns
def isUn : Sl → Bool
  | .un => true
  | _ => false
def shp (n k t f : Int) : DL.Env → Bool
  | .un :: .src :: .sh (.int a) :: .sh (.int b) :: .sh (.int c) :: .sh (.int g) :: _ :: _ :: _ :: r => decide (a = n) && (decide (b = k) && (decide (c = t) && (decide (g = f) && (decide (r.length = 20) && r.all isUn))))
  | _ => false
def okC : Res → Bool
  | .nx (_ :: .src :: r) => decide (r.length = 27)
  | _ => false
def okD (n k : Int) : Res → Bool
  | .nx (_ :: .src :: .sh (.int a) :: .sh (.int b) :: r) => decide (a = n) && (decide (b = k) && decide (r.length = 25))
  | _ => false
def okB (n k t f : Int) : Res → Bool
  | .nx e => shp n k t f e
  | _ => false
def okA (u6 u7 u8 : Sl) (n k t : Int) : Res → Bool
  | .nx (.un :: .src :: .sh (.int a) :: .sh (.int b) :: .sh (.int c) :: .sh (.int f) :: .ow (.list L) :: .un :: .un :: r) => decide (a = n) && (decide (b = k) && (decide (c = t) && (decide (r.length = 20) && (r.all isUn && (leN L.length 1000 &&
      (L.all (fun d => okB n k t f (bl_law_6b.ev Flaw (mk n k t f u6 (.sh d) u8))) && okD n k (bl_mid.ev Flaw (mk n k t f u6 u7 u8))))))))
  | _ => false
def chk (u6 u7 u8 : Sl) (n k t : Int) : Bool := okA u6 u7 u8 n k t (bl_A.ev Flaw (.un :: .src :: .sh (.int n) :: .sh (.int k) :: .sh (.int t) :: .un :: .un :: .un :: .un :: uns))
theorem d10 (a0 a4 a5 a6 a7 a8 a9 a10 a11 a12 a13 a14 a15 a16 a17 a18 a19 a20 a21 a22 a23 a24 a25 a26 a27 a28 : Sl) : okC (bl_mid2.ev Flaw [a0, .src, .sh (.int 1), .sh (.int 0), a4, a5, a6, a7, a8, a9, a10, a11, a12, a13, a14, a15, a16, a17, a18, a19, a20, a21, a22, a23, a24, a25, a26, a27, a28]) = true := by kernel_rfl
theorem c100 (u6 u7 u8 : Sl) : chk u6 u7 u8 1 0 0 = true := by kernel_rfl
theorem c101 (u6 u7 u8 : Sl) : chk u6 u7 u8 1 0 1 = true := by kernel_rfl
theorem c102 (u6 u7 u8 : Sl) : chk u6 u7 u8 1 0 2 = true := by kernel_rfl
theorem c103 (u6 u7 u8 : Sl) : chk u6 u7 u8 1 0 3 = true := by kernel_rfl
theorem c104 (u6 u7 u8 : Sl) : chk u6 u7 u8 1 0 4 = true := by kernel_rfl
theorem c105 (u6 u7 u8 : Sl) : chk u6 u7 u8 1 0 5 = true := by kernel_rfl
theorem c106 (u6 u7 u8 : Sl) : chk u6 u7 u8 1 0 6 = true := by kernel_rfl
theorem d11 (a0 a4 a5 a6 a7 a8 a9 a10 a11 a12 a13 a14 a15 a16 a17 a18 a19 a20 a21 a22 a23 a24 a25 a26 a27 a28 : Sl) : okC (bl_mid2.ev Flaw [a0, .src, .sh (.int 1), .sh (.int 1), a4, a5, a6, a7, a8, a9, a10, a11, a12, a13, a14, a15, a16, a17, a18, a19, a20, a21, a22, a23, a24, a25, a26, a27, a28]) = true := by kernel_rfl
theorem c110 (u6 u7 u8 : Sl) : chk u6 u7 u8 1 1 0 = true := by kernel_rfl
theorem c111 (u6 u7 u8 : Sl) : chk u6 u7 u8 1 1 1 = true := by kernel_rfl
theorem c112 (u6 u7 u8 : Sl) : chk u6 u7 u8 1 1 2 = true := by kernel_rfl
theorem c113 (u6 u7 u8 : Sl) : chk u6 u7 u8 1 1 3 = true := by kernel_rfl
theorem c114 (u6 u7 u8 : Sl) : chk u6 u7 u8 1 1 4 = true := by kernel_rfl
theorem c115 (u6 u7 u8 : Sl) : chk u6 u7 u8 1 1 5 = true := by kernel_rfl
theorem c116 (u6 u7 u8 : Sl) : chk u6 u7 u8 1 1 6 = true := by kernel_rfl
theorem d20 (a0 a4 a5 a6 a7 a8 a9 a10 a11 a12 a13 a14 a15 a16 a17 a18 a19 a20 a21 a22 a23 a24 a25 a26 a27 a28 : Sl) : okC (bl_mid2.ev Flaw [a0, .src, .sh (.int 2), .sh (.int 0), a4, a5, a6, a7, a8, a9, a10, a11, a12, a13, a14, a15, a16, a17, a18, a19, a20, a21, a22, a23, a24, a25, a26, a27, a28]) = true := by kernel_rfl
theorem c200 (u6 u7 u8 : Sl) : chk u6 u7 u8 2 0 0 = true := by kernel_rfl
theorem c201 (u6 u7 u8 : Sl) : chk u6 u7 u8 2 0 1 = true := by kernel_rfl
theorem c202 (u6 u7 u8 : Sl) : chk u6 u7 u8 2 0 2 = true := by kernel_rfl
theorem c203 (u6 u7 u8 : Sl) : chk u6 u7 u8 2 0 3 = true := by kernel_rfl
theorem c204 (u6 u7 u8 : Sl) : chk u6 u7 u8 2 0 4 = true := by kernel_rfl
theorem c205 (u6 u7 u8 : Sl) : chk u6 u7 u8 2 0 5 = true := by kernel_rfl
theorem c206 (u6 u7 u8 : Sl) : chk u6 u7 u8 2 0 6 = true := by kernel_rfl
theorem d21 (a0 a4 a5 a6 a7 a8 a9 a10 a11 a12 a13 a14 a15 a16 a17 a18 a19 a20 a21 a22 a23 a24 a25 a26 a27 a28 : Sl) : okC (bl_mid2.ev Flaw [a0, .src, .sh (.int 2), .sh (.int 1), a4, a5, a6, a7, a8, a9, a10, a11, a12, a13, a14, a15, a16, a17, a18, a19, a20, a21, a22, a23, a24, a25, a26, a27, a28]) = true := by kernel_rfl
theorem c210 (u6 u7 u8 : Sl) : chk u6 u7 u8 2 1 0 = true := by kernel_rfl
theorem c211 (u6 u7 u8 : Sl) : chk u6 u7 u8 2 1 1 = true := by kernel_rfl
theorem c212 (u6 u7 u8 : Sl) : chk u6 u7 u8 2 1 2 = true := by kernel_rfl
theorem c213 (u6 u7 u8 : Sl) : chk u6 u7 u8 2 1 3 = true := by kernel_rfl
theorem c214 (u6 u7 u8 : Sl) : chk u6 u7 u8 2 1 4 = true := by kernel_rfl
theorem c215 (u6 u7 u8 : Sl) : chk u6 u7 u8 2 1 5 = true := by kernel_rfl
theorem c216 (u6 u7 u8 : Sl) : chk u6 u7 u8 2 1 6 = true := by kernel_rfl
theorem d22 (a0 a4 a5 a6 a7 a8 a9 a10 a11 a12 a13 a14 a15 a16 a17 a18 a19 a20 a21 a22 a23 a24 a25 a26 a27 a28 : Sl) : okC (bl_mid2.ev Flaw [a0, .src, .sh (.int 2), .sh (.int 2), a4, a5, a6, a7, a8, a9, a10, a11, a12, a13, a14, a15, a16, a17, a18, a19, a20, a21, a22, a23, a24, a25, a26, a27, a28]) = true := by kernel_rfl
theorem c220 (u6 u7 u8 : Sl) : chk u6 u7 u8 2 2 0 = true := by kernel_rfl
theorem c221 (u6 u7 u8 : Sl) : chk u6 u7 u8 2 2 1 = true := by kernel_rfl
theorem c222 (u6 u7 u8 : Sl) : chk u6 u7 u8 2 2 2 = true := by kernel_rfl
theorem c223 (u6 u7 u8 : Sl) : chk u6 u7 u8 2 2 3 = true := by kernel_rfl
theorem c224 (u6 u7 u8 : Sl) : chk u6 u7 u8 2 2 4 = true := by kernel_rfl
theorem c225 (u6 u7 u8 : Sl) : chk u6 u7 u8 2 2 5 = true := by kernel_rfl
theorem c226 (u6 u7 u8 : Sl) : chk u6 u7 u8 2 2 6 = true := by kernel_rfl
theorem d30 (a0 a4 a5 a6 a7 a8 a9 a10 a11 a12 a13 a14 a15 a16 a17 a18 a19 a20 a21 a22 a23 a24 a25 a26 a27 a28 : Sl) : okC (bl_mid2.ev Flaw [a0, .src, .sh (.int 3), .sh (.int 0), a4, a5, a6, a7, a8, a9, a10, a11, a12, a13, a14, a15, a16, a17, a18, a19, a20, a21, a22, a23, a24, a25, a26, a27, a28]) = true := by kernel_rfl
theorem c300 (u6 u7 u8 : Sl) : chk u6 u7 u8 3 0 0 = true := by kernel_rfl
theorem c301 (u6 u7 u8 : Sl) : chk u6 u7 u8 3 0 1 = true := by kernel_rfl
theorem c302 (u6 u7 u8 : Sl) : chk u6 u7 u8 3 0 2 = true := by kernel_rfl
theorem c303 (u6 u7 u8 : Sl) : chk u6 u7 u8 3 0 3 = true := by kernel_rfl
theorem c304 (u6 u7 u8 : Sl) : chk u6 u7 u8 3 0 4 = true := by kernel_rfl
theorem c305 (u6 u7 u8 : Sl) : chk u6 u7 u8 3 0 5 = true := by kernel_rfl
theorem c306 (u6 u7 u8 : Sl) : chk u6 u7 u8 3 0 6 = true := by kernel_rfl
theorem d31 (a0 a4 a5 a6 a7 a8 a9 a10 a11 a12 a13 a14 a15 a16 a17 a18 a19 a20 a21 a22 a23 a24 a25 a26 a27 a28 : Sl) : okC (bl_mid2.ev Flaw [a0, .src, .sh (.int 3), .sh (.int 1), a4, a5, a6, a7, a8, a9, a10, a11, a12, a13, a14, a15, a16, a17, a18, a19, a20, a21, a22, a23, a24, a25, a26, a27, a28]) = true := by kernel_rfl
theorem c310 (u6 u7 u8 : Sl) : chk u6 u7 u8 3 1 0 = true := by kernel_rfl
theorem c311 (u6 u7 u8 : Sl) : chk u6 u7 u8 3 1 1 = true := by kernel_rfl
theorem c312 (u6 u7 u8 : Sl) : chk u6 u7 u8 3 1 2 = true := by kernel_rfl
theorem c313 (u6 u7 u8 : Sl) : chk u6 u7 u8 3 1 3 = true := by kernel_rfl
theorem c314 (u6 u7 u8 : Sl) : chk u6 u7 u8 3 1 4 = true := by kernel_rfl
theorem c315 (u6 u7 u8 : Sl) : chk u6 u7 u8 3 1 5 = true := by kernel_rfl
theorem c316 (u6 u7 u8 : Sl) : chk u6 u7 u8 3 1 6 = true := by kernel_rfl
theorem d32 (a0 a4 a5 a6 a7 a8 a9 a10 a11 a12 a13 a14 a15 a16 a17 a18 a19 a20 a21 a22 a23 a24 a25 a26 a27 a28 : Sl) : okC (bl_mid2.ev Flaw [a0, .src, .sh (.int 3), .sh (.int 2), a4, a5, a6, a7, a8, a9, a10, a11, a12, a13, a14, a15, a16, a17, a18, a19, a20, a21, a22, a23, a24, a25, a26, a27, a28]) = true := by kernel_rfl
theorem c320 (u6 u7 u8 : Sl) : chk u6 u7 u8 3 2 0 = true := by kernel_rfl
theorem c321 (u6 u7 u8 : Sl) : chk u6 u7 u8 3 2 1 = true := by kernel_rfl
theorem c322 (u6 u7 u8 : Sl) : chk u6 u7 u8 3 2 2 = true := by kernel_rfl
theorem c323 (u6 u7 u8 : Sl) : chk u6 u7 u8 3 2 3 = true := by kernel_rfl
theorem c324 (u6 u7 u8 : Sl) : chk u6 u7 u8 3 2 4 = true := by kernel_rfl
theorem c325 (u6 u7 u8 : Sl) : chk u6 u7 u8 3 2 5 = true := by kernel_rfl
theorem c326 (u6 u7 u8 : Sl) : chk u6 u7 u8 3 2 6 = true := by kernel_rfl
theorem d33 (a0 a4 a5 a6 a7 a8 a9 a10 a11 a12 a13 a14 a15 a16 a17 a18 a19 a20 a21 a22 a23 a24 a25 a26 a27 a28 : Sl) : okC (bl_mid2.ev Flaw [a0, .src, .sh (.int 3), .sh (.int 3), a4, a5, a6, a7, a8, a9, a10, a11, a12, a13, a14, a15, a16, a17, a18, a19, a20, a21, a22, a23, a24, a25, a26, a27, a28]) = true := by kernel_rfl
theorem c330 (u6 u7 u8 : Sl) : chk u6 u7 u8 3 3 0 = true := by kernel_rfl
theorem c331 (u6 u7 u8 : Sl) : chk u6 u7 u8 3 3 1 = true := by kernel_rfl
theorem c332 (u6 u7 u8 : Sl) : chk u6 u7 u8 3 3 2 = true := by kernel_rfl
theorem c333 (u6 u7 u8 : Sl) : chk u6 u7 u8 3 3 3 = true := by kernel_rfl
theorem c334 (u6 u7 u8 : Sl) : chk u6 u7 u8 3 3 4 = true := by kernel_rfl
theorem c335 (u6 u7 u8 : Sl) : chk u6 u7 u8 3 3 5 = true := by kernel_rfl
theorem c336 (u6 u7 u8 : Sl) : chk u6 u7 u8 3 3 6 = true := by kernel_rfl
/-! ### triples that are too heavy for one theorem -/
def tkS : Nat → Sms → Sms
  | 0, _ => .nil
  | _, .nil => .nil
  | j + 1, .cons s r => .cons s (tkS j r)
def dpS : Nat → Sms → Sms
  | 0, q => q
  | _, .nil => .nil
  | j + 1, .cons s r => dpS j r
def md1 : Sms := tkS 1 bl_mid
def md2 : Sms := tkS 6 (dpS 1 bl_mid)
def md3 : Sms := dpS 7 bl_mid
theorem mid_app : bl_mid = Sms.app md1 (Sms.app md2 md3) := rfl
theorem mid_parts {n k : Int} {e0 e1 e2 : DL.Env} (h1 : md1.ev Flaw e0 = .nx e1) (h2 : md2.ev Flaw e1 = .nx e2) (h3 : okD n k (md3.ev Flaw e2) = true) : okD n k (bl_mid.ev Flaw e0) = true := by
  rw [mid_app, ev_app, h1, Res.thn_nx, ev_app, h2, Res.thn_nx]
  exact h3
def okAp (u6 u7 u8 : Sl) (n k t : Int) (p : Nat) : Res → Bool
  | .nx (.un :: .src :: .sh (.int a) :: .sh (.int b) :: .sh (.int c) :: .sh (.int f) :: .ow (.list L) :: .un :: .un :: r) => ((L.drop (4 * p)).take 4).all (fun d => okB n k t f (bl_law_6b.ev Flaw (mk n k t f u6 (.sh d) u8)))
  | _ => false
def okAs (n k t f0 : Int) : Res → Bool
  | .nx (.un :: .src :: .sh (.int a) :: .sh (.int b) :: .sh (.int c) :: .sh (.int f) :: .ow (.list L) :: .un :: .un :: r) => decide (f = f0) && (decide (a = n) && (decide (b = k) && (decide (c = t) && (decide (r.length = 20) && (r.all isUn && leN L.length 12)))))
  | _ => false
def stA (n k t : Int) : Res := bl_A.ev Flaw (.un :: .src :: .sh (.int n) :: .sh (.int k) :: .sh (.int t) :: .un :: .un :: .un :: .un :: uns)
theorem chk_parts {u6 u7 u8 : Sl} {n k t f0 : Int} (hm : okAs n k t f0 (stA n k t) = true) (h0 : okAp u6 u7 u8 n k t 0 (stA n k t) = true) (h1 : okAp u6 u7 u8 n k t 1 (stA n k t) = true) (h2 : okAp u6 u7 u8 n k t 2 (stA n k t) = true)
    (hd : okD n k (bl_mid.ev Flaw (mk n k t f0 u6 u7 u8)) = true) : chk u6 u7 u8 n k t = true := by
  have h : ∀ p, p < 3 → okAp u6 u7 u8 n k t p (stA n k t) = true := fun p hp => by
    match p, hp with
    | 0, _ => exact h0
    | 1, _ => exact h1
    | 2, _ => exact h2
  clear h0 h1 h2
  show okA u6 u7 u8 n k t (stA n k t) = true
  generalize stA n k t = s at hm h
  unfold okAs at hm
  split at hm
  · rename_i a b c f L r
    simp only [Bool.and_eq_true] at hm
    obtain ⟨e0, e1, e2, e3, e4, e5, e6⟩ := hm
    have ll : L.length ≤ 12 := leN_iff.mp e6
    have ef := of_decide_eq_true e0
    subst ef
    unfold okA
    simp only [Bool.and_eq_true]
    refine ⟨e1, e2, e3, e4, e5, leN_iff.mpr (by omega), ?_, hd⟩
    rw [List.all_eq_true]
    intro d hd'
    obtain ⟨i, hi, rfl⟩ := List.getElem_of_mem hd'
    have this : ((L.drop (4 * (i / 4))).take 4).all (fun d => okB n k t f (bl_law_6b.ev Flaw (mk n k t f u6 (.sh d) u8))) = true := h (i / 4) (by omega)
    rw [List.all_eq_true] at this
    refine this _ (List.mem_iff_getElem.mpr ⟨i % 4, by rw [List.length_take, List.length_drop]; omega, ?_⟩)
    rw [List.getElem_take, List.getElem_drop]
    congr 1
    omega
  · simp at hm
theorem d40 (a0 a4 a5 a6 a7 a8 a9 a10 a11 a12 a13 a14 a15 a16 a17 a18 a19 a20 a21 a22 a23 a24 a25 a26 a27 a28 : Sl) : okC (bl_mid2.ev Flaw [a0, .src, .sh (.int 4), .sh (.int 0), a4, a5, a6, a7, a8, a9, a10, a11, a12, a13, a14, a15, a16, a17, a18, a19, a20, a21, a22, a23, a24, a25, a26, a27, a28]) = true := by kernel_rfl
theorem c400 (u6 u7 u8 : Sl) : chk u6 u7 u8 4 0 0 = true := by kernel_rfl
theorem c401 (u6 u7 u8 : Sl) : chk u6 u7 u8 4 0 1 = true := by kernel_rfl
theorem c402 (u6 u7 u8 : Sl) : chk u6 u7 u8 4 0 2 = true := by kernel_rfl
theorem c403 (u6 u7 u8 : Sl) : chk u6 u7 u8 4 0 3 = true := by kernel_rfl
theorem c404 (u6 u7 u8 : Sl) : chk u6 u7 u8 4 0 4 = true := by kernel_rfl
theorem c405 (u6 u7 u8 : Sl) : chk u6 u7 u8 4 0 5 = true := by kernel_rfl
theorem c406 (u6 u7 u8 : Sl) : chk u6 u7 u8 4 0 6 = true := by kernel_rfl
theorem d41 (a0 a4 a5 a6 a7 a8 a9 a10 a11 a12 a13 a14 a15 a16 a17 a18 a19 a20 a21 a22 a23 a24 a25 a26 a27 a28 : Sl) : okC (bl_mid2.ev Flaw [a0, .src, .sh (.int 4), .sh (.int 1), a4, a5, a6, a7, a8, a9, a10, a11, a12, a13, a14, a15, a16, a17, a18, a19, a20, a21, a22, a23, a24, a25, a26, a27, a28]) = true := by kernel_rfl
theorem c410 (u6 u7 u8 : Sl) : chk u6 u7 u8 4 1 0 = true := by kernel_rfl
theorem c411 (u6 u7 u8 : Sl) : chk u6 u7 u8 4 1 1 = true := by kernel_rfl
theorem c412 (u6 u7 u8 : Sl) : chk u6 u7 u8 4 1 2 = true := by kernel_rfl
theorem c413 (u6 u7 u8 : Sl) : chk u6 u7 u8 4 1 3 = true := by kernel_rfl
theorem c414 (u6 u7 u8 : Sl) : chk u6 u7 u8 4 1 4 = true := by kernel_rfl
theorem c415 (u6 u7 u8 : Sl) : chk u6 u7 u8 4 1 5 = true := by kernel_rfl
theorem c416 (u6 u7 u8 : Sl) : chk u6 u7 u8 4 1 6 = true := by kernel_rfl
theorem d42 (a0 a4 a5 a6 a7 a8 a9 a10 a11 a12 a13 a14 a15 a16 a17 a18 a19 a20 a21 a22 a23 a24 a25 a26 a27 a28 : Sl) : okC (bl_mid2.ev Flaw [a0, .src, .sh (.int 4), .sh (.int 2), a4, a5, a6, a7, a8, a9, a10, a11, a12, a13, a14, a15, a16, a17, a18, a19, a20, a21, a22, a23, a24, a25, a26, a27, a28]) = true := by kernel_rfl
theorem c420 (u6 u7 u8 : Sl) : chk u6 u7 u8 4 2 0 = true := by kernel_rfl
theorem c421 (u6 u7 u8 : Sl) : chk u6 u7 u8 4 2 1 = true := by kernel_rfl
theorem c422 (u6 u7 u8 : Sl) : chk u6 u7 u8 4 2 2 = true := by kernel_rfl
theorem c423 (u6 u7 u8 : Sl) : chk u6 u7 u8 4 2 3 = true := by kernel_rfl
theorem c424 (u6 u7 u8 : Sl) : chk u6 u7 u8 4 2 4 = true := by kernel_rfl
theorem c425 (u6 u7 u8 : Sl) : chk u6 u7 u8 4 2 5 = true := by kernel_rfl
theorem c426 (u6 u7 u8 : Sl) : chk u6 u7 u8 4 2 6 = true := by kernel_rfl
theorem d43 (a0 a4 a5 a6 a7 a8 a9 a10 a11 a12 a13 a14 a15 a16 a17 a18 a19 a20 a21 a22 a23 a24 a25 a26 a27 a28 : Sl) : okC (bl_mid2.ev Flaw [a0, .src, .sh (.int 4), .sh (.int 3), a4, a5, a6, a7, a8, a9, a10, a11, a12, a13, a14, a15, a16, a17, a18, a19, a20, a21, a22, a23, a24, a25, a26, a27, a28]) = true := by kernel_rfl
theorem c430 (u6 u7 u8 : Sl) : chk u6 u7 u8 4 3 0 = true := by kernel_rfl
theorem c431 (u6 u7 u8 : Sl) : chk u6 u7 u8 4 3 1 = true := by kernel_rfl
theorem c432 (u6 u7 u8 : Sl) : chk u6 u7 u8 4 3 2 = true := by kernel_rfl
theorem c433 (u6 u7 u8 : Sl) : chk u6 u7 u8 4 3 3 = true := by kernel_rfl
theorem c434 (u6 u7 u8 : Sl) : chk u6 u7 u8 4 3 4 = true := by kernel_rfl
theorem c435 (u6 u7 u8 : Sl) : chk u6 u7 u8 4 3 5 = true := by kernel_rfl
theorem c436 (u6 u7 u8 : Sl) : chk u6 u7 u8 4 3 6 = true := by kernel_rfl
theorem d44 (a0 a4 a5 a6 a7 a8 a9 a10 a11 a12 a13 a14 a15 a16 a17 a18 a19 a20 a21 a22 a23 a24 a25 a26 a27 a28 : Sl) : okC (bl_mid2.ev Flaw [a0, .src, .sh (.int 4), .sh (.int 4), a4, a5, a6, a7, a8, a9, a10, a11, a12, a13, a14, a15, a16, a17, a18, a19, a20, a21, a22, a23, a24, a25, a26, a27, a28]) = true := by kernel_rfl
theorem c440 (u6 u7 u8 : Sl) : chk u6 u7 u8 4 4 0 = true := by kernel_rfl
theorem c441 (u6 u7 u8 : Sl) : chk u6 u7 u8 4 4 1 = true := by kernel_rfl
theorem c442 (u6 u7 u8 : Sl) : chk u6 u7 u8 4 4 2 = true := by kernel_rfl
theorem c443 (u6 u7 u8 : Sl) : chk u6 u7 u8 4 4 3 = true := by kernel_rfl
theorem c444 (u6 u7 u8 : Sl) : chk u6 u7 u8 4 4 4 = true := by kernel_rfl
theorem c445 (u6 u7 u8 : Sl) : chk u6 u7 u8 4 4 5 = true := by kernel_rfl
theorem c446s : okAs 4 4 6 1 (stA 4 4 6) = true := by kernel_rfl
theorem c446a (u6 u7 u8 : Sl) : okAp u6 u7 u8 4 4 6 0 (stA 4 4 6) = true := by kernel_rfl
theorem c446b (u6 u7 u8 : Sl) : okAp u6 u7 u8 4 4 6 1 (stA 4 4 6) = true := by kernel_rfl
theorem c446c (u6 u7 u8 : Sl) : okAp u6 u7 u8 4 4 6 2 (stA 4 4 6) = true := by kernel_rfl
theorem c446x (u6 u7 u8 : Sl) : md1.ev Flaw (mk 4 4 6 1 u6 u7 u8) = .nx [.un, .src, .sh ((.int 4)), .sh ((.int 4)), .sh ((.int 6)), .sh ((.int 1)), u6, u7, u8, .ow ((.list [(.int 1), (.int 0), (.int 0), (.int 0), (.int 0), (.int 0), (.int 0)])), .ow ((.list [(.int 1), (.int 0), (.int 0), (.int 0), (.int 0), (.int 0), (.int 0)])), .un, .un, .un, .un, .un, .un, .un, .un, .un, .un, .un, .un, .un, .un, .un, .un, .un, .un] := by kernel_rfl
theorem c446y (u6 u7 u8 : Sl) : md2.ev Flaw [.un, .src, .sh ((.int 4)), .sh ((.int 4)), .sh ((.int 6)), .sh ((.int 1)), u6, u7, u8, .ow ((.list [(.int 1), (.int 0), (.int 0), (.int 0), (.int 0), (.int 0), (.int 0)])), .ow ((.list [(.int 1), (.int 0), (.int 0), (.int 0), (.int 0), (.int 0), (.int 0)])), .un, .un, .un, .un, .un, .un, .un, .un, .un, .un, .un, .un, .un, .un, .un, .un, .un, .un] = .nx [.un, .src, .sh ((.int 4)), .sh ((.int 4)), .sh ((.int 6)), .sh ((.int 1)), u6, u7, u8, .ow ((.list [(.int 1), (.int 0), (.int 0), (.int 0), (.int 0), (.int 0), (.int 0)])), .ow ((.list [(.int 1), (.int 0), (.int 0), (.int 0), (.int 0), (.int 0), (.int 0)])), .un, .ow ((.list [(.int 1), (.int 0), (.int 0), (.int 0), (.int 0), (.int 0), (.int 0)])), .ow ((.list [(.int 1), (.int 30), (.int 620), (.int 11160), (.int 188976), (.int 3108960), (.int 50434240)])), .ow ((.list [(.int 1), (.int 30), (.int 620), (.int 11160), (.int 188976), (.int 3108960), (.int 50434240)])), .un, .un, .un, .un, .un, .un, .un, .un, .un, .un, .un, .un, .un, .un] := by kernel_rfl
theorem c446z (u6 u7 u8 : Sl) : okD 4 4 (md3.ev Flaw [.un, .src, .sh ((.int 4)), .sh ((.int 4)), .sh ((.int 6)), .sh ((.int 1)), u6, u7, u8, .ow ((.list [(.int 1), (.int 0), (.int 0), (.int 0), (.int 0), (.int 0), (.int 0)])), .ow ((.list [(.int 1), (.int 0), (.int 0), (.int 0), (.int 0), (.int 0), (.int 0)])), .un, .ow ((.list [(.int 1), (.int 0), (.int 0), (.int 0), (.int 0), (.int 0), (.int 0)])), .ow ((.list [(.int 1), (.int 30), (.int 620), (.int 11160), (.int 188976), (.int 3108960), (.int 50434240)])), .ow ((.list [(.int 1), (.int 30), (.int 620), (.int 11160), (.int 188976), (.int 3108960), (.int 50434240)])), .un, .un, .un, .un, .un, .un, .un, .un, .un, .un, .un, .un, .un, .un]) = true := by kernel_rfl
theorem c446 (u6 u7 u8 : Sl) : chk u6 u7 u8 4 4 6 = true := chk_parts c446s (c446a u6 u7 u8) (c446b u6 u7 u8) (c446c u6 u7 u8) (mid_parts (c446x u6 u7 u8) (c446y u6 u7 u8) (c446z u6 u7 u8))
def il (xs : List Int) : List PyData := xs.map PyData.int
theorem il_len {xs : List Int} : (il xs).length = xs.length := List.length_map ..
theorem il_app {a b : List Int} : il (a ++ b) = il a ++ il b := List.map_append
theorem flats_il : ∀ {xs : List Int}, flats (il xs) = true
  | [] => rfl
  | x :: xs => by
    show flats (PyData.int x :: il xs) = true
    rw [flats_cons, flats_il]
    rfl
theorem sh_il {xs : List Int} : SeqAt.shaped (.list (il xs)) = true := shaped_of (k := 1) (dok_list fun y hy => by obtain ⟨i, _, rfl⟩ := List.mem_map.mp (show y ∈ xs.map PyData.int from hy); exact dok_int) (by decide)
/-- a row more c, behind a number -/
def moreI (c : Int) : Int → List Int → List Int
  | _, [] => []
  | p, x :: r => (x + c * p) :: moreI c (x + c * p) r
/-- a row less c, behind a number -/
def lessI (c : Int) : Int → List Int → List Int
  | _, [] => []
  | p, x :: r => (x - c * p) :: lessI c x r
theorem less_more {c : Int} : ∀ {p : Int} {xs : List Int}, lessI c p (moreI c p xs) = xs
  | _, [] => rfl
  | p, x :: r => by
    unfold moreI lessI
    rw [less_more]
    congr 1
    omega
theorem more_len {c : Int} : ∀ {p : Int} {xs : List Int}, (moreI c p xs).length = xs.length
  | _, [] => rfl
  | p, x :: r => by unfold moreI; rw [List.length_cons, more_len, List.length_cons]
theorem less_len {c : Int} : ∀ {p : Int} {xs : List Int}, (lessI c p xs).length = xs.length
  | _, [] => rfl
  | p, x :: r => by unfold lessI; rw [List.length_cons, less_len, List.length_cons]
theorem more_snoc {c : Int} : ∀ {p : Int} {xs : List Int} {x : Int}, moreI c p (xs ++ [x]) = moreI c p xs ++ [x + c * (moreI c p xs).getLastD p]
  | p, [], x => rfl
  | p, y :: r, x => by
    show (y + c * p) :: moreI c (y + c * p) (r ++ [x]) = _
    rw [more_snoc, show moreI c p (y :: r) = (y + c * p) :: moreI c (y + c * p) r from rfl, List.getLastD_cons]
    rfl
theorem less_get {c : Int} : ∀ {p : Int} {xs : List Int} {i : Nat} (h : i < xs.length), (lessI c p xs)[i]'(by rw [less_len]; exact h) = xs[i] - c * (if i = 0 then p else xs.getD (i - 1) 0)
  | p, x :: r, 0, h => rfl
  | p, x :: r, i + 1, h => by
    have h' : i < r.length := by simpa using h
    show (lessI c x r)[i]'(by rw [less_len]; exact h') = r[i] - c * _
    rw [less_get h', if_neg (Nat.succ_ne_zero i), Nat.add_sub_cancel]
    cases i with
    | zero => rfl
    | succ j => rw [if_neg (Nat.succ_ne_zero j)]; rfl
theorem more_le {c : Int} (hc : c.natAbs ≤ 100) : ∀ {p : Int} {xs : List Int}, (∀ x ∈ xs, x.natAbs ≤ 9) → ∀ y ∈ moreI c p xs, y.natAbs + 1 ≤ (p.natAbs + 1) * 110 ^ xs.length
  | p, [], _, y, hy => by cases hy
  | p, x :: r, hx, y, hy => by
    have h1 := hx x (List.mem_cons_self ..)
    have h2 : (c * p).natAbs ≤ 100 * p.natAbs := by rw [Int.natAbs_mul]; exact Nat.mul_le_mul_right _ hc
    have h3 : (x + c * p).natAbs + 1 ≤ (p.natAbs + 1) * 110 := by
      have := Int.natAbs_add_le x (c * p)
      omega
    have one : 1 ≤ 110 ^ r.length := Nat.one_le_pow _ _ (by decide)
    rw [List.length_cons, Nat.pow_succ]
    rcases List.mem_cons.mp hy with rfl | hy
    · refine Nat.le_trans h3 (Nat.mul_le_mul_left _ ?_)
      omega
    · have := more_le hc (fun z hz => hx z (List.mem_cons_of_mem _ hz)) y hy
      refine Nat.le_trans this ?_
      rw [Nat.mul_comm (110 ^ r.length), ← Nat.mul_assoc]
      exact Nat.mul_le_mul_right _ h3
theorem mul_ok {a b : Int} (ha : a.natAbs < 2 ^ 60) (hb : b.natAbs < 2 ^ 60) : mulOk a b = true := by
  unfold mulOk
  have h1 : a.natAbs.log2 ≤ 60 := by
    by_cases z : a.natAbs = 0
    · rw [z]; decide
    · exact Nat.le_of_lt ((Nat.log2_lt z).mpr ha)
  have h2 : b.natAbs.log2 ≤ 60 := by
    by_cases z : b.natAbs = 0
    · rw [z]; decide
    · exact Nat.le_of_lt ((Nat.log2_lt z).mpr hb)
  rw [decide_eq_true_eq]
  omega
theorem atI_last {ys : List PyData} {z : PyData} : atI (ys ++ [z]) (-1) = some z := by
  unfold atI ixN
  have e : (-1 + (((ys ++ [z]).length : Nat) : Int)).toNat = ys.length := by rw [List.length_append, List.length_singleton]; omega
  have h : -(((ys ++ [z]).length : Nat) : Int) ≤ -1 := by rw [List.length_append, List.length_singleton]; omega
  simp
  rw [if_pos (by omega)]
  show (ys ++ [z])[(-1 + ((ys.length : Int) + 1)).toNat]? = some z
  rw [show (-1 + ((ys.length : Int) + 1)).toNat = ys.length by omega, List.getElem?_append_right (Nat.le_refl _)]
  simp
theorem F_more_row_eq {c : Int} {xs : List Int} (hc : c.natAbs < 2 ^ 60) (hb : ∀ i, ∀ y ∈ moreI c 0 (xs.take i), y.natAbs < 2 ^ 60) (hl : xs.length ≤ 1000) : F_more_row [.sh (.list (il xs)), .sh (.int c)] = .ok (true, .list (il (moreI c 0 xs))) := by
  unfold F_more_row b_more_row
  walk_at "ex"
  unfold b_more_row_t1
  walk_at "ex"
  rw [show il xs = xs.map PyData.int from rfl]
  refine forV_lst (R := fun r => (Res.thn _ r _).val = _) (em := PyData.int) (fun i e => ∃ u3, e = [.sh (.list (xs.map PyData.int)), .sh (.int c), .ow (.list (il (moreI c 0 (xs.take i)))), jk u3]) ⟨.un, rfl⟩ ?_ ?_
  · rintro i e h ⟨u3, rfl⟩
    have e1 : xs.take (i + 1) = xs.take i ++ [xs[i]] := (List.take_append_getElem h).symm
    have e2 := more_snoc (c := c) (p := 0) (xs := xs.take i) (x := xs[i])
    rw [← e1] at e2
    have hm := hb i
    have l1 : (moreI c 0 (xs.take i)).length = i := by rw [more_len, List.length_take]; omega
    generalize moreI c 0 (xs.take i) = acc at e2 hm l1 ⊢
    refine ⟨_, ?_, .sh (.int xs[i]), rfl⟩
    rw [e2]
    unfold b_more_row_1b
    walk_at "ex"
    rw [sh_il]
    walk_at "ex"
    have hl2 : decide ((il acc).length < lim) = true := decide_eq_true (by rw [il_len, l1]; unfold lim; omega)
    rcases List.eq_nil_or_concat acc with rfl | ⟨a, z, rfl⟩
    · rw [show (il []).isEmpty = true from rfl]
      walk_at "ex"
      rw [hl2]
      walk_at "ex"
      rw [show ([] : List Int).getLastD 0 = 0 from rfl, Int.mul_zero]
      rfl
    · simp only [List.concat_eq_append] at hl2 hm e2 l1 ⊢
      rw [show (il (a ++ [z])).isEmpty = false by rw [il_app]; simp [il], show atI (il (a ++ [z])) (-1) = some (.int z) by rw [il_app]; exact atI_last]
      walk_at "ex"
      rw [mul_ok hc (hm z (by simp))]
      walk_at "ex"
      rw [hl2]
      walk_at "ex"
      rw [show (a ++ [z]).getLastD 0 = z by simp, il_app (a := a ++ [z])]
      rfl
  · rintro e ⟨u3, rfl⟩
    rw [List.take_length]
    unfold b_more_row_t2
    walk_at "ex"
theorem prev_get {xs : List Int} {i : Nat} (h : i < xs.length) (h0 : i ≠ 0) : atI (il xs) (((i : Nat) : Int) - 1) = some (.int (xs.getD (i - 1) 0)) := by
  rw [show ((i : Nat) : Int) - 1 = ((i - 1 : Nat) : Int) by omega, atI_nat (by rw [il_len]; omega)]
  unfold il
  rw [List.getElem_map, List.getD_eq_getElem?_getD, List.getElem?_eq_getElem (by omega)]
  rfl
theorem F_less_row_eq {c : Int} {xs : List Int} (hc : c.natAbs < 2 ^ 60) (hb : ∀ y ∈ xs, y.natAbs < 2 ^ 60) (hl : xs.length ≤ 1000) : F_less_row [.sh (.list (il xs)), .sh (.int c)] = .ok (true, .list (il (lessI c 0 xs))) := by
  have ee : enumD (il xs) = xs.zipIdx.map fun p => PyData.tuple [.int (p.2 : Nat), .int p.1] := enumD_map PyData.int xs
  have el : xs.zipIdx.map (fun p => PyData.int (p.1 - c * (if p.2 = 0 then 0 else xs.getD (p.2 - 1) 0))) = (lessI c 0 xs).map PyData.int := by
    refine List.ext_getElem (by rw [List.length_map, List.length_zipIdx, List.length_map, less_len]) fun i h1 h2 => ?_
    have hi : i < xs.length := by simpa using h1
    rw [List.getElem_map, List.getElem_map, List.getElem_zipIdx, less_get hi]
    simp
  unfold F_less_row b_less_row
  walk_at "ex"
  rw [gd_pos (leLim (by rw [ee, List.length_map, List.length_zipIdx]; omega)), ee, filV_map (em := fun p : Int × Nat => PyData.tuple [.int (p.2 : Nat), .int p.1]) fun p => PyData.int (p.1 - c * (if p.2 = 0 then 0 else xs.getD (p.2 - 1) 0))]
  rotate_left
  · rintro ⟨x, i⟩ hp
    have hi : i < xs.length := by have := (List.mem_zipIdx hp).2.1; omega
    walk_at "ex"
    by_cases z : i = 0
    · subst z
      walk_at "ex"
      rw [Int.mul_zero]
    · rw [decide_eq_true (show (0 : Int) < ((i : Nat) : Int) by omega)]
      walk_at "ex"
      rw [prev_get hi z]
      walk_at "ex"
      rw [mul_ok hc (hb _ (by rw [List.getD_eq_getElem?_getD, List.getElem?_eq_getElem (by omega)]; exact List.getElem_mem _))]
      walk_at "ex"
      rw [if_neg z]
  rw [el]
  walk_at "ex"
  rfl
theorem less_snoc {c : Int} : ∀ {p : Int} {xs : List Int} {x : Int}, lessI c p (xs ++ [x]) = lessI c p xs ++ [x - c * xs.getLastD p]
  | p, [], x => rfl
  | p, y :: r, x => by
    show (y - c * p) :: lessI c y (r ++ [x]) = _
    rw [less_snoc, List.getLastD_cons]
    rfl
theorem enum_get {xs : List Int} {i : Nat} {x : PyData} (h : (enumD (il xs))[i]? = some x) : ∃ hi : i < xs.length, x = .tuple [.int (i : Nat), .int xs[i]] := by
  rw [show enumD (il xs) = xs.zipIdx.map fun p => PyData.tuple [.int (p.2 : Nat), .int p.1] from enumD_map PyData.int xs, List.getElem?_map, Option.map_eq_some_iff] at h
  obtain ⟨p, hp, rfl⟩ := h
  obtain ⟨h1, h2⟩ := List.getElem?_eq_some_iff.mp hp
  rw [List.getElem_zipIdx] at h2
  subst h2
  refine ⟨by simpa using h1, ?_⟩
  simp
theorem rok_il {xs : List Int} {B : Nat} (hB : B ≤ 1900) (h : ∀ x ∈ xs, x.natAbs < 2 ^ B) (hl : xs.length ≤ 5) : rok 1 (5 * (B + 2 + 2) + 2) (.list (il xs)) := rok_list (fun x hx => by
  obtain ⟨i, hi, rfl⟩ := List.mem_map.mp (show x ∈ xs.map PyData.int from hx)
  exact rok_int hB (h i hi)) (by rw [il_len]; exact hl)
theorem F_whole_end : F_whole_number [.sh (.int 4), .sh (.int 2), .sh (.int 2)] = .ok (false, .int 10920) := by kernel_rfl
theorem end71 {c : Nat} (hc : c ≤ 100) {xs : List Int} (hx : ∀ x ∈ xs, x.natAbs ≤ 9) (hl : xs.length ≤ 5) {a0 a2 a3 a4 a5 a6 a7 a8 a9 a10 a11 a12 a13 a14 a15 a16 a17 a18 a24 a25 a26 a27 a28 : Sl} :
    (bl_law_t24.ev Flaw [jk a0, .src, jk a2, jk a3, jk a4, jk a5, jk a6, jk a7, jk a8, jk a9, jk a10, jk a11, jk a12, jk a13, jk a14, jk a15, jk a16, jk a17, jk a18, .sh (.list (il xs)), .sh (.int (c : Nat)), .sh (.str (PyData.list (il xs)).shown), .ow (.list (il (moreI c 0 xs))), .ow (.list (il (lessI c 0 xs))), jk a24, jk a25, jk a26, jk a27, jk a28]).wq lawKp := by
  have hm : ∀ i, ∀ y ∈ moreI c 0 (xs.take i), y.natAbs < 2 ^ 60 := fun i y hy => by
    have := more_le (c := c) (by omega) (p := 0) (xs := xs.take i) (fun z hz => hx z (List.mem_of_mem_take hz)) y hy
    have h5 : 110 ^ (xs.take i).length ≤ 110 ^ 5 := Nat.pow_le_pow_right (by decide) (by rw [List.length_take]; omega)
    have : y.natAbs + 1 ≤ 1 * 110 ^ 5 := Nat.le_trans this (Nat.mul_le_mul_left _ h5)
    omega
  have hm2 : ∀ y ∈ moreI c 0 xs, y.natAbs < 2 ^ 60 := fun y hy => hm xs.length y (by rw [List.take_length]; exact hy)
  have hx60 : ∀ y ∈ xs, y.natAbs < 2 ^ 60 := fun y hy => Nat.lt_of_le_of_lt (hx y hy) (by decide)
  have m1 := F_more_row_eq (c := c) (xs := xs) (by omega) hm (by omega)
  have m2 := F_less_row_eq (c := c) (xs := xs) (by omega) hx60 (by omega)
  have m3 := F_less_row_eq (c := c) (xs := moreI c 0 xs) (by omega) hm2 (by rw [more_len]; omega)
  rw [less_more] at m3
  have hls : ∀ y ∈ lessI c 0 xs, y.natAbs < 2 ^ 60 := fun y hy => by
    obtain ⟨i, hi, rfl⟩ := List.getElem_of_mem hy
    rw [less_len] at hi
    rw [less_get hi]
    have h1 := hx xs[i] (List.getElem_mem hi)
    have h2 : (if i = 0 then (0 : Int) else xs.getD (i - 1) 0).natAbs ≤ 9 := by
      split
      · decide
      · rw [List.getD_eq_getElem?_getD, List.getElem?_eq_getElem (by omega)]
        exact hx _ (List.getElem_mem _)
    generalize (if i = 0 then (0 : Int) else xs.getD (i - 1) 0) = w at h2 ⊢
    have h3 : (((c : Nat) : Int) * w).natAbs ≤ 100 * 9 := by rw [Int.natAbs_mul]; exact Nat.mul_le_mul (by omega) h2
    have := Int.natAbs_sub_le xs[i] ((c : Nat) * w)
    omega
  have rx := rok_il (xs := xs) (B := 60) (by decide) hx60 hl
  have rm := rok_il (xs := moreI c 0 xs) (B := 60) (by decide) hm2 (by rw [more_len]; exact hl)
  have rl := rok_il (xs := lessI c 0 xs) (B := 60) (by decide) hls (by rw [less_len]; exact hl)
  have r2 : rok 2 (2 * (5 * (60 + 2 + 2) + 2 + 2) + 2) (.list [.list (il (moreI c 0 xs)), .list (il (lessI c 0 xs))]) := rok_list (fun x hx => by
    simp only [List.mem_cons, List.not_mem_nil, or_false] at hx
    rcases hx with rfl | rfl
    · exact rm
    · exact rl) (by simp)
  have g1 := okRB_of rx (by decide) (by decide)
  have g2 := sh_shown rx
  have g3 := okRB_of r2 (by decide) (by decide)
  have g4 := sh_shown r2
  have s1 : SeqAt.shaped (.list (il xs)) = true := sh_il
  have ee : PyData.eqv (.list (il xs)) (.list (il xs)) = true := by
    rw [show PyData.eqv (.list (il xs)) (.list (il xs)) = decide (xs = xs) from eqv_listM (em := PyData.int) (fun a b => by simp only [PyData.eqv]; exact Bool.beq_eq_decide_eq a b) xs xs]
    exact decide_eq_true rfl
  have fm : flats (il (moreI c 0 xs)) = true := flats_il
  have fl : flats (il (lessI c 0 xs)) = true := flats_il
  have fx : flats (il xs) = true := flats_il
  have w := F_whole_end
  unfold bl_law_t24
  conv => arg 1; arg 1; unfold Flaw
  walk_at "ex"
  rw [m1]
  walk_at "ex"
  iterate 8 (try simp only [m1, m2, m3, g1, g2, g3, g4, s1, ee, fm, fl, fx, w]; walk_at "ex")
  rfl
theorem draw71 {a0 a2 a3 a4 a5 a6 a7 a8 a9 a10 a11 a12 a13 a14 a15 a16 a17 a18 a19 a20 a21 a22 a23 a24 a25 a26 a27 a28 : Sl} :
    (bl_law_t21.ev Flaw [jk a0, .src, jk a2, jk a3, jk a4, jk a5, jk a6, jk a7, jk a8, jk a9, jk a10, jk a11, jk a12, jk a13, jk a14, jk a15, jk a16, jk a17, jk a18, jk a19, jk a20, jk a21, jk a22, jk a23, jk a24, jk a25, jk a26, jk a27, jk a28]).wq lawKp := by
  unfold bl_law_t21
  conv => arg 1; arg 1; unfold Flaw
  walk_at "ex"
  walk_at "down"
  refine pkRQ 6 rfl (by decide) (lt1000 (by decide)) fun len hlen => ?_
  walk_at "ex"
  rw [gd_pos (c := decide (-2 ^ 60 ≤ ((len : Nat) : Int)) && decide (((len : Nat) : Int) ≤ 2 ^ 60)) (by rw [Bool.and_eq_true, decide_eq_true_eq, decide_eq_true_eq]; omega)]
  walk_at "ex"
  rw [gd_pos (leLim (by rw [intsD_length]; omega))]
  walk_at "down"
  refine filQ (fun j acc => ∃ a, acc = il a ∧ a.length = j ∧ ∀ y ∈ a, y.natAbs ≤ 9) ?_ (acc := []) ⟨[], rfl, rfl, by simp⟩ ?_
  · rintro i x acc hx ⟨a, rfl, b1, b2⟩
    walk_at "ex"
    refine pkQ 19 rfl (by decide) (lt1000 (by decide)) fun d hd => ?_
    walk_at "ex"
    refine ⟨a ++ [((d : Nat) : Int) - 9], by rw [il_app]; rfl, by simp [b1], fun y hy => ?_⟩
    rcases List.mem_append.mp hy with hy | hy
    · exact b2 y hy
    · rw [List.mem_singleton.mp hy]; omega
  · rintro L ⟨xs, hxs, xl, xb⟩
    rw [List.nil_append] at hxs
    subst hxs
    rw [intsD_length] at xl
    have fl : flats (il xs) = true := flats_il
    walk_at "ex"
    simp only [fl]
    walk_at "ex"
    walk_at "down"
    first | refine pkQ 101 rfl (by decide) (lt1000 (by decide)) fun c hc => ?_ | refine pkRQ 101 rfl (by decide) (lt1000 (by decide)) fun c hc => ?_
    walk_at "ex"
    have rx := rok_il (xs := xs) (B := 60) (by decide) (fun y hy => by have := xb y hy; exact Nat.lt_of_le_of_lt this (by decide)) (show xs.length ≤ 5 by omega)
    have g1 := okRB_of rx (by decide) (by decide)
    rw [g1]
    walk_at "ex"
    unfold bl_law_t23
    walk_at "ex"
    walk_at "down"
    refine forQ (fun i e => ∃ b0 b2 b3 b4 b5 b6 b7 b8 b9 b10 b11 b12 b13 b14 b15 b16 b17 b18 b24 b25 b26 b27 b28, e = [jk b0, .src, jk b2, jk b3, jk b4, jk b5, jk b6, jk b7, jk b8, jk b9, jk b10, jk b11, jk b12, jk b13, jk b14, jk b15, jk b16, jk b17, jk b18, .sh (.list (il xs)), .sh (.int (c : Nat)), .sh (.str (PyData.list (il xs)).shown), .ow (.list (il (moreI c 0 (xs.take i)))), .ow (.list (il (lessI c 0 (xs.take i)))), jk b24, jk b25, jk b26, jk b27, jk b28]) ⟨_, _, _, _, _, _, _, _, _, _, _, _, _, _, _, _, _, _, _, _, _, _, _, rfl⟩ ?_ ?_
    · rintro i x e hx ⟨b0, b2, b3, b4, b5, b6, b7, b8, b9, b10, b11, b12, b13, b14, b15, b16, b17, b18, b24, b25, b26, b27, b28, rfl⟩
      obtain ⟨hi, rfl⟩ := enum_get hx
      have e1 : xs.take (i + 1) = xs.take i ++ [xs[i]] := (List.take_append_getElem hi).symm
      have e2 := more_snoc (c := c) (p := 0) (xs := xs.take i) (x := xs[i])
      have e3 := less_snoc (c := c) (p := 0) (xs := xs.take i) (x := xs[i])
      rw [← e1] at e2 e3
      rw [e2, e3]
      have l1 : (moreI c 0 (xs.take i)).length = i := by rw [more_len, List.length_take]; omega
      have l2 : (lessI c 0 (xs.take i)).length = i := by rw [less_len, List.length_take]; omega
      have hm : ∀ y ∈ moreI c 0 (xs.take i), y.natAbs < 2 ^ 60 := fun y hy => by
        have := more_le (c := c) (by omega) (p := 0) (xs := xs.take i) (fun z hz => xb z (List.mem_of_mem_take hz)) y hy
        have h5 : 110 ^ (xs.take i).length ≤ 110 ^ 5 := Nat.pow_le_pow_right (by decide) (by rw [List.length_take]; omega)
        have : y.natAbs + 1 ≤ 1 * 110 ^ 5 := Nat.le_trans this (Nat.mul_le_mul_left _ h5)
        omega
      have h1 : decide ((il (moreI c 0 (xs.take i))).length < lim) = true := decide_eq_true (by rw [il_len, l1]; unfold lim; omega)
      have h2 : decide ((il (lessI c 0 (xs.take i))).length < lim) = true := decide_eq_true (by rw [il_len, l2]; unfold lim; omega)
      have ml : moreI c 0 (xs.take i) = [] ∧ i = 0 ∨ i ≠ 0 ∧ atI (il (moreI c 0 (xs.take i))) (((i : Nat) : Int) - 1) = some (.int ((moreI c 0 (xs.take i)).getLastD 0)) ∧ ((moreI c 0 (xs.take i)).getLastD 0).natAbs < 2 ^ 60 := by
        generalize moreI c 0 (xs.take i) = acc at l1 hm
        rcases List.eq_nil_or_concat acc with rfl | ⟨a, z, rfl⟩
        · exact .inl ⟨rfl, l1.symm⟩
        · simp only [List.concat_eq_append] at hm l1 ⊢
          rw [show (a ++ [z]).getLastD 0 = z by simp]
          have la : a.length + 1 = i := by simpa using l1
          refine .inr ⟨by omega, ?_, hm z (by simp)⟩
          rw [show ((i : Nat) : Int) - 1 = ((a.length : Nat) : Int) by omega, il_app, DL.atI_nat (by rw [List.length_append, il_len]; show a.length < a.length + 1; omega)]
          rw [List.getElem_append_right (by rw [il_len]; exact Nat.le_refl _)]
          simp [il]
      have dl : i ≠ 0 → (xs.take i).getLastD 0 = xs.getD (i - 1) 0 := fun h0 => by
        rw [List.getLastD_eq_getLast?, List.getLast?_eq_getElem?, List.length_take, Nat.min_eq_left (Nat.le_of_lt hi), List.getD_eq_getElem?_getD, List.getElem?_take]
        rw [if_pos (by omega)]
      generalize moreI c 0 (xs.take i) = acc at l1 hm h1 ml ⊢
      generalize lessI c 0 (xs.take i) = bcc at l2 h2 ⊢
      unfold bl_law_23b
      walk_at "ex"
      rcases ml with ⟨rfl, rfl⟩ | ⟨h0, m1, m2⟩
      · walk_at "ex"
        rw [h1]
        walk_at "ex"
        rw [h2]
        walk_at "ex"
        rw [show ([] : List Int).getLastD 0 = 0 from rfl, show (xs.take 0).getLastD 0 = 0 from rfl, Int.mul_zero]
        simp only [il_app]
        exact ⟨_, _, _, _, _, _, _, _, _, _, _, _, _, _, _, _, _, _, _, _, _, _, _, rfl⟩
      · rw [decide_eq_true (show (0 : Int) < ((i : Nat) : Int) by omega)]
        walk_at "ex"
        rw [m1]
        walk_at "ex"
        rw [mul_ok (by omega) m2]
        walk_at "ex"
        rw [h1]
        walk_at "ex"
        rw [decide_eq_true (show (0 : Int) < ((i : Nat) : Int) by omega)]
        walk_at "ex"
        rw [prev_get hi h0]
        walk_at "ex"
        rw [mul_ok (by omega) (Nat.lt_of_le_of_lt (xb _ (by rw [List.getD_eq_getElem?_getD, List.getElem?_eq_getElem (by omega)]; exact List.getElem_mem _)) (by decide))]
        walk_at "ex"
        rw [h2]
        walk_at "ex"
        rw [dl h0]
        simp only [il_app]
        exact ⟨_, _, _, _, _, _, _, _, _, _, _, _, _, _, _, _, _, _, _, _, _, _, _, rfl⟩
    · rintro e ⟨b0, b2, b3, b4, b5, b6, b7, b8, b9, b10, b11, b12, b13, b14, b15, b16, b17, b18, b24, b25, b26, b27, b28, rfl⟩
      rw [show xs.take (enumD (il xs)).length = xs by
        rw [show (enumD (il xs)).length = xs.length by unfold enumD; rw [List.length_map, List.length_zipIdx, il_len]]
        exact List.take_length]
      exact end71 (by omega) xb (by omega)
theorem chk_at {n0 k t : Nat} (hn : n0 < 4) (hk : k < n0 + 2) (ht : t < 7) (u6 u7 u8 : Sl) : chk u6 u7 u8 ((1 + n0 : Nat) : Int) (k : Nat) (t : Nat) = true := by
  match n0, hn with
  | 0, _ =>
    match k, hk with
    | 0, _ =>
      match t, ht with
      | 0, _ => exact c100 u6 u7 u8
      | 1, _ => exact c101 u6 u7 u8
      | 2, _ => exact c102 u6 u7 u8
      | 3, _ => exact c103 u6 u7 u8
      | 4, _ => exact c104 u6 u7 u8
      | 5, _ => exact c105 u6 u7 u8
      | 6, _ => exact c106 u6 u7 u8
    | 1, _ =>
      match t, ht with
      | 0, _ => exact c110 u6 u7 u8
      | 1, _ => exact c111 u6 u7 u8
      | 2, _ => exact c112 u6 u7 u8
      | 3, _ => exact c113 u6 u7 u8
      | 4, _ => exact c114 u6 u7 u8
      | 5, _ => exact c115 u6 u7 u8
      | 6, _ => exact c116 u6 u7 u8
  | 1, _ =>
    match k, hk with
    | 0, _ =>
      match t, ht with
      | 0, _ => exact c200 u6 u7 u8
      | 1, _ => exact c201 u6 u7 u8
      | 2, _ => exact c202 u6 u7 u8
      | 3, _ => exact c203 u6 u7 u8
      | 4, _ => exact c204 u6 u7 u8
      | 5, _ => exact c205 u6 u7 u8
      | 6, _ => exact c206 u6 u7 u8
    | 1, _ =>
      match t, ht with
      | 0, _ => exact c210 u6 u7 u8
      | 1, _ => exact c211 u6 u7 u8
      | 2, _ => exact c212 u6 u7 u8
      | 3, _ => exact c213 u6 u7 u8
      | 4, _ => exact c214 u6 u7 u8
      | 5, _ => exact c215 u6 u7 u8
      | 6, _ => exact c216 u6 u7 u8
    | 2, _ =>
      match t, ht with
      | 0, _ => exact c220 u6 u7 u8
      | 1, _ => exact c221 u6 u7 u8
      | 2, _ => exact c222 u6 u7 u8
      | 3, _ => exact c223 u6 u7 u8
      | 4, _ => exact c224 u6 u7 u8
      | 5, _ => exact c225 u6 u7 u8
      | 6, _ => exact c226 u6 u7 u8
  | 2, _ =>
    match k, hk with
    | 0, _ =>
      match t, ht with
      | 0, _ => exact c300 u6 u7 u8
      | 1, _ => exact c301 u6 u7 u8
      | 2, _ => exact c302 u6 u7 u8
      | 3, _ => exact c303 u6 u7 u8
      | 4, _ => exact c304 u6 u7 u8
      | 5, _ => exact c305 u6 u7 u8
      | 6, _ => exact c306 u6 u7 u8
    | 1, _ =>
      match t, ht with
      | 0, _ => exact c310 u6 u7 u8
      | 1, _ => exact c311 u6 u7 u8
      | 2, _ => exact c312 u6 u7 u8
      | 3, _ => exact c313 u6 u7 u8
      | 4, _ => exact c314 u6 u7 u8
      | 5, _ => exact c315 u6 u7 u8
      | 6, _ => exact c316 u6 u7 u8
    | 2, _ =>
      match t, ht with
      | 0, _ => exact c320 u6 u7 u8
      | 1, _ => exact c321 u6 u7 u8
      | 2, _ => exact c322 u6 u7 u8
      | 3, _ => exact c323 u6 u7 u8
      | 4, _ => exact c324 u6 u7 u8
      | 5, _ => exact c325 u6 u7 u8
      | 6, _ => exact c326 u6 u7 u8
    | 3, _ =>
      match t, ht with
      | 0, _ => exact c330 u6 u7 u8
      | 1, _ => exact c331 u6 u7 u8
      | 2, _ => exact c332 u6 u7 u8
      | 3, _ => exact c333 u6 u7 u8
      | 4, _ => exact c334 u6 u7 u8
      | 5, _ => exact c335 u6 u7 u8
      | 6, _ => exact c336 u6 u7 u8
  | 3, _ =>
    match k, hk with
    | 0, _ =>
      match t, ht with
      | 0, _ => exact c400 u6 u7 u8
      | 1, _ => exact c401 u6 u7 u8
      | 2, _ => exact c402 u6 u7 u8
      | 3, _ => exact c403 u6 u7 u8
      | 4, _ => exact c404 u6 u7 u8
      | 5, _ => exact c405 u6 u7 u8
      | 6, _ => exact c406 u6 u7 u8
    | 1, _ =>
      match t, ht with
      | 0, _ => exact c410 u6 u7 u8
      | 1, _ => exact c411 u6 u7 u8
      | 2, _ => exact c412 u6 u7 u8
      | 3, _ => exact c413 u6 u7 u8
      | 4, _ => exact c414 u6 u7 u8
      | 5, _ => exact c415 u6 u7 u8
      | 6, _ => exact c416 u6 u7 u8
    | 2, _ =>
      match t, ht with
      | 0, _ => exact c420 u6 u7 u8
      | 1, _ => exact c421 u6 u7 u8
      | 2, _ => exact c422 u6 u7 u8
      | 3, _ => exact c423 u6 u7 u8
      | 4, _ => exact c424 u6 u7 u8
      | 5, _ => exact c425 u6 u7 u8
      | 6, _ => exact c426 u6 u7 u8
    | 3, _ =>
      match t, ht with
      | 0, _ => exact c430 u6 u7 u8
      | 1, _ => exact c431 u6 u7 u8
      | 2, _ => exact c432 u6 u7 u8
      | 3, _ => exact c433 u6 u7 u8
      | 4, _ => exact c434 u6 u7 u8
      | 5, _ => exact c435 u6 u7 u8
      | 6, _ => exact c436 u6 u7 u8
    | 4, _ =>
      match t, ht with
      | 0, _ => exact c440 u6 u7 u8
      | 1, _ => exact c441 u6 u7 u8
      | 2, _ => exact c442 u6 u7 u8
      | 3, _ => exact c443 u6 u7 u8
      | 4, _ => exact c444 u6 u7 u8
      | 5, _ => exact c445 u6 u7 u8
      | 6, _ => exact c446 u6 u7 u8
theorem isUn_eq {s : Sl} (h : isUn s = true) : s = .un := by cases s <;> first | rfl | cases h
theorem uns_of : ∀ {r : List Sl}, r.length = 20 → r.all isUn = true → r = uns := fun {r} h1 h2 => by
  have : r = List.replicate 20 Sl.un := List.eq_replicate_iff.mpr ⟨h1, fun s hs => isUn_eq (List.all_eq_true.mp h2 s hs)⟩
  rw [this]
  rfl
theorem shp_ok {n k t f : Int} {e : DL.Env} (h : shp n k t f e = true) : ∃ u6 u7 u8, e = mk n k t f u6 u7 u8 := by
  unfold shp at h
  split at h
  · rename_i a b c g u6 u7 u8 r
    simp only [Bool.and_eq_true, decide_eq_true_eq] at h
    obtain ⟨rfl, rfl, rfl, rfl, h1, h2⟩ := h
    rw [uns_of h1 h2]
    exact ⟨u6, u7, u8, rfl⟩
  · cases h
theorem okB_ok {n k t f : Int} {r : Res} (h : okB n k t f r = true) : ∃ u6 u7 u8, r = .nx (mk n k t f u6 u7 u8) := by
  unfold okB at h
  split at h
  · obtain ⟨u6, u7, u8, rfl⟩ := shp_ok h
    exact ⟨u6, u7, u8, rfl⟩
  · cases h
theorem okC_ok {r : Res} (h : okC r = true) : ∃ a0 a2 a3 a4 a5 a6 a7 a8 a9 a10 a11 a12 a13 a14 a15 a16 a17 a18 a19 a20 a21 a22 a23 a24 a25 a26 a27 a28, r = .nx [a0, .src, a2, a3, a4, a5, a6, a7, a8, a9, a10, a11, a12, a13, a14, a15, a16, a17, a18, a19, a20, a21, a22, a23, a24, a25, a26, a27, a28] := by
  unfold okC at h
  split at h
  · rename_i a0 l
    have h := of_decide_eq_true h
    match l, h with
    | [a2, a3, a4, a5, a6, a7, a8, a9, a10, a11, a12, a13, a14, a15, a16, a17, a18, a19, a20, a21, a22, a23, a24, a25, a26, a27, a28], _ => exact ⟨a0, a2, a3, a4, a5, a6, a7, a8, a9, a10, a11, a12, a13, a14, a15, a16, a17, a18, a19, a20, a21, a22, a23, a24, a25, a26, a27, a28, rfl⟩
  · cases h
theorem mid_at {n0 k : Nat} (hn : n0 < 4) (hk : k < n0 + 2) (a0 a4 a5 a6 a7 a8 a9 a10 a11 a12 a13 a14 a15 a16 a17 a18 a19 a20 a21 a22 a23 a24 a25 a26 a27 a28 : Sl) : okC (bl_mid2.ev Flaw [a0, .src, .sh (.int ((1 + n0 : Nat) : Int)), .sh (.int (k : Nat)), a4, a5, a6, a7, a8, a9, a10, a11, a12, a13, a14, a15, a16, a17, a18, a19, a20, a21, a22, a23, a24, a25, a26, a27, a28]) = true := by
  match n0, hn with
  | 0, _ =>
    match k, hk with
    | 0, _ => exact d10 a0 a4 a5 a6 a7 a8 a9 a10 a11 a12 a13 a14 a15 a16 a17 a18 a19 a20 a21 a22 a23 a24 a25 a26 a27 a28
    | 1, _ => exact d11 a0 a4 a5 a6 a7 a8 a9 a10 a11 a12 a13 a14 a15 a16 a17 a18 a19 a20 a21 a22 a23 a24 a25 a26 a27 a28
  | 1, _ =>
    match k, hk with
    | 0, _ => exact d20 a0 a4 a5 a6 a7 a8 a9 a10 a11 a12 a13 a14 a15 a16 a17 a18 a19 a20 a21 a22 a23 a24 a25 a26 a27 a28
    | 1, _ => exact d21 a0 a4 a5 a6 a7 a8 a9 a10 a11 a12 a13 a14 a15 a16 a17 a18 a19 a20 a21 a22 a23 a24 a25 a26 a27 a28
    | 2, _ => exact d22 a0 a4 a5 a6 a7 a8 a9 a10 a11 a12 a13 a14 a15 a16 a17 a18 a19 a20 a21 a22 a23 a24 a25 a26 a27 a28
  | 2, _ =>
    match k, hk with
    | 0, _ => exact d30 a0 a4 a5 a6 a7 a8 a9 a10 a11 a12 a13 a14 a15 a16 a17 a18 a19 a20 a21 a22 a23 a24 a25 a26 a27 a28
    | 1, _ => exact d31 a0 a4 a5 a6 a7 a8 a9 a10 a11 a12 a13 a14 a15 a16 a17 a18 a19 a20 a21 a22 a23 a24 a25 a26 a27 a28
    | 2, _ => exact d32 a0 a4 a5 a6 a7 a8 a9 a10 a11 a12 a13 a14 a15 a16 a17 a18 a19 a20 a21 a22 a23 a24 a25 a26 a27 a28
    | 3, _ => exact d33 a0 a4 a5 a6 a7 a8 a9 a10 a11 a12 a13 a14 a15 a16 a17 a18 a19 a20 a21 a22 a23 a24 a25 a26 a27 a28
  | 3, _ =>
    match k, hk with
    | 0, _ => exact d40 a0 a4 a5 a6 a7 a8 a9 a10 a11 a12 a13 a14 a15 a16 a17 a18 a19 a20 a21 a22 a23 a24 a25 a26 a27 a28
    | 1, _ => exact d41 a0 a4 a5 a6 a7 a8 a9 a10 a11 a12 a13 a14 a15 a16 a17 a18 a19 a20 a21 a22 a23 a24 a25 a26 a27 a28
    | 2, _ => exact d42 a0 a4 a5 a6 a7 a8 a9 a10 a11 a12 a13 a14 a15 a16 a17 a18 a19 a20 a21 a22 a23 a24 a25 a26 a27 a28
    | 3, _ => exact d43 a0 a4 a5 a6 a7 a8 a9 a10 a11 a12 a13 a14 a15 a16 a17 a18 a19 a20 a21 a22 a23 a24 a25 a26 a27 a28
    | 4, _ => exact d44 a0 a4 a5 a6 a7 a8 a9 a10 a11 a12 a13 a14 a15 a16 a17 a18 a19 a20 a21 a22 a23 a24 a25 a26 a27 a28
theorem okD_ok {n k : Int} {r : Res} (h : okD n k r = true) : ∃ a0 a4 a5 a6 a7 a8 a9 a10 a11 a12 a13 a14 a15 a16 a17 a18 a19 a20 a21 a22 a23 a24 a25 a26 a27 a28, r = .nx [a0, .src, .sh (.int n), .sh (.int k), a4, a5, a6, a7, a8, a9, a10, a11, a12, a13, a14, a15, a16, a17, a18, a19, a20, a21, a22, a23, a24, a25, a26, a27, a28] := by
  unfold okD at h
  split at h
  · rename_i a0 a b l
    simp only [Bool.and_eq_true, decide_eq_true_eq] at h
    obtain ⟨rfl, rfl, h⟩ := h
    match l, h with
    | [a4, a5, a6, a7, a8, a9, a10, a11, a12, a13, a14, a15, a16, a17, a18, a19, a20, a21, a22, a23, a24, a25, a26, a27, a28], _ => exact ⟨a0, a4, a5, a6, a7, a8, a9, a10, a11, a12, a13, a14, a15, a16, a17, a18, a19, a20, a21, a22, a23, a24, a25, a26, a27, a28, rfl⟩
  · cases h
theorem rest71 {n k t f : Int} {L : List PyData} (hL : L.length ≤ 1000) (hB : ∀ u6 u8, ∀ d ∈ L, okB n k t f (bl_law_6b.ev Flaw (mk n k t f u6 (.sh d) u8)) = true) (hC : ∀ u6 u7 u8, okD n k (bl_mid.ev Flaw (mk n k t f u6 u7 u8)) = true) (hM : ∀ a0 a4 a5 a6 a7 a8 a9 a10 a11 a12 a13 a14 a15 a16 a17 a18 a19 a20 a21 a22 a23 a24 a25 a26 a27 a28, okC (bl_mid2.ev Flaw [a0, .src, .sh (.int n), .sh (.int k), a4, a5, a6, a7, a8, a9, a10, a11, a12, a13, a14, a15, a16, a17, a18, a19, a20, a21, a22, a23, a24, a25, a26, a27, a28]) = true) :
    (bl_law_t6.ev Flaw (.un :: .src :: .sh (.int n) :: .sh (.int k) :: .sh (.int t) :: .sh (.int f) :: .ow (.list L) :: .un :: .un :: uns)).wq lawKp := by
  have fin : ∀ u6 u7 u8, (bl_law_t7.ev Flaw (mk n k t f u6 u7 u8)).wq lawKp := fun u6 u7 u8 => by
    obtain ⟨a0, a4, a5, a6, a7, a8, a9, a10, a11, a12, a13, a14, a15, a16, a17, a18, a19, a20, a21, a22, a23, a24, a25, a26, a27, a28, e⟩ := okD_ok (hC u6 u7 u8)
    rw [t7_app, ev_app, e, Res.thn_nx]
    obtain ⟨b0, b2, b3, b4, b5, b6, b7, b8, b9, b10, b11, b12, b13, b14, b15, b16, b17, b18, b19, b20, b21, b22, b23, b24, b25, b26, b27, b28, e⟩ := okC_ok (hM a0 a4 a5 a6 a7 a8 a9 a10 a11 a12 a13 a14 a15 a16 a17 a18 a19 a20 a21 a22 a23 a24 a25 a26 a27 a28)
    rw [t17_app, ev_app, e, Res.thn_nx]
    exact draw71
  unfold uns
  unfold bl_law_t6
  conv => arg 1; arg 1; unfold Flaw
  walk_at "ex"
  walk_at "down"
  refine (F_mixed_wq (.inl rfl) hL).no ?_
  rintro _ ⟨ys, hy, rfl⟩
  walk_at "ex"
  refine forQ (fun i e => ∃ u6 u7 u8, e = mk n k t f u6 u7 u8) ?_ ?_ ?_
  · cases flats (DL.cutD ys none (some 4)) with
    | true => exact ⟨.ow (.list L), .un, .un, rfl⟩
    | false => exact ⟨.sh (.list L), .un, .un, rfl⟩
  · rintro i x e hx ⟨u6, u7, u8, rfl⟩
    have hxL : x ∈ L := hy.mem_iff.mp (List.mem_of_mem_drop (List.mem_of_mem_take (List.mem_of_getElem? hx)))
    obtain ⟨v6, v7, v8, eB⟩ := okB_ok (hB u6 u8 x hxL)
    unfold Flaw mk uns at eB
    unfold mk uns
    walk_at "ex"
    rw [eB]
    walk_at "ex"
    exact ⟨v6, v7, v8, rfl⟩
  · rintro e ⟨u6, u7, u8, rfl⟩
    exact fin u6 u7 u8
theorem part2 {n k t : Int} (h : ∀ u6 u7 u8, chk u6 u7 u8 n k t = true) (hM : ∀ a0 a4 a5 a6 a7 a8 a9 a10 a11 a12 a13 a14 a15 a16 a17 a18 a19 a20 a21 a22 a23 a24 a25 a26 a27 a28, okC (bl_mid2.ev Flaw [a0, .src, .sh (.int n), .sh (.int k), a4, a5, a6, a7, a8, a9, a10, a11, a12, a13, a14, a15, a16, a17, a18, a19, a20, a21, a22, a23, a24, a25, a26, a27, a28]) = true) : (bl_law_t2.ev Flaw (.un :: .src :: .sh (.int n) :: .sh (.int k) :: .sh (.int t) :: .un :: .un :: .un :: .un :: uns)).wq lawKp := by
  rw [t2_app, ev_app]
  unfold chk at h
  generalize bl_A.ev Flaw (.un :: .src :: .sh (.int n) :: .sh (.int k) :: .sh (.int t) :: .un :: .un :: .un :: .un :: uns) = r at h ⊢
  have h0 := h .un .un .un
  unfold okA at h0
  split at h0
  · rename_i a b c f L l
    simp only [okA, Bool.and_eq_true, decide_eq_true_eq] at h
    obtain ⟨rfl, rfl, rfl, q1, q2, q3, _⟩ := h .un .un .un
    rw [uns_of q1 q2, Res.thn_nx]
    exact rest71 (leN_iff.mp q3) (fun u6 u8 d hd => List.all_eq_true.mp (h u6 .un u8).2.2.2.2.2.2.1 d hd) (fun u6 u7 u8 => (h u6 u7 u8).2.2.2.2.2.2.2) hM
  · cases h0
theorem law_ok0 : (bl_law.ev Flaw (.un :: .src :: .un :: .un :: .un :: .un :: .un :: .un :: .un :: uns)).wq lawKp := by
  unfold uns
  unfold bl_law
  conv => arg 1; arg 1; unfold Flaw
  walk_at "ex"
  walk_at "down"
  refine pkRQ 4 rfl (by decide) (lt1000 (by decide)) fun n0 hn => ?_
  rw [show (1 : Int) + (n0 : Nat) = ((1 + n0 : Nat) : Int) by omega]
  walk_at "ex"
  walk_at "down"
  refine pkRQ (n0 + 2) (by omega) (by omega) (lt1000 (by omega)) fun k hk => ?_
  walk_at "ex"
  walk_at "down"
  refine pkRQ 7 rfl (by decide) (lt1000 (by decide)) fun t ht => ?_
  walk_at "ex"
  exact part2 (fun u6 u7 u8 => chk_at hn hk ht u6 u7 u8) (mid_at hn hk)
theorem law_ok : (bl_law.ev Flaw [.un, .src, .un, .un, .un, .un, .un, .un, .un, .un, .un, .un, .un, .un, .un, .un, .un, .un, .un, .un, .un, .un, .un, .un, .un, .un, .un, .un, .un]).wq lawKp := law_ok0
end W
set_option Elab.async false
set_option linter.all false
set_option maxRecDepth 100000
set_option maxHeartbeats 0
namespace Law
open PySem PySem.Spec PyProof.Rows L2 DL W
abbrev prg : Program := PySem.Challenge.pw_endlesscodes_k71_whole_numbers_of_codes
abbrev rw : PySem.W.OpenLaw := PySem.Challenge.rw_endlesscodes_k71_whole_numbers_of_codes
def top (i : Nat) : Stmt := prg.main.body.getD i (.Pass ⟨0, 0, 0, 0⟩)
def N__law_source : List Str := ["script", "mixed", "cell", ".0"]
def N__law_pick : List Str := ["source", "many", "left", "mixed"]
def N__law_mixed : List Str := ["source", "things", "rest", ".0", "lap"]
def N_law : List Str := ["script", "source", "n", "k", "total", "flat", "lists", "degrees", "due", "whole", "other", "m", "told", "every", "inside", "prompt", "q", "rule", "row", "drawn", "c", "kept", "more", "less", "number", ".0", "j", "i", "one"]
def ft : List (Str × Nat) := (("row_choices", 507) :: ("flat_number", 508) :: ("degree_lists", 747) :: ("base_number", 720) :: ("codes_with_degrees", 748) :: ("more_row", 509) :: ("less_row", 510) :: ("beginning", 511) :: ("inside_number", 512) :: ("all_number", 513) :: ("whole_number", 514) :: ("prompt_number", 515) :: ("whole_rule", 749) :: ("_law_source", 0) :: ("_law_pick", 1) :: ("_law_mixed", 40) :: ("_law_inside_number", 750) :: ("_law_free_rows", 662) :: ("_law_lists", 663) :: ("_law_base_number", 664) :: ("_law_with_degrees", 665) :: ("_law_all_number", 666) :: ("_law_whole_numbers", 751) :: ("_law_upright", 752) :: ("_law_rule", 753) :: ("law", 754) :: [])
def gl : List (Str × PyData) := []
abbrev s_row_choices : Stmt := top 1
theorem sc_row_choices : FnScope N_row_choices ["n", "k"] (defScope s_row_choices) := ⟨rfl, rfl, rfl, by decide +kernel, rfl, by decide +kernel, by decide +kernel⟩
def d_row_choices : He.DefD := ⟨("row_choices", none), "row_choices", "row_choices", defArgs s_row_choices, defBody s_row_choices, defScope s_row_choices, [], []⟩
theorem tr_row_choices : mapS (trS 40 ⟨N_row_choices, defScope s_row_choices, ft, gl⟩) (defBody s_row_choices) = some b_row_choices := by kernel_rfl
abbrev s_flat_number : Stmt := top 2
theorem sc_flat_number : FnScope N_flat_number ["n", "k"] (defScope s_flat_number) := ⟨rfl, rfl, rfl, by decide +kernel, rfl, by decide +kernel, by decide +kernel⟩
def d_flat_number : He.DefD := ⟨("flat_number", none), "flat_number", "flat_number", defArgs s_flat_number, defBody s_flat_number, defScope s_flat_number, [], []⟩
theorem tr_flat_number : mapS (trS 40 ⟨N_flat_number, defScope s_flat_number, ft, gl⟩) (defBody s_flat_number) = some b_flat_number := by kernel_rfl
abbrev s_degree_lists : Stmt := top 3
theorem sc_degree_lists : FnScope N_degree_lists ["k", "total"] (defScope s_degree_lists) := ⟨rfl, rfl, rfl, by decide +kernel, rfl, by decide +kernel, by decide +kernel⟩
def d_degree_lists : He.DefD := ⟨("degree_lists", none), "degree_lists", "degree_lists", defArgs s_degree_lists, defBody s_degree_lists, defScope s_degree_lists, [], []⟩
theorem tr_degree_lists : mapS (trS 40 ⟨N_degree_lists, defScope s_degree_lists, ft, gl⟩) (defBody s_degree_lists) = some b_degree_lists := by kernel_rfl
abbrev s_base_number : Stmt := top 4
theorem sc_base_number : FnScope N_base_number ["degrees"] (defScope s_base_number) := ⟨rfl, rfl, rfl, by decide +kernel, rfl, by decide +kernel, by decide +kernel⟩
def d_base_number : He.DefD := ⟨("base_number", none), "base_number", "base_number", defArgs s_base_number, defBody s_base_number, defScope s_base_number, [], []⟩
theorem tr_base_number : mapS (trS 40 ⟨N_base_number, defScope s_base_number, ft, gl⟩) (defBody s_base_number) = some b_base_number := by kernel_rfl
abbrev s_codes_with_degrees : Stmt := top 5
theorem sc_codes_with_degrees : FnScope N_codes_with_degrees ["n", "degrees"] (defScope s_codes_with_degrees) := ⟨rfl, rfl, rfl, by decide +kernel, rfl, by decide +kernel, by decide +kernel⟩
def d_codes_with_degrees : He.DefD := ⟨("codes_with_degrees", none), "codes_with_degrees", "codes_with_degrees", defArgs s_codes_with_degrees, defBody s_codes_with_degrees, defScope s_codes_with_degrees, [], []⟩
theorem tr_codes_with_degrees : mapS (trS 40 ⟨N_codes_with_degrees, defScope s_codes_with_degrees, ft, gl⟩) (defBody s_codes_with_degrees) = some b_codes_with_degrees := by kernel_rfl
abbrev s_more_row : Stmt := top 6
theorem sc_more_row : FnScope N_more_row ["row", "c"] (defScope s_more_row) := ⟨rfl, rfl, rfl, by decide +kernel, rfl, by decide +kernel, by decide +kernel⟩
def d_more_row : He.DefD := ⟨("more_row", none), "more_row", "more_row", defArgs s_more_row, defBody s_more_row, defScope s_more_row, [], []⟩
theorem tr_more_row : mapS (trS 40 ⟨N_more_row, defScope s_more_row, ft, gl⟩) (defBody s_more_row) = some b_more_row := by kernel_rfl
abbrev s_less_row : Stmt := top 7
theorem sc_less_row : FnScope N_less_row ["row", "c"] (defScope s_less_row) := ⟨rfl, rfl, rfl, by decide +kernel, rfl, by decide +kernel, by decide +kernel⟩
def d_less_row : He.DefD := ⟨("less_row", none), "less_row", "less_row", defArgs s_less_row, defBody s_less_row, defScope s_less_row, [], []⟩
theorem tr_less_row : mapS (trS 40 ⟨N_less_row, defScope s_less_row, ft, gl⟩) (defBody s_less_row) = some b_less_row := by kernel_rfl
abbrev s_beginning : Stmt := top 8
theorem sc_beginning : FnScope N_beginning ["most"] (defScope s_beginning) := ⟨rfl, rfl, rfl, by decide +kernel, rfl, by decide +kernel, by decide +kernel⟩
def d_beginning : He.DefD := ⟨("beginning", none), "beginning", "beginning", defArgs s_beginning, defBody s_beginning, defScope s_beginning, [], []⟩
theorem tr_beginning : mapS (trS 40 ⟨N_beginning, defScope s_beginning, ft, gl⟩) (defBody s_beginning) = some b_beginning := by kernel_rfl
abbrev s_inside_number : Stmt := top 9
theorem sc_inside_number : FnScope N_inside_number ["k", "m"] (defScope s_inside_number) := ⟨rfl, rfl, rfl, by decide +kernel, rfl, by decide +kernel, by decide +kernel⟩
def d_inside_number : He.DefD := ⟨("inside_number", none), "inside_number", "inside_number", defArgs s_inside_number, defBody s_inside_number, defScope s_inside_number, [], []⟩
theorem tr_inside_number : mapS (trS 40 ⟨N_inside_number, defScope s_inside_number, ft, gl⟩) (defBody s_inside_number) = some b_inside_number := by kernel_rfl
abbrev s_all_number : Stmt := top 10
theorem sc_all_number : FnScope N_all_number ["n", "k", "total"] (defScope s_all_number) := ⟨rfl, rfl, rfl, by decide +kernel, rfl, by decide +kernel, by decide +kernel⟩
def d_all_number : He.DefD := ⟨("all_number", none), "all_number", "all_number", defArgs s_all_number, defBody s_all_number, defScope s_all_number, [], []⟩
theorem tr_all_number : mapS (trS 40 ⟨N_all_number, defScope s_all_number, ft, gl⟩) (defBody s_all_number) = some b_all_number := by kernel_rfl
abbrev s_whole_number : Stmt := top 11
theorem sc_whole_number : FnScope N_whole_number ["n", "k", "total"] (defScope s_whole_number) := ⟨rfl, rfl, rfl, by decide +kernel, rfl, by decide +kernel, by decide +kernel⟩
def d_whole_number : He.DefD := ⟨("whole_number", none), "whole_number", "whole_number", defArgs s_whole_number, defBody s_whole_number, defScope s_whole_number, [], []⟩
theorem tr_whole_number : mapS (trS 40 ⟨N_whole_number, defScope s_whole_number, ft, gl⟩) (defBody s_whole_number) = some b_whole_number := by kernel_rfl
abbrev s_prompt_number : Stmt := top 12
theorem sc_prompt_number : FnScope N_prompt_number ["n", "k", "total"] (defScope s_prompt_number) := ⟨rfl, rfl, rfl, by decide +kernel, rfl, by decide +kernel, by decide +kernel⟩
def d_prompt_number : He.DefD := ⟨("prompt_number", none), "prompt_number", "prompt_number", defArgs s_prompt_number, defBody s_prompt_number, defScope s_prompt_number, [], []⟩
theorem tr_prompt_number : mapS (trS 40 ⟨N_prompt_number, defScope s_prompt_number, ft, gl⟩) (defBody s_prompt_number) = some b_prompt_number := by kernel_rfl
abbrev s_whole_rule : Stmt := top 13
theorem sc_whole_rule : FnScope N_whole_rule ["n", "k"] (defScope s_whole_rule) := ⟨rfl, rfl, rfl, by decide +kernel, rfl, by decide +kernel, by decide +kernel⟩
def d_whole_rule : He.DefD := ⟨("whole_rule", none), "whole_rule", "whole_rule", defArgs s_whole_rule, defBody s_whole_rule, defScope s_whole_rule, [], []⟩
theorem tr_whole_rule : mapS (trS 40 ⟨N_whole_rule, defScope s_whole_rule, ft, gl⟩) (defBody s_whole_rule) = some b_whole_rule := by kernel_rfl
abbrev s__law_source : Stmt := top 15
theorem sc__law_source : FnScope N__law_source ["script"] (defScope s__law_source) := ⟨rfl, rfl, rfl, by decide +kernel, rfl, by decide +kernel, by decide +kernel⟩
def d__law_source : He.DefD := ⟨("_law_source", none), "_law_source", "_law_source", defArgs s__law_source, defBody s__law_source, defScope s__law_source, [], []⟩
abbrev s__law_pick : Stmt := top 16
theorem sc__law_pick : FnScope N__law_pick ["source", "many"] (defScope s__law_pick) := ⟨rfl, rfl, rfl, by decide +kernel, rfl, by decide +kernel, by decide +kernel⟩
def d__law_pick : He.DefD := ⟨("_law_pick", none), "_law_pick", "_law_pick", defArgs s__law_pick, defBody s__law_pick, defScope s__law_pick, [], []⟩
abbrev s__law_mixed : Stmt := top 17
theorem sc__law_mixed : FnScope N__law_mixed ["source", "things"] (defScope s__law_mixed) := ⟨rfl, rfl, rfl, by decide +kernel, rfl, by decide +kernel, by decide +kernel⟩
def d__law_mixed : He.DefD := ⟨("_law_mixed", none), "_law_mixed", "_law_mixed", defArgs s__law_mixed, defBody s__law_mixed, defScope s__law_mixed, [], []⟩
abbrev s__law_inside_number : Stmt := top 18
theorem sc__law_inside_number : FnScope N__law_inside_number ["k", "m"] (defScope s__law_inside_number) := ⟨rfl, rfl, rfl, by decide +kernel, rfl, by decide +kernel, by decide +kernel⟩
def d__law_inside_number : He.DefD := ⟨("_law_inside_number", none), "_law_inside_number", "_law_inside_number", defArgs s__law_inside_number, defBody s__law_inside_number, defScope s__law_inside_number, [], []⟩
theorem tr__law_inside_number : mapS (trS 40 ⟨N__law_inside_number, defScope s__law_inside_number, ft, gl⟩) (defBody s__law_inside_number) = some b__law_inside_number := by kernel_rfl
abbrev s__law_free_rows : Stmt := top 19
theorem sc__law_free_rows : FnScope N__law_free_rows ["n", "k"] (defScope s__law_free_rows) := ⟨rfl, rfl, rfl, by decide +kernel, rfl, by decide +kernel, by decide +kernel⟩
def d__law_free_rows : He.DefD := ⟨("_law_free_rows", none), "_law_free_rows", "_law_free_rows", defArgs s__law_free_rows, defBody s__law_free_rows, defScope s__law_free_rows, [], []⟩
theorem tr__law_free_rows : mapS (trS 40 ⟨N__law_free_rows, defScope s__law_free_rows, ft, gl⟩) (defBody s__law_free_rows) = some b__law_free_rows := by kernel_rfl
abbrev s__law_lists : Stmt := top 20
theorem sc__law_lists : FnScope N__law_lists ["k", "total", "least"] (defScope s__law_lists) := ⟨rfl, rfl, rfl, by decide +kernel, rfl, by decide +kernel, by decide +kernel⟩
def d__law_lists : He.DefD := ⟨("_law_lists", none), "_law_lists", "_law_lists", defArgs s__law_lists, defBody s__law_lists, defScope s__law_lists, [], []⟩
theorem tr__law_lists : mapS (trS 40 ⟨N__law_lists, defScope s__law_lists, ft, gl⟩) (defBody s__law_lists) = some b__law_lists := by kernel_rfl
abbrev s__law_base_number : Stmt := top 21
theorem sc__law_base_number : FnScope N__law_base_number ["degrees"] (defScope s__law_base_number) := ⟨rfl, rfl, rfl, by decide +kernel, rfl, by decide +kernel, by decide +kernel⟩
def d__law_base_number : He.DefD := ⟨("_law_base_number", none), "_law_base_number", "_law_base_number", defArgs s__law_base_number, defBody s__law_base_number, defScope s__law_base_number, [], []⟩
theorem tr__law_base_number : mapS (trS 40 ⟨N__law_base_number, defScope s__law_base_number, ft, gl⟩) (defBody s__law_base_number) = some b__law_base_number := by kernel_rfl
abbrev s__law_with_degrees : Stmt := top 22
theorem sc__law_with_degrees : FnScope N__law_with_degrees ["n", "degrees"] (defScope s__law_with_degrees) := ⟨rfl, rfl, rfl, by decide +kernel, rfl, by decide +kernel, by decide +kernel⟩
def d__law_with_degrees : He.DefD := ⟨("_law_with_degrees", none), "_law_with_degrees", "_law_with_degrees", defArgs s__law_with_degrees, defBody s__law_with_degrees, defScope s__law_with_degrees, [], []⟩
theorem tr__law_with_degrees : mapS (trS 40 ⟨N__law_with_degrees, defScope s__law_with_degrees, ft, gl⟩) (defBody s__law_with_degrees) = some b__law_with_degrees := by kernel_rfl
abbrev s__law_all_number : Stmt := top 23
theorem sc__law_all_number : FnScope N__law_all_number ["n", "k", "total"] (defScope s__law_all_number) := ⟨rfl, rfl, rfl, by decide +kernel, rfl, by decide +kernel, by decide +kernel⟩
def d__law_all_number : He.DefD := ⟨("_law_all_number", none), "_law_all_number", "_law_all_number", defArgs s__law_all_number, defBody s__law_all_number, defScope s__law_all_number, [], []⟩
theorem tr__law_all_number : mapS (trS 40 ⟨N__law_all_number, defScope s__law_all_number, ft, gl⟩) (defBody s__law_all_number) = some b__law_all_number := by kernel_rfl
abbrev s__law_whole_numbers : Stmt := top 24
theorem sc__law_whole_numbers : FnScope N__law_whole_numbers ["n", "k", "most"] (defScope s__law_whole_numbers) := ⟨rfl, rfl, rfl, by decide +kernel, rfl, by decide +kernel, by decide +kernel⟩
def d__law_whole_numbers : He.DefD := ⟨("_law_whole_numbers", none), "_law_whole_numbers", "_law_whole_numbers", defArgs s__law_whole_numbers, defBody s__law_whole_numbers, defScope s__law_whole_numbers, [], []⟩
theorem tr__law_whole_numbers : mapS (trS 40 ⟨N__law_whole_numbers, defScope s__law_whole_numbers, ft, gl⟩) (defBody s__law_whole_numbers) = some b__law_whole_numbers := by kernel_rfl
abbrev s__law_upright : Stmt := top 25
theorem sc__law_upright : FnScope N__law_upright ["k", "m"] (defScope s__law_upright) := ⟨rfl, rfl, rfl, by decide +kernel, rfl, by decide +kernel, by decide +kernel⟩
def d__law_upright : He.DefD := ⟨("_law_upright", none), "_law_upright", "_law_upright", defArgs s__law_upright, defBody s__law_upright, defScope s__law_upright, [], []⟩
theorem tr__law_upright : mapS (trS 40 ⟨N__law_upright, defScope s__law_upright, ft, gl⟩) (defBody s__law_upright) = some b__law_upright := by kernel_rfl
abbrev s__law_rule : Stmt := top 26
theorem sc__law_rule : FnScope N__law_rule ["n", "q"] (defScope s__law_rule) := ⟨rfl, rfl, rfl, by decide +kernel, rfl, by decide +kernel, by decide +kernel⟩
def d__law_rule : He.DefD := ⟨("_law_rule", none), "_law_rule", "_law_rule", defArgs s__law_rule, defBody s__law_rule, defScope s__law_rule, [], []⟩
theorem tr__law_rule : mapS (trS 40 ⟨N__law_rule, defScope s__law_rule, ft, gl⟩) (defBody s__law_rule) = some b__law_rule := by kernel_rfl
abbrev s_law : Stmt := top 27
theorem sc_law : FnScope N_law ["script"] (defScope s_law) := ⟨rfl, rfl, rfl, by decide +kernel, rfl, by decide +kernel, by decide +kernel⟩
def d_law : He.DefD := ⟨("law", none), "law", "law", defArgs s_law, defBody s_law, defScope s_law, [], []⟩
def fn : List He.DefD := (d_row_choices :: d_flat_number :: d_degree_lists :: d_base_number :: d_codes_with_degrees :: d_more_row :: d_less_row :: d_beginning :: d_inside_number :: d_all_number :: d_whole_number :: d_prompt_number :: d_whole_rule :: d__law_source :: d__law_pick :: d__law_mixed :: d__law_inside_number :: d__law_free_rows :: d__law_lists :: d__law_base_number :: d__law_with_degrees :: d__law_all_number :: d__law_whole_numbers :: d__law_upright :: d__law_rule :: d_law :: [])
def fa : List He.Fa := (.glo "row_choices" :: .glo "flat_number" :: .glo "degree_lists" :: .glo "base_number" :: .glo "codes_with_degrees" :: .glo "more_row" :: .glo "less_row" :: .glo "beginning" :: .glo "inside_number" :: .glo "all_number" :: .glo "whole_number" :: .glo "prompt_number" :: .glo "whole_rule" :: .glo "_law_source" :: .glo "_law_pick" :: .glo "_law_mixed" :: .glo "_law_inside_number" :: .glo "_law_free_rows" :: .glo "_law_lists" :: .glo "_law_base_number" :: .glo "_law_with_degrees" :: .glo "_law_all_number" :: .glo "_law_whole_numbers" :: .glo "_law_upright" :: .glo "_law_rule" :: .glo "law" :: []) ++ blts.map He.Fa.free
theorem at_row_choices {K : PySem.W.Frag} {h : Heap} {mg : Str → Option Value} (X : K.In h) (G : h.Ns mainGlobals mg) (c : He.SaysD fa fn K) : ∃ f fd, DefAt K mg d_row_choices f fd ∧ L2.Binds K fd ["n", "k"] [] := by
  obtain ⟨fd, F⟩ := c.def_ 0 (d := d_row_choices) rfl
  exact ⟨_, fd, ⟨He.glo_ok X G (c.fact 0 (f := .glo "row_choices") rfl), F⟩, F.bindsN fun _ _ _ _ _ _ us hl => match us, hl with | [_, _], _ => rfl⟩
theorem at_flat_number {K : PySem.W.Frag} {h : Heap} {mg : Str → Option Value} (X : K.In h) (G : h.Ns mainGlobals mg) (c : He.SaysD fa fn K) : ∃ f fd, DefAt K mg d_flat_number f fd ∧ L2.Binds K fd ["n", "k"] [] := by
  obtain ⟨fd, F⟩ := c.def_ 1 (d := d_flat_number) rfl
  exact ⟨_, fd, ⟨He.glo_ok X G (c.fact 1 (f := .glo "flat_number") rfl), F⟩, F.bindsN fun _ _ _ _ _ _ us hl => match us, hl with | [_, _], _ => rfl⟩
theorem at_degree_lists {K : PySem.W.Frag} {h : Heap} {mg : Str → Option Value} (X : K.In h) (G : h.Ns mainGlobals mg) (c : He.SaysD fa fn K) : ∃ f fd, DefAt K mg d_degree_lists f fd ∧ L2.Binds K fd ["k", "total"] [] := by
  obtain ⟨fd, F⟩ := c.def_ 2 (d := d_degree_lists) rfl
  exact ⟨_, fd, ⟨He.glo_ok X G (c.fact 2 (f := .glo "degree_lists") rfl), F⟩, F.bindsN fun _ _ _ _ _ _ us hl => match us, hl with | [_, _], _ => rfl⟩
theorem at_base_number {K : PySem.W.Frag} {h : Heap} {mg : Str → Option Value} (X : K.In h) (G : h.Ns mainGlobals mg) (c : He.SaysD fa fn K) : ∃ f fd, DefAt K mg d_base_number f fd ∧ L2.Binds K fd ["degrees"] [] := by
  obtain ⟨fd, F⟩ := c.def_ 3 (d := d_base_number) rfl
  exact ⟨_, fd, ⟨He.glo_ok X G (c.fact 3 (f := .glo "base_number") rfl), F⟩, F.bindsN fun _ _ _ _ _ _ us hl => match us, hl with | [_], _ => rfl⟩
theorem at_codes_with_degrees {K : PySem.W.Frag} {h : Heap} {mg : Str → Option Value} (X : K.In h) (G : h.Ns mainGlobals mg) (c : He.SaysD fa fn K) : ∃ f fd, DefAt K mg d_codes_with_degrees f fd ∧ L2.Binds K fd ["n", "degrees"] [] := by
  obtain ⟨fd, F⟩ := c.def_ 4 (d := d_codes_with_degrees) rfl
  exact ⟨_, fd, ⟨He.glo_ok X G (c.fact 4 (f := .glo "codes_with_degrees") rfl), F⟩, F.bindsN fun _ _ _ _ _ _ us hl => match us, hl with | [_, _], _ => rfl⟩
theorem at_more_row {K : PySem.W.Frag} {h : Heap} {mg : Str → Option Value} (X : K.In h) (G : h.Ns mainGlobals mg) (c : He.SaysD fa fn K) : ∃ f fd, DefAt K mg d_more_row f fd ∧ L2.Binds K fd ["row", "c"] [] := by
  obtain ⟨fd, F⟩ := c.def_ 5 (d := d_more_row) rfl
  exact ⟨_, fd, ⟨He.glo_ok X G (c.fact 5 (f := .glo "more_row") rfl), F⟩, F.bindsN fun _ _ _ _ _ _ us hl => match us, hl with | [_, _], _ => rfl⟩
theorem at_less_row {K : PySem.W.Frag} {h : Heap} {mg : Str → Option Value} (X : K.In h) (G : h.Ns mainGlobals mg) (c : He.SaysD fa fn K) : ∃ f fd, DefAt K mg d_less_row f fd ∧ L2.Binds K fd ["row", "c"] [] := by
  obtain ⟨fd, F⟩ := c.def_ 6 (d := d_less_row) rfl
  exact ⟨_, fd, ⟨He.glo_ok X G (c.fact 6 (f := .glo "less_row") rfl), F⟩, F.bindsN fun _ _ _ _ _ _ us hl => match us, hl with | [_, _], _ => rfl⟩
theorem at_beginning {K : PySem.W.Frag} {h : Heap} {mg : Str → Option Value} (X : K.In h) (G : h.Ns mainGlobals mg) (c : He.SaysD fa fn K) : ∃ f fd, DefAt K mg d_beginning f fd ∧ L2.Binds K fd ["most"] [] := by
  obtain ⟨fd, F⟩ := c.def_ 7 (d := d_beginning) rfl
  exact ⟨_, fd, ⟨He.glo_ok X G (c.fact 7 (f := .glo "beginning") rfl), F⟩, F.bindsN fun _ _ _ _ _ _ us hl => match us, hl with | [_], _ => rfl⟩
theorem at_inside_number {K : PySem.W.Frag} {h : Heap} {mg : Str → Option Value} (X : K.In h) (G : h.Ns mainGlobals mg) (c : He.SaysD fa fn K) : ∃ f fd, DefAt K mg d_inside_number f fd ∧ L2.Binds K fd ["k", "m"] [] := by
  obtain ⟨fd, F⟩ := c.def_ 8 (d := d_inside_number) rfl
  exact ⟨_, fd, ⟨He.glo_ok X G (c.fact 8 (f := .glo "inside_number") rfl), F⟩, F.bindsN fun _ _ _ _ _ _ us hl => match us, hl with | [_, _], _ => rfl⟩
theorem at_all_number {K : PySem.W.Frag} {h : Heap} {mg : Str → Option Value} (X : K.In h) (G : h.Ns mainGlobals mg) (c : He.SaysD fa fn K) : ∃ f fd, DefAt K mg d_all_number f fd ∧ L2.Binds K fd ["n", "k", "total"] [] := by
  obtain ⟨fd, F⟩ := c.def_ 9 (d := d_all_number) rfl
  exact ⟨_, fd, ⟨He.glo_ok X G (c.fact 9 (f := .glo "all_number") rfl), F⟩, F.bindsN fun _ _ _ _ _ _ us hl => match us, hl with | [_, _, _], _ => rfl⟩
theorem at_whole_number {K : PySem.W.Frag} {h : Heap} {mg : Str → Option Value} (X : K.In h) (G : h.Ns mainGlobals mg) (c : He.SaysD fa fn K) : ∃ f fd, DefAt K mg d_whole_number f fd ∧ L2.Binds K fd ["n", "k", "total"] [] := by
  obtain ⟨fd, F⟩ := c.def_ 10 (d := d_whole_number) rfl
  exact ⟨_, fd, ⟨He.glo_ok X G (c.fact 10 (f := .glo "whole_number") rfl), F⟩, F.bindsN fun _ _ _ _ _ _ us hl => match us, hl with | [_, _, _], _ => rfl⟩
theorem at_prompt_number {K : PySem.W.Frag} {h : Heap} {mg : Str → Option Value} (X : K.In h) (G : h.Ns mainGlobals mg) (c : He.SaysD fa fn K) : ∃ f fd, DefAt K mg d_prompt_number f fd ∧ L2.Binds K fd ["n", "k", "total"] [] := by
  obtain ⟨fd, F⟩ := c.def_ 11 (d := d_prompt_number) rfl
  exact ⟨_, fd, ⟨He.glo_ok X G (c.fact 11 (f := .glo "prompt_number") rfl), F⟩, F.bindsN fun _ _ _ _ _ _ us hl => match us, hl with | [_, _, _], _ => rfl⟩
theorem at_whole_rule {K : PySem.W.Frag} {h : Heap} {mg : Str → Option Value} (X : K.In h) (G : h.Ns mainGlobals mg) (c : He.SaysD fa fn K) : ∃ f fd, DefAt K mg d_whole_rule f fd ∧ L2.Binds K fd ["n", "k"] [] := by
  obtain ⟨fd, F⟩ := c.def_ 12 (d := d_whole_rule) rfl
  exact ⟨_, fd, ⟨He.glo_ok X G (c.fact 12 (f := .glo "whole_rule") rfl), F⟩, F.bindsN fun _ _ _ _ _ _ us hl => match us, hl with | [_, _], _ => rfl⟩
theorem at__law_source {K : PySem.W.Frag} {h : Heap} {mg : Str → Option Value} (X : K.In h) (G : h.Ns mainGlobals mg) (c : He.SaysD fa fn K) : ∃ f fd, DefAt K mg d__law_source f fd ∧ L2.Binds K fd ["script"] [] := by
  obtain ⟨fd, F⟩ := c.def_ 13 (d := d__law_source) rfl
  exact ⟨_, fd, ⟨He.glo_ok X G (c.fact 13 (f := .glo "_law_source") rfl), F⟩, F.bindsN fun _ _ _ _ _ _ us hl => match us, hl with | [_], _ => rfl⟩
theorem at__law_pick {K : PySem.W.Frag} {h : Heap} {mg : Str → Option Value} (X : K.In h) (G : h.Ns mainGlobals mg) (c : He.SaysD fa fn K) : ∃ f fd, DefAt K mg d__law_pick f fd ∧ L2.Binds K fd ["source", "many"] [] := by
  obtain ⟨fd, F⟩ := c.def_ 14 (d := d__law_pick) rfl
  exact ⟨_, fd, ⟨He.glo_ok X G (c.fact 14 (f := .glo "_law_pick") rfl), F⟩, F.bindsN fun _ _ _ _ _ _ us hl => match us, hl with | [_, _], _ => rfl⟩
theorem at__law_mixed {K : PySem.W.Frag} {h : Heap} {mg : Str → Option Value} (X : K.In h) (G : h.Ns mainGlobals mg) (c : He.SaysD fa fn K) : ∃ f fd, DefAt K mg d__law_mixed f fd ∧ L2.Binds K fd ["source", "things"] [] := by
  obtain ⟨fd, F⟩ := c.def_ 15 (d := d__law_mixed) rfl
  exact ⟨_, fd, ⟨He.glo_ok X G (c.fact 15 (f := .glo "_law_mixed") rfl), F⟩, F.bindsN fun _ _ _ _ _ _ us hl => match us, hl with | [_, _], _ => rfl⟩
theorem at__law_inside_number {K : PySem.W.Frag} {h : Heap} {mg : Str → Option Value} (X : K.In h) (G : h.Ns mainGlobals mg) (c : He.SaysD fa fn K) : ∃ f fd, DefAt K mg d__law_inside_number f fd ∧ L2.Binds K fd ["k", "m"] [] := by
  obtain ⟨fd, F⟩ := c.def_ 16 (d := d__law_inside_number) rfl
  exact ⟨_, fd, ⟨He.glo_ok X G (c.fact 16 (f := .glo "_law_inside_number") rfl), F⟩, F.bindsN fun _ _ _ _ _ _ us hl => match us, hl with | [_, _], _ => rfl⟩
theorem at__law_free_rows {K : PySem.W.Frag} {h : Heap} {mg : Str → Option Value} (X : K.In h) (G : h.Ns mainGlobals mg) (c : He.SaysD fa fn K) : ∃ f fd, DefAt K mg d__law_free_rows f fd ∧ L2.Binds K fd ["n", "k"] [] := by
  obtain ⟨fd, F⟩ := c.def_ 17 (d := d__law_free_rows) rfl
  exact ⟨_, fd, ⟨He.glo_ok X G (c.fact 17 (f := .glo "_law_free_rows") rfl), F⟩, F.bindsN fun _ _ _ _ _ _ us hl => match us, hl with | [_, _], _ => rfl⟩
theorem at__law_lists {K : PySem.W.Frag} {h : Heap} {mg : Str → Option Value} (X : K.In h) (G : h.Ns mainGlobals mg) (c : He.SaysD fa fn K) : ∃ f fd, DefAt K mg d__law_lists f fd ∧ L2.Binds K fd ["k", "total", "least"] [] := by
  obtain ⟨fd, F⟩ := c.def_ 18 (d := d__law_lists) rfl
  exact ⟨_, fd, ⟨He.glo_ok X G (c.fact 18 (f := .glo "_law_lists") rfl), F⟩, F.bindsN fun _ _ _ _ _ _ us hl => match us, hl with | [_, _, _], _ => rfl⟩
theorem at__law_base_number {K : PySem.W.Frag} {h : Heap} {mg : Str → Option Value} (X : K.In h) (G : h.Ns mainGlobals mg) (c : He.SaysD fa fn K) : ∃ f fd, DefAt K mg d__law_base_number f fd ∧ L2.Binds K fd ["degrees"] [] := by
  obtain ⟨fd, F⟩ := c.def_ 19 (d := d__law_base_number) rfl
  exact ⟨_, fd, ⟨He.glo_ok X G (c.fact 19 (f := .glo "_law_base_number") rfl), F⟩, F.bindsN fun _ _ _ _ _ _ us hl => match us, hl with | [_], _ => rfl⟩
theorem at__law_with_degrees {K : PySem.W.Frag} {h : Heap} {mg : Str → Option Value} (X : K.In h) (G : h.Ns mainGlobals mg) (c : He.SaysD fa fn K) : ∃ f fd, DefAt K mg d__law_with_degrees f fd ∧ L2.Binds K fd ["n", "degrees"] [] := by
  obtain ⟨fd, F⟩ := c.def_ 20 (d := d__law_with_degrees) rfl
  exact ⟨_, fd, ⟨He.glo_ok X G (c.fact 20 (f := .glo "_law_with_degrees") rfl), F⟩, F.bindsN fun _ _ _ _ _ _ us hl => match us, hl with | [_, _], _ => rfl⟩
theorem at__law_all_number {K : PySem.W.Frag} {h : Heap} {mg : Str → Option Value} (X : K.In h) (G : h.Ns mainGlobals mg) (c : He.SaysD fa fn K) : ∃ f fd, DefAt K mg d__law_all_number f fd ∧ L2.Binds K fd ["n", "k", "total"] [] := by
  obtain ⟨fd, F⟩ := c.def_ 21 (d := d__law_all_number) rfl
  exact ⟨_, fd, ⟨He.glo_ok X G (c.fact 21 (f := .glo "_law_all_number") rfl), F⟩, F.bindsN fun _ _ _ _ _ _ us hl => match us, hl with | [_, _, _], _ => rfl⟩
theorem at__law_whole_numbers {K : PySem.W.Frag} {h : Heap} {mg : Str → Option Value} (X : K.In h) (G : h.Ns mainGlobals mg) (c : He.SaysD fa fn K) : ∃ f fd, DefAt K mg d__law_whole_numbers f fd ∧ L2.Binds K fd ["n", "k", "most"] [] := by
  obtain ⟨fd, F⟩ := c.def_ 22 (d := d__law_whole_numbers) rfl
  exact ⟨_, fd, ⟨He.glo_ok X G (c.fact 22 (f := .glo "_law_whole_numbers") rfl), F⟩, F.bindsN fun _ _ _ _ _ _ us hl => match us, hl with | [_, _, _], _ => rfl⟩
theorem at__law_upright {K : PySem.W.Frag} {h : Heap} {mg : Str → Option Value} (X : K.In h) (G : h.Ns mainGlobals mg) (c : He.SaysD fa fn K) : ∃ f fd, DefAt K mg d__law_upright f fd ∧ L2.Binds K fd ["k", "m"] [] := by
  obtain ⟨fd, F⟩ := c.def_ 23 (d := d__law_upright) rfl
  exact ⟨_, fd, ⟨He.glo_ok X G (c.fact 23 (f := .glo "_law_upright") rfl), F⟩, F.bindsN fun _ _ _ _ _ _ us hl => match us, hl with | [_, _], _ => rfl⟩
theorem at__law_rule {K : PySem.W.Frag} {h : Heap} {mg : Str → Option Value} (X : K.In h) (G : h.Ns mainGlobals mg) (c : He.SaysD fa fn K) : ∃ f fd, DefAt K mg d__law_rule f fd ∧ L2.Binds K fd ["n", "q"] [] := by
  obtain ⟨fd, F⟩ := c.def_ 24 (d := d__law_rule) rfl
  exact ⟨_, fd, ⟨He.glo_ok X G (c.fact 24 (f := .glo "_law_rule") rfl), F⟩, F.bindsN fun _ _ _ _ _ _ us hl => match us, hl with | [_, _], _ => rfl⟩
theorem at_law {K : PySem.W.Frag} {h : Heap} {mg : Str → Option Value} (X : K.In h) (G : h.Ns mainGlobals mg) (c : He.SaysD fa fn K) : ∃ f fd, DefAt K mg d_law f fd ∧ L2.Binds K fd ["script"] [] := by
  obtain ⟨fd, F⟩ := c.def_ 25 (d := d_law) rfl
  exact ⟨_, fd, ⟨He.glo_ok X G (c.fact 25 (f := .glo "law") rfl), F⟩, F.bindsN fun _ _ _ _ _ _ us hl => match us, hl with | [_], _ => rfl⟩

theorem trl_law : mapS (trS 40 ⟨N_law, defScope s_law, ft, gl⟩) (defBody s_law).tail = some bl_law := by kernel_rfl
theorem gls_ok {K : PySem.W.Frag} {h : Heap} {mg : Str → Option Value} (X : K.In h) (G : h.Ns mainGlobals mg) (c : He.SaysD fa fn K) : ∀ x d, gl.lookup x = some d → GlV mg x d :=
  gls_of fun p hp => absurd hp List.not_mem_nil
theorem bi_ok {K : PySem.W.Frag} {h : Heap} {mg : Str → Option Value} (X : K.In h) (G : h.Ns mainGlobals mg) (c : He.SaysD fa fn K) : ∀ y ∈ blts, mg y = none := bi_of X G c fun y hy => List.mem_append_right _ (List.mem_map.mpr ⟨y, hy, rfl⟩)
def loose : List Str := ("row_choices" :: "flat_number" :: "degree_lists" :: "base_number" :: "codes_with_degrees" :: "more_row" :: "less_row" :: "beginning" :: "inside_number" :: "all_number" :: "whole_number" :: "prompt_number" :: "whole_rule" :: "_law_source" :: "_law_pick" :: "_law_mixed" :: "_law_inside_number" :: "_law_free_rows" :: "_law_lists" :: "_law_base_number" :: "_law_with_degrees" :: "_law_all_number" :: "_law_whole_numbers" :: "_law_upright" :: "_law_rule" :: [])
abbrev lawIx : Nat := 27

abbrev HR : PySem.W.OpenRow := PySem.W.OpenLaw.row rw
abbrev hk : PySem.W.Hook := hookS 4 fa fn
def ob (s : PySem.W.SharedT) : He.AlD × Bool := obS 4 fa fn s
theorem ob_eq (s : PySem.W.SharedT) : ob s = hk.obs s.abs := obS_eq 4 fa fn s
theorem run (w : World) : HandSHeadRun.RunEq HR (PySem.W.view HR.prog [lawIx]) hk ob 2000 loose w := by
  intro os
  kernel_rfl
section
variable {P : Program} {w : World} {K : PySem.W.Frag} {mg : Str → Option Value} {B : Heap} {f : Addr} {fd : FuncData}
theorem ok_pick (F : FunD K "_law_pick" "_law_pick" (defArgs s__law_pick) (defBody s__law_pick) (defScope s__law_pick) [] [] f fd) (mi : mg "int" = none) (mx : mg "max" = none) (ml : mg "len" = none) :
    FnG P w K mg B 1 f fd ["source", "many"] (SpOf K mg cPickF) := by
  refine fn_g F sc__law_pick (fun xs H Q E h => by obtain ⟨S, G, sl, Qp, Ep, _, _, pr, ⟨m, rfl, _⟩, _⟩ := h; exact (Paired.length pr).trans rfl) ?_
  intro cdv A fr t H xs Q E hr hc want
  have hr := room_of2 hr
  have hu : (A.deeper (envOfC "_law_pick" (defScope s__law_pick) t.heap.objs.size f cdv)).units + 1 < cLine := by have := hr.un; omega
  refine ⟨tPick K, pss_cons (ps_while (passes_of rfl) (pw_and (pt_cmp (pc_gt (pv 1) pe_int)) (pw_and (pt_cmp (pc_lt (pe_dget hu (pv 0) pe_str (fun _ _ => rfl)) pe_int)) (pw_and1 (pt_cmp (pc_gt (pe_callB call_len (by rfl) ml boot_len (pa_cons (pe_dget hu (pv 0) pe_str (fun _ _ => rfl)) pa_nil)) pe_int))))).pt
      (pss_one (ps_dput hu (pv 0) pe_str (pe_bm0 PySem.F.plainAttrs_list PySem.F.slot_list_pop PySem.F.type_list_pop mt_pop (pe_dget hu (pv 0) pe_str (fun _ _ => rfl))) rfl)))
    (pss_cons (ps_set (i := 2) sc__law_pick.nd rfl (.inl rfl) (pe_dget hu (pv 0) pe_str (fun _ _ => rfl)))
    (pss_cons (ps_if (pw_or (pt_cmp (pc_lt (pv 1) pe_int)) (pw_or1 (pt_cmp (pc_gt (pv 2) pe_int)))).pt
      (pss_cons (ps_dput hu (pv 0) pe_str (pe_op op_fdivW (pv 2) (pe_callB (call_max2 rfl) (by rfl) mx (by decide +kernel) (pa_cons pe_int (pa_cons (pv 1) pa_nil)))) rfl) (pss_one (ps_ret (pe_op op_mod (pe_callTy call_int1 (by rfl) mi (by decide +kernel) (pa_cons (pv 2) pa_nil)) (pe_callB (call_max2 rfl) (by rfl) mx (by decide +kernel) (pa_cons pe_int (pa_cons (pv 1) pa_nil))))))) pss_nil)
    (pss_cons (ps_dput hu (pv 0) pe_str (pe_op op_add (pe_dget hu (pv 0) pe_str (fun _ _ => rfl)) pe_int) rfl)
    (pss_cons (ps_set (i := 3) sc__law_pick.nd rfl (.inl rfl) (pe_op op_mod (pe_callTy call_int1 (by rfl) mi (by decide +kernel) (pa_cons (pe_op op_add (pe_dget hu (pv 0) pe_str (fun _ _ => rfl)) (pe_op op_mul (pe_dget hu (pv 0) pe_str (fun _ _ => rfl)) pe_int)) pa_nil)) pe_int))
    (pss_cons (ps_set (i := 3) sc__law_pick.nd rfl (.inl rfl) (pe_op op_mod (pe_callTy call_int1 (by rfl) mi (by decide +kernel) (pa_cons (pe_op op_add (pe_op op_mul (pv 3) (pv 3)) (pe_op op_mul (pe_dget hu (pv 0) pe_str (fun _ _ => rfl)) pe_int)) pa_nil)) pe_int))
    (pss_cons (ps_dput hu (pv 0) pe_str (pv 3) rfl)
    (pss_one (ps_ret (pe_op op_mod (pe_callTy call_int1 (by rfl) mi (by decide +kernel) (pa_cons (pe_op op_fdivW (pv 3) pe_int) pa_nil)) (pv 1)))))))))), pick_spec want⟩
theorem ok_source (F : FunD K "_law_source" "_law_source" (defArgs s__law_source) (defBody s__law_source) (defScope s__law_source) [] [] f fd) (mi : mg "int" = none) (ma : mg "abs" = none) :
    FnG P w K mg B 1 f fd ["script"] (spSource K) := by
  refine fn_g F sc__law_source (fun xs H Q E h => by obtain ⟨a, ns, rfl, _⟩ := h; rfl) ?_
  rintro cdv A fr t H xs Q E hr hc ⟨a, ns, rfl, hS, len, want⟩
  have hr := room_of2 hr
  refine ⟨tSource K, pss_cons (ps_set (i := 1) sc__law_source.nd rfl (.inl rfl) pe_int)
    (pss_cons (ps_for (passes_of rfl) rfl (pi_list (pv 0)) (pg_name (i := 2) sc__law_source.nd rfl (.inl rfl)) (pss_one (ps_set (i := 1) sc__law_source.nd rfl (.inl rfl)
      (pe_op op_mod (pe_callTy call_int1 (by rfl) mi (by decide +kernel) (pa_cons (pe_op op_add (pe_op op_add (pe_op op_mul (pv 1) pe_int) (pe_op op_mul (pv 2) pe_int)) pe_int) pa_nil)) pe_int))))
    (pss_one (ps_ret (pe_disp (pps_cons pe_str (pe_revA (pe_lc rfl sc__law_source.nd (pi_list (pv 0)) (blkOk_by (own := [(".0", 3), ("cell", 2)]) (by rfl)) (fun _ _ _ _ _ => pg_name (i := 2) sc__law_source.nd rfl (.inl rfl)) (fun _ _ _ _ _ => pts_nil)
        (fun _ _ _ _ _ => pe_callB call_abs (by rfl) ma (by decide +kernel) (pa_cons (pv 2) pa_nil))))
      (pps_cons pe_str pe_int (pps_cons pe_str (pv 1) (pps_cons pe_str pe_int pps_nil)))) rfl rfl (by simp) (by decide))))), source_sem hS len want⟩
--MIXED
theorem spOf_imp {c c' : Fs} (h : ∀ sl Q E, c sl Q E → c' sl Q E) {xs : List V} {H : Hp} {Q : VK} {E : XK} : SpOf K mg c xs H Q E → SpOf K mg c' xs H Q E := fun ⟨S, G, sl, Qp, Ep, a, b, p, z, r⟩ => ⟨S, G, sl, Qp, Ep, a, b, p, h _ _ _ z, r⟩
theorem ok_mixed {lv : Nat} {fp : Addr} {fdp : FuncData} (F : FunD K "_law_mixed" "_law_mixed" (defArgs s__law_mixed) (defBody s__law_mixed) (defScope s__law_mixed) [] [] f fd) (ml : mg "len" = none) (mi : mg "list" = none) (mr : mg "range" = none)
    (mp : mg "_law_pick" = some (.ref fp)) (kp : PySem.W.keepIn K (.ref fp) = true) (bp : L2.Binds K fdp ["source", "many"] []) (op : FnG P w K mg B lv fp fdp ["source", "many"] (SpOf K mg cPickF)) (bi : ∀ y ∈ blts, mg y = none) (sy : SysD B) :
    FnG P w K mg B (lv + 1) f fd ["source", "things"] (SpOf K mg cMixF) := by
  refine fn_g F sc__law_mixed (fun xs H Q E h => by obtain ⟨S, G, sl, Qp, Ep, _, _, pr, ⟨d, xs', rfl, _⟩, _⟩ := h; exact (Paired.length pr).trans rfl) ?_
  intro cdv A fr t H xs Q E hr hc want
  have ck : Cok (cxOf (L2.CX P w) P w K mg B N__law_mixed "_law_mixed" (defScope s__law_mixed) f cdv A fr t H E) ⟨N__law_mixed, defScope s__law_mixed, [], []⟩ (fun j => if j < 10000 then C0 j else SortP (C0 (j - 10000))) E lv :=
    ⟨rfl, sc__law_mixed.nd, sc__law_mixed.kind, fun _ _ h _ => h, fun y h => .inl h, fun _ _ => rfl, rfl, room_of2 hr, hr, sortC_srt, hc, passes_call (takes_of rfl rfl rfl rfl) (fun _ _ _ _ h => h), fun j y hj => absurd hj List.not_mem_nil, bi, sy, fun x d h => nomatch h⟩
  have lr := loc_of ck (x := "rest") (by decide +kernel)
  refine ⟨tMixed K mg, pss_cons (ps_set (i := 2) sc__law_mixed.nd rfl lr.1 (pe_callTy call_list_of (by rfl) mi (by decide +kernel) (pa_cons (pv 1) pa_nil)) (hf := lr.2))
    (pss_one (ps_ret (pe_lc rfl sc__law_mixed.nd (pi_range1 (by rfl) mr (pa_cons (pe_callB call_len (by rfl) ml boot_len (pa_cons (pv 2) pa_nil)) pa_nil)) (blkOk_by (own := [(".0", 3), ("lap", 4)]) (by rfl)) (fun _ _ _ _ _ => pg_name (i := 4) sc__law_mixed.nd rfl (.inl rfl)) (fun _ _ _ _ _ => pts_nil)
      (fun s H C' cl fp' => pe_bm PySem.F.plainAttrs_list PySem.F.slot_list_pop PySem.F.type_list_pop mt_popAt (pv 2)
        (pa_cons (pe_callG (E := E0) op (ck.blk (by rfl) s H C' cl fp').room (ck.blk (by rfl) s H C' cl fp').gd (by rfl) mp kp bp (ck.blk (by rfl) s H C' cl fp').pass (pa_cons (pv 0) (pa_cons (pe_callB call_len (by rfl) ml boot_len (pa_cons (pv 2) pa_nil)) pa_nil)) (by rfl) (by rfl) (by rfl)) pa_nil))))), mixed_spec want⟩
--ENDMIXED
end
theorem rd_as {f : FV} {F : Nat → FV} {C : Nat → Fs} {N : List Str} {np : Nat} {b : Sms} (e : f = evDef F N.length np b) (hC : Under F C) : ∀ sl Q Ep, wOf f sl Q Ep → b.rd C (envOf N sl) { nx := fun _ => Q false .none, rt := Q, ex := Ep } := by
  subst e
  exact rd_of hC
theorem ar_as {f : FV} {F : Nat → FV} {n np : Nat} {b : Sms} (e : f = evDef F n np b) : ∀ sl Q Ep, wOf f sl Q Ep → sl.length = np := by
  subst e
  exact ar_of
theorem hj_as {ft : List (Str × Nat)} {j : Nat} {nm : Str} (h : (ft.all fun p => !(p.2 == j) || p.1 == nm) = true) : ∀ z, (z, j) ∈ ft → z = nm := fun z hz => by
  have := List.all_eq_true.mp h _ hz
  simpa using this
theorem under_none {C : Nat → Fs} {i : Nat} {f : FV} {r : List (Nat × FV)} (h : f = fun _ => .bad) (t : Under (tab r) C) : Under (tab ((i, f) :: r)) C := under_imp (fun sl Q E z => by rw [h] at z; exact z.elim) t
theorem start_ok {K : PySem.W.Frag} {h : Heap} {mg : Str → Option Value} (X : K.In h) (G : h.Ns mainGlobals mg) (c : He.SaysD fa fn K) : ∀ (j : Nat) (y : Str), (y, j) ∈ ft → j < 10000 ∧ ∃ g gd qs, mg y = some (.ref g) ∧ PySem.W.keepIn K (.ref g) = true ∧ L2.Binds K gd qs [] := by
  intro j y hy
  simp only [ft, List.mem_cons, List.not_mem_nil, or_false] at hy
  rcases hy with h | h | h | h | h | h | h | h | h | h | h | h | h | h | h | h | h | h | h | h | h | h | h | h | h | h <;> (cases h)
  · obtain ⟨f, fd, D, b⟩ := at_row_choices X G c; exact ⟨by decide, f, fd, _, D.mg_, D.fun_.kp, b⟩
  · obtain ⟨f, fd, D, b⟩ := at_flat_number X G c; exact ⟨by decide, f, fd, _, D.mg_, D.fun_.kp, b⟩
  · obtain ⟨f, fd, D, b⟩ := at_degree_lists X G c; exact ⟨by decide, f, fd, _, D.mg_, D.fun_.kp, b⟩
  · obtain ⟨f, fd, D, b⟩ := at_base_number X G c; exact ⟨by decide, f, fd, _, D.mg_, D.fun_.kp, b⟩
  · obtain ⟨f, fd, D, b⟩ := at_codes_with_degrees X G c; exact ⟨by decide, f, fd, _, D.mg_, D.fun_.kp, b⟩
  · obtain ⟨f, fd, D, b⟩ := at_more_row X G c; exact ⟨by decide, f, fd, _, D.mg_, D.fun_.kp, b⟩
  · obtain ⟨f, fd, D, b⟩ := at_less_row X G c; exact ⟨by decide, f, fd, _, D.mg_, D.fun_.kp, b⟩
  · obtain ⟨f, fd, D, b⟩ := at_beginning X G c; exact ⟨by decide, f, fd, _, D.mg_, D.fun_.kp, b⟩
  · obtain ⟨f, fd, D, b⟩ := at_inside_number X G c; exact ⟨by decide, f, fd, _, D.mg_, D.fun_.kp, b⟩
  · obtain ⟨f, fd, D, b⟩ := at_all_number X G c; exact ⟨by decide, f, fd, _, D.mg_, D.fun_.kp, b⟩
  · obtain ⟨f, fd, D, b⟩ := at_whole_number X G c; exact ⟨by decide, f, fd, _, D.mg_, D.fun_.kp, b⟩
  · obtain ⟨f, fd, D, b⟩ := at_prompt_number X G c; exact ⟨by decide, f, fd, _, D.mg_, D.fun_.kp, b⟩
  · obtain ⟨f, fd, D, b⟩ := at_whole_rule X G c; exact ⟨by decide, f, fd, _, D.mg_, D.fun_.kp, b⟩
  · obtain ⟨f, fd, D, b⟩ := at__law_source X G c; exact ⟨by decide, f, fd, _, D.mg_, D.fun_.kp, b⟩
  · obtain ⟨f, fd, D, b⟩ := at__law_pick X G c; exact ⟨by decide, f, fd, _, D.mg_, D.fun_.kp, b⟩
  · obtain ⟨f, fd, D, b⟩ := at__law_mixed X G c; exact ⟨by decide, f, fd, _, D.mg_, D.fun_.kp, b⟩
  · obtain ⟨f, fd, D, b⟩ := at__law_inside_number X G c; exact ⟨by decide, f, fd, _, D.mg_, D.fun_.kp, b⟩
  · obtain ⟨f, fd, D, b⟩ := at__law_free_rows X G c; exact ⟨by decide, f, fd, _, D.mg_, D.fun_.kp, b⟩
  · obtain ⟨f, fd, D, b⟩ := at__law_lists X G c; exact ⟨by decide, f, fd, _, D.mg_, D.fun_.kp, b⟩
  · obtain ⟨f, fd, D, b⟩ := at__law_base_number X G c; exact ⟨by decide, f, fd, _, D.mg_, D.fun_.kp, b⟩
  · obtain ⟨f, fd, D, b⟩ := at__law_with_degrees X G c; exact ⟨by decide, f, fd, _, D.mg_, D.fun_.kp, b⟩
  · obtain ⟨f, fd, D, b⟩ := at__law_all_number X G c; exact ⟨by decide, f, fd, _, D.mg_, D.fun_.kp, b⟩
  · obtain ⟨f, fd, D, b⟩ := at__law_whole_numbers X G c; exact ⟨by decide, f, fd, _, D.mg_, D.fun_.kp, b⟩
  · obtain ⟨f, fd, D, b⟩ := at__law_upright X G c; exact ⟨by decide, f, fd, _, D.mg_, D.fun_.kp, b⟩
  · obtain ⟨f, fd, D, b⟩ := at__law_rule X G c; exact ⟨by decide, f, fd, _, D.mg_, D.fun_.kp, b⟩
  · obtain ⟨f, fd, D, b⟩ := at_law X G c; exact ⟨by decide, f, fd, _, D.mg_, D.fun_.kp, b⟩
theorem law_chain {w : World} {K : PySem.W.Frag} {h B : Heap} {mg : Str → Option Value} {f : Addr} {fd : FuncData} (X : K.In h) (G : h.Ns mainGlobals mg) (c : He.SaysD fa fn K) (sy : SysD B) (F : FunD K "law" "law" (defArgs s_law) (defBody s_law) (defScope s_law) [] [] f fd) :
    FnG prg w K mg B 37 f fd ["script"] (spLaw K) := by
  have bi := bi_ok X G c
  have gls := gls_ok X G c
  have g0 : Good prg w K mg B ft 0 C0 := Good.start fun j y hj => start_ok X G c j y hj
  obtain ⟨fp, fdp, Dp, bp⟩ := at__law_pick X G c
  have g1 := g0.step (j := 1) (hj_as (nm := "_law_pick") (by decide +kernel)) Dp.mg_ Dp.fun_.kp bp (ok_pick Dp.fun_ (bi _ (by decide)) (bi _ (by decide)) (bi _ (by decide)))
  obtain ⟨fm, fdm, Dm, bm⟩ := at__law_mixed X G c
  have g2 := g1.step (j := 40) (hj_as (nm := "_law_mixed") (by decide +kernel)) Dm.mg_ Dm.fun_.kp bm ((ok_mixed Dm.fun_ (bi _ (by decide)) (bi _ (by decide)) (bi _ (by decide)) Dp.mg_ Dp.fun_.kp bp (ok_pick Dp.fun_ (bi _ (by decide)) (bi _ (by decide)) (bi _ (by decide))) bi sy).imp fun ws H Q E h => spOf_imp (fun sl Q E z => mixed_ok z) h)
  obtain ⟨f3, fd3, D3, b3⟩ := at__law_free_rows X G c
  have g3 := g2.def_ (j := 662) (c := wOf F__law_free_rows) D3 (hj_as (by decide +kernel)) sc__law_free_rows b3 tr__law_free_rows bi sy gls (ar_as rfl) (rd_as (N := N__law_free_rows) rfl (under_nil))
  obtain ⟨f4, fd4, D4, b4⟩ := at_row_choices X G c
  have g4 := g3.def_ (j := 507) (c := wOf F_row_choices) D4 (hj_as (by decide +kernel)) sc_row_choices b4 tr_row_choices bi sy gls (ar_as rfl) (rd_as (N := N_row_choices) rfl (under_nil))
  obtain ⟨f5, fd5, D5, b5⟩ := at_flat_number X G c
  have g5 := g4.def_ (j := 508) (c := wOf F_flat_number) D5 (hj_as (by decide +kernel)) sc_flat_number b5 tr_flat_number bi sy gls (ar_as rfl) (rd_as (N := N_flat_number) rfl (under_cons rfl (under_nil)))
  obtain ⟨fr663, fdr663, Dr663, br663⟩ := at__law_lists X G c
  have g6 := g5.def_ (j := 663) (c := wOf (F_listsL 1)) Dr663 (hj_as (by decide +kernel)) sc__law_lists br663 tr__law_lists bi sy gls (ar_as F_listsL_succ) (rd_as (N := N__law_lists) F_listsL_succ (under_none rfl (under_nil)))
  have g7 := g6.def_ (j := 663) (c := wOf (F_listsL 2)) Dr663 (hj_as (by decide +kernel)) sc__law_lists br663 tr__law_lists bi sy gls (ar_as F_listsL_succ) (rd_as (N := N__law_lists) F_listsL_succ (under_cons rfl (under_nil)))
  have g8 := g7.def_ (j := 663) (c := wOf (F_listsL 3)) Dr663 (hj_as (by decide +kernel)) sc__law_lists br663 tr__law_lists bi sy gls (ar_as F_listsL_succ) (rd_as (N := N__law_lists) F_listsL_succ (under_cons rfl (under_nil)))
  have g9 := g8.def_ (j := 663) (c := wOf (F_listsL 4)) Dr663 (hj_as (by decide +kernel)) sc__law_lists br663 tr__law_lists bi sy gls (ar_as F_listsL_succ) (rd_as (N := N__law_lists) F_listsL_succ (under_cons rfl (under_nil)))
  have g10 := g9.def_ (j := 663) (c := wOf (F_listsL 5)) Dr663 (hj_as (by decide +kernel)) sc__law_lists br663 tr__law_lists bi sy gls (ar_as F_listsL_succ) (rd_as (N := N__law_lists) F_listsL_succ (under_cons rfl (under_nil)))
  obtain ⟨f11, fd11, D11, b11⟩ := at_degree_lists X G c
  have g11 := g10.def_ (j := 747) (c := wOf F_degree_lists) D11 (hj_as (by decide +kernel)) sc_degree_lists b11 tr_degree_lists bi sy gls (ar_as rfl) (rd_as (N := N_degree_lists) rfl (under_nil))
  obtain ⟨f12, fd12, D12, b12⟩ := at__law_base_number X G c
  have g12 := g11.def_ (j := 664) (c := wOf F__law_base_number) D12 (hj_as (by decide +kernel)) sc__law_base_number b12 tr__law_base_number bi sy gls (ar_as rfl) (rd_as (N := N__law_base_number) rfl (under_cons rfl (under_nil)))
  obtain ⟨f13, fd13, D13, b13⟩ := at__law_with_degrees X G c
  have g13 := g12.def_ (j := 665) (c := wOf F__law_with_degrees) D13 (hj_as (by decide +kernel)) sc__law_with_degrees b13 tr__law_with_degrees bi sy gls (ar_as rfl) (rd_as (N := N__law_with_degrees) rfl (under_cons rfl (under_cons rfl (under_nil))))
  obtain ⟨f14, fd14, D14, b14⟩ := at_base_number X G c
  have g14 := g13.def_ (j := 720) (c := wOf F_base_number) D14 (hj_as (by decide +kernel)) sc_base_number b14 tr_base_number bi sy gls (ar_as rfl) (rd_as (N := N_base_number) rfl (under_cons rfl (under_nil)))
  obtain ⟨f15, fd15, D15, b15⟩ := at_codes_with_degrees X G c
  have g15 := g14.def_ (j := 748) (c := wOf F_codes_with_degrees) D15 (hj_as (by decide +kernel)) sc_codes_with_degrees b15 tr_codes_with_degrees bi sy gls (ar_as rfl) (rd_as (N := N_codes_with_degrees) rfl (under_cons rfl (under_cons rfl (under_nil))))
  obtain ⟨fr750, fdr750, Dr750, br750⟩ := at__law_inside_number X G c
  have g16 := g15.def_ (j := 750) (c := wOf (F_insideL 1)) Dr750 (hj_as (by decide +kernel)) sc__law_inside_number br750 tr__law_inside_number bi sy gls (ar_as F_insideL_succ) (rd_as (N := N__law_inside_number) F_insideL_succ (under_none rfl (under_nil)))
  have g17 := g16.def_ (j := 750) (c := wOf (F_insideL 2)) Dr750 (hj_as (by decide +kernel)) sc__law_inside_number br750 tr__law_inside_number bi sy gls (ar_as F_insideL_succ) (rd_as (N := N__law_inside_number) F_insideL_succ (under_cons rfl (under_nil)))
  have g18 := g17.def_ (j := 750) (c := wOf (F_insideL 3)) Dr750 (hj_as (by decide +kernel)) sc__law_inside_number br750 tr__law_inside_number bi sy gls (ar_as F_insideL_succ) (rd_as (N := N__law_inside_number) F_insideL_succ (under_cons rfl (under_nil)))
  have g19 := g18.def_ (j := 750) (c := wOf (F_insideL 4)) Dr750 (hj_as (by decide +kernel)) sc__law_inside_number br750 tr__law_inside_number bi sy gls (ar_as F_insideL_succ) (rd_as (N := N__law_inside_number) F_insideL_succ (under_cons rfl (under_nil)))
  have g20 := g19.def_ (j := 750) (c := wOf (F_insideL 5)) Dr750 (hj_as (by decide +kernel)) sc__law_inside_number br750 tr__law_inside_number bi sy gls (ar_as F_insideL_succ) (rd_as (N := N__law_inside_number) F_insideL_succ (under_cons rfl (under_nil)))
  obtain ⟨f21, fd21, D21, b21⟩ := at__law_all_number X G c
  have g21 := g20.def_ (j := 666) (c := wOf F__law_all_number) D21 (hj_as (by decide +kernel)) sc__law_all_number b21 tr__law_all_number bi sy gls (ar_as rfl) (rd_as (N := N__law_all_number) rfl (under_cons rfl (under_cons rfl (under_nil))))
  obtain ⟨f22, fd22, D22, b22⟩ := at__law_whole_numbers X G c
  have g22 := g21.def_ (j := 751) (c := wOf F__law_whole_numbers) D22 (hj_as (by decide +kernel)) sc__law_whole_numbers b22 tr__law_whole_numbers bi sy gls (ar_as rfl) (rd_as (N := N__law_whole_numbers) rfl (under_cons rfl (under_cons rfl (under_nil))))
  obtain ⟨f23, fd23, D23, b23⟩ := at_beginning X G c
  have g23 := g22.def_ (j := 511) (c := wOf F_beginning) D23 (hj_as (by decide +kernel)) sc_beginning b23 tr_beginning bi sy gls (ar_as rfl) (rd_as (N := N_beginning) rfl (under_nil))
  obtain ⟨f24, fd24, D24, b24⟩ := at_more_row X G c
  have g24 := g23.def_ (j := 509) (c := wOf F_more_row) D24 (hj_as (by decide +kernel)) sc_more_row b24 tr_more_row bi sy gls (ar_as rfl) (rd_as (N := N_more_row) rfl (under_nil))
  obtain ⟨f25, fd25, D25, b25⟩ := at_less_row X G c
  have g25 := g24.def_ (j := 510) (c := wOf F_less_row) D25 (hj_as (by decide +kernel)) sc_less_row b25 tr_less_row bi sy gls (ar_as rfl) (rd_as (N := N_less_row) rfl (under_nil))
  obtain ⟨f26, fd26, D26, b26⟩ := at_whole_number X G c
  have g26 := g25.def_ (j := 514) (c := wOf F_whole_number) D26 (hj_as (by decide +kernel)) sc_whole_number b26 tr_whole_number bi sy gls (ar_as rfl) (rd_as (N := N_whole_number) rfl (under_cons rfl (under_cons rfl (under_cons rfl (under_cons rfl (under_nil))))))
  obtain ⟨f27, fd27, D27, b27⟩ := at_inside_number X G c
  have g27 := g26.def_ (j := 512) (c := wOf F_inside_number) D27 (hj_as (by decide +kernel)) sc_inside_number b27 tr_inside_number bi sy gls (ar_as rfl) (rd_as (N := N_inside_number) rfl (under_cons rfl (under_cons rfl (under_nil))))
  obtain ⟨f28, fd28, D28, b28⟩ := at_all_number X G c
  have g28 := g27.def_ (j := 513) (c := wOf F_all_number) D28 (hj_as (by decide +kernel)) sc_all_number b28 tr_all_number bi sy gls (ar_as rfl) (rd_as (N := N_all_number) rfl (under_cons rfl (under_cons rfl (under_nil))))
  obtain ⟨f29, fd29, D29, b29⟩ := at_prompt_number X G c
  have g29 := g28.def_ (j := 515) (c := wOf F_prompt_number) D29 (hj_as (by decide +kernel)) sc_prompt_number b29 tr_prompt_number bi sy gls (ar_as rfl) (rd_as (N := N_prompt_number) rfl (under_cons rfl (under_cons rfl (under_cons rfl (under_cons rfl (under_nil))))))
  obtain ⟨fr752, fdr752, Dr752, br752⟩ := at__law_upright X G c
  have g30 := g29.def_ (j := 752) (c := wOf (F_uprightL 1)) Dr752 (hj_as (by decide +kernel)) sc__law_upright br752 tr__law_upright bi sy gls (ar_as F_uprightL_succ) (rd_as (N := N__law_upright) F_uprightL_succ (under_none rfl (under_nil)))
  have g31 := g30.def_ (j := 752) (c := wOf (F_uprightL 2)) Dr752 (hj_as (by decide +kernel)) sc__law_upright br752 tr__law_upright bi sy gls (ar_as F_uprightL_succ) (rd_as (N := N__law_upright) F_uprightL_succ (under_cons rfl (under_nil)))
  have g32 := g31.def_ (j := 752) (c := wOf (F_uprightL 3)) Dr752 (hj_as (by decide +kernel)) sc__law_upright br752 tr__law_upright bi sy gls (ar_as F_uprightL_succ) (rd_as (N := N__law_upright) F_uprightL_succ (under_cons rfl (under_nil)))
  have g33 := g32.def_ (j := 752) (c := wOf (F_uprightL 4)) Dr752 (hj_as (by decide +kernel)) sc__law_upright br752 tr__law_upright bi sy gls (ar_as F_uprightL_succ) (rd_as (N := N__law_upright) F_uprightL_succ (under_cons rfl (under_nil)))
  have g34 := g33.def_ (j := 752) (c := wOf (F_uprightL 5)) Dr752 (hj_as (by decide +kernel)) sc__law_upright br752 tr__law_upright bi sy gls (ar_as F_uprightL_succ) (rd_as (N := N__law_upright) F_uprightL_succ (under_cons rfl (under_nil)))
  obtain ⟨f35, fd35, D35, b35⟩ := at_whole_rule X G c
  have g35 := g34.def_ (j := 749) (c := wOf F_whole_rule) D35 (hj_as (by decide +kernel)) sc_whole_rule b35 tr_whole_rule bi sy gls (ar_as rfl) (rd_as (N := N_whole_rule) rfl (under_cons rfl (under_cons rfl (under_nil))))
  obtain ⟨f36, fd36, D36, b36⟩ := at__law_rule X G c
  have g36 := g35.def_ (j := 753) (c := wOf F__law_rule) D36 (hj_as (by decide +kernel)) sc__law_rule b36 tr__law_rule bi sy gls (ar_as rfl) (rd_as (N := N__law_rule) rfl (under_nil))
  obtain ⟨fs, fds, Ds, bs⟩ := at__law_source X G c
  exact law_g (i := 1) F sc_law rfl rfl (by decide) rfl rfl rfl Ds.mg_ Ds.fun_.kp bs ((ok_source Ds.fun_ (bi _ (by decide)) (bi _ (by decide))).mono (by decide)) trl_law g36.fns sortC_srt bi sy gls (rd_law_of (F := Flaw) (under_pick rfl (under_cons rfl (under_cons rfl (under_cons rfl (under_cons rfl (under_cons rfl (under_cons rfl (under_cons rfl (under_cons rfl (under_cons rfl (under_cons rfl (under_cons rfl (under_cons rfl (under_cons rfl (under_cons rfl (under_cons rfl (under_cons rfl (under_cons rfl (under_cons rfl (under_cons rfl (under_cons rfl (under_cons rfl (under_cons rfl (under_nil)))))))))))))))))))))))) (Res.wq_iff.mp law_ok))
theorem law_holds : PySem.Challenge.rw_endlesscodes_k71_whole_numbers_of_codes.Holds := by
  w_on; o_law
  refine HandSHeadRun.head_any (r := HR) (q := PySem.W.view HR.prog [lawIx]) (H := hk) (ob := ob) (M := 2000) (loose := loose) (d := HandSHeadRun.topDef HR.prog lawIx) (kwd := []) ob_eq
    (by kernel_rfl) (fun s => by kernel_rfl) run (by kernel_rfl) (by kernel_rfl) (by kernel_rfl) (by rfl) (by first | assumption | decide +kernel) (by decide +kernel) ⟨rfl, rfl, rfl, rfl, rfl, by decide +kernel⟩ ?hw ?hc
  case hw => w_witness2
  case hc =>
    refine law_end (l := rw) (n := 63) (k := 37) (x := "script") rfl (by decide) (by kernel_rfl) ⟨rfl, by decide, by decide⟩ ?F (fun w h Y => Y.2)
    intro w mg fl h Y G hmg0
    obtain ⟨⟨K, KX, c⟩, _⟩ := Y
    have hmg : mg ("law" : PySem.Str) = some (.ref fl) := by
      have e : (HandSHeadRun.topDef HR.prog lawIx).name = ("law" : PySem.Str) := by kernel_rfl
      rw [← e]
      exact hmg0
    obtain ⟨f, fd, D, b⟩ := at_law KX G c
    have e := hmg.symm.trans D.mg_
    cases e
    have bn := FunD.bindsA (ps := ["script"]) D.fun_ fun _ _ _ _ _ _ us hl => match us, hl with | [_], _ => rfl
    exact ⟨K, fd, spLaw K, KX, fun s v => bn s [v] rfl, fun H a ns hl _ _ hS => ⟨a, ns, rfl, hS, hl, fun _ => rfl⟩, fun B _ _ sy => law_chain KX G c sy D.fun_⟩
end Law
theorem PySem.Challenge.cw_endlesscodes_k71_whole_numbers_of_codes_holds : PySem.Challenge.rw_endlesscodes_k71_whole_numbers_of_codes.Holds := by
  exact Law.law_holds
