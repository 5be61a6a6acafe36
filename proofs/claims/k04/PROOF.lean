import PyProof.Rows.All
import Wide.All
import OpenK.AllK
import Wide.FinOn
import HandS.ForMost
import HandS.ForExc
import HandS.Flow
import HandS.WideBits
import HandS.Head2
import HandS.HeadEnd
import HandS.Defaults
import HandS.EndBits
import KE.DataIsa
import KE.DataAny
import KE.DataMinMax
import KE.SortData
import KE.DataCmp
import PyProof.ReprRoads
import HandS.TupMul
import HandS.TupAny
import HandS.Dict
import HandS.Deep
import KE.GoesEnumKw
import HandS.Zip
import HandS.SortKw
import KE.GoesMore
import PyProof.EnumMake
import PyProof.Draws
import PyProof.SeqIndex
import HandS.Strs
import HandS.Style
import HandS.WideMore
import HandS.HeadHook1
import HandS.HeadHook2
import HandS.Text
import KE.OsArith
import KE.KStateDown
import HandS.Base
import HandS.Call
import HandS.Ends
import HandS.More
import HandS.Words
import HandS.WordsExc
import HandS.Head0
import HandS.Head1
import PySem.Challenge.RW_endlesscodes_k04_whole_well_led_and_tied
set_option Elab.async false
set_option linter.all false
set_option maxRecDepth 100000
set_option maxHeartbeats 2000000
/-! D0: data read off a part G of the abstract heap, slots, the frame of a def's own lists. -/
namespace DL
open PySem PySem.Spec PyProof.Rows L2

/-- G is a part of H -/
def Sub (G H : Hp) : Prop := ∀ a o, G a = some o → H a = some o
theorem Sub.refl (H : Hp) : Sub H H := fun _ _ h => h
theorem Sub.trans {G H I : Hp} (a : Sub G H) (b : Sub H I) : Sub G I := fun x o h => b x o (a x o h)
theorem Sub.nw {G : Hp} {p : Addr} {o : HO} (h : G p = none) : Sub G (upd G p o) := fun a u e => by
  rw [upd_ne (ne_of_none e h)]; exact e
theorem Sub.up2 {G H : Hp} {p : Addr} {o : HO} (s : Sub G H) : Sub (upd G p o) (upd H p o) := fun a u e => by
  by_cases h : a = p
  · subst h; rw [upd_same] at e ⊢; exact e
  · rw [upd_ne h] at e ⊢; exact s a u e
theorem Sub.upr {G H : Hp} {p : Addr} {o : HO} (s : Sub G H) (h : G p = none) : Sub G (upd H p o) := fun a u e => by
  rw [upd_ne (ne_of_none e h)]; exact s a u e

/-- a key as data -/
def kD : Key → PyData
  | .inl i => .int i
  | .inr x => .str x
/-- the object o at a is a dict whose entries are ps (keys and values) -/
def DO (o : HO) (ps : List (PyData × V)) : Prop := ∃ kvs : List (Key × V), o = .dK kvs ∧ ps = kvs.map fun p => (kD p.1, p.2)

mutual
/-- what a value is, read off G -/
inductive R (K : PySem.W.Frag) (G : Hp) : V → PyData → Prop
  | non : R K G .non .none
  | bl (b : Bool) : R K G (.bl b) (.bool b)
  | int (i : Int) : R K G (.int i) (.int i)
  | str (x : Str) : R K G (.str x) (.str x)
  | lst {a : Addr} {xs : List V} {ds : List PyData} : G a = some (.lst xs) → RAll K G xs ds → R K G (.ref a) (.list ds)
  | tup {a : Addr} {o : Obj} {xs : List V} {ds : List PyData} : G a = some (.frz o (.tup xs)) → o.dict = none → RAll K G xs ds → R K G (.ref a) (.tuple ds)
  | dic {a : Addr} {o : HO} {ps : List (PyData × V)} {kvs : List (PyData × PyData)} : Rd G a o → DO o ps → RKV K G ps kvs → R K G (.ref a) (.dict kvs)
inductive RAll (K : PySem.W.Frag) (G : Hp) : List V → List PyData → Prop
  | nil : RAll K G [] []
  | cons {v : V} {vs : List V} {d : PyData} {ds : List PyData} : R K G v d → RAll K G vs ds → RAll K G (v :: vs) (d :: ds)
inductive RKV (K : PySem.W.Frag) (G : Hp) : List (PyData × V) → List (PyData × PyData) → Prop
  | nil : RKV K G [] []
  | cons {k : PyData} {v : V} {ps : List (PyData × V)} {y : PyData} {kvs : List (PyData × PyData)} : R K G v y → RKV K G ps kvs → RKV K G ((k, v) :: ps) ((k, y) :: kvs)
end

section
variable {K : PySem.W.Frag} {G G' H : Hp}
theorem Sub.rd (s : Sub G G') {a : Addr} {u : HO} (h : Rd G a u) : Rd G' a u := by
  rcases h with h | ⟨o, h⟩
  · exact .inl (s _ _ h)
  · exact .inr ⟨o, s _ _ h⟩
theorem Sub.l (s : Sub G G') {a : Addr} {xs : List V} (h : SqL K G a xs) : SqL K G' a xs := h.imp s.rd _root_.id
theorem Sub.t (s : Sub G G') {a : Addr} {xs : List V} (h : SqT K G a xs) : SqT K G' a xs := h.imp s.rd _root_.id
mutual
theorem R.mono (s : Sub G G') : ∀ {v : V} {d : PyData}, R K G v d → R K G' v d
  | _, _, .non => .non
  | _, _, .bl b => .bl b
  | _, _, .int i => .int i
  | _, _, .str x => .str x
  | _, _, .lst h r => .lst (s _ _ h) (RAll.mono s r)
  | _, _, .tup h hd r => .tup (s _ _ h) hd (RAll.mono s r)
  | _, _, .dic h o r => .dic (s.rd h) o (RKV.mono s r)
theorem RAll.mono (s : Sub G G') : ∀ {vs : List V} {ds : List PyData}, RAll K G vs ds → RAll K G' vs ds
  | _, _, .nil => .nil
  | _, _, .cons h t => .cons (R.mono s h) (RAll.mono s t)
theorem RKV.mono (s : Sub G G') : ∀ {vs : List (PyData × V)} {ds : List (PyData × PyData)}, RKV K G vs ds → RKV K G' vs ds
  | _, _, .nil => .nil
  | _, _, .cons g t => .cons (R.mono s g) (RKV.mono s t)
end
theorem RAll.length : ∀ {vs : List V} {ds : List PyData}, RAll K G vs ds → vs.length = ds.length
  | _, _, .nil => rfl
  | _, _, .cons _ t => by rw [List.length_cons, List.length_cons, RAll.length t]
theorem RAll.get : ∀ {vs : List V} {ds : List PyData}, RAll K G vs ds → ∀ (i : Nat) {d : PyData}, ds[i]? = some d → ∃ v, vs[i]? = some v ∧ R K G v d
  | _, _, .nil, i, d, e => by simp at e
  | _, _, .cons h t, 0, d, e => by simp at e; subst e; exact ⟨_, rfl, h⟩
  | _, _, .cons h t, i + 1, d, e => by
    obtain ⟨v, e', r⟩ := RAll.get t i (d := d) (by simpa using e)
    exact ⟨v, by simpa using e', r⟩
theorem RAll.getV : ∀ {vs : List V} {ds : List PyData}, RAll K G vs ds → ∀ (i : Nat) {v : V}, vs[i]? = some v → ∃ d, ds[i]? = some d ∧ R K G v d
  | _, _, .nil, i, d, e => by simp at e
  | _, _, .cons h t, 0, d, e => by simp at e; subst e; exact ⟨_, rfl, h⟩
  | _, _, .cons h t, i + 1, d, e => by
    obtain ⟨v, e', r⟩ := RAll.getV t i (v := d) (by simpa using e)
    exact ⟨v, by simpa using e', r⟩
theorem RAll.append : ∀ {vs ws : List V} {ds es : List PyData}, RAll K G vs ds → RAll K G ws es → RAll K G (vs ++ ws) (ds ++ es)
  | _, _, _, _, .nil, r => r
  | _, _, _, _, .cons h t, r => .cons h (RAll.append t r)
theorem RAll.one {v : V} {d : PyData} (h : R K G v d) : RAll K G [v] [d] := .cons h .nil
theorem RAll.take : ∀ {vs : List V} {ds : List PyData} (n : Nat), RAll K G vs ds → RAll K G (vs.take n) (ds.take n)
  | _, _, 0, _ => by simp; exact .nil
  | _, _, n + 1, .nil => by simp; exact .nil
  | _, _, n + 1, .cons h t => by simp; exact .cons h (RAll.take n t)
theorem RAll.drop : ∀ {vs : List V} {ds : List PyData} (n : Nat), RAll K G vs ds → RAll K G (vs.drop n) (ds.drop n)
  | _, _, 0, r => by simpa using r
  | _, _, n + 1, .nil => by simp; exact .nil
  | _, _, n + 1, .cons h t => by simpa using RAll.drop n t
theorem RAll.erase : ∀ {vs : List V} {ds : List PyData} (n : Nat), RAll K G vs ds → RAll K G (vs.eraseIdx n) (ds.eraseIdx n)
  | _, _, _, .nil => by simp; exact .nil
  | _, _, 0, .cons h t => by simpa using t
  | _, _, n + 1, .cons h t => by simp; exact .cons h (RAll.erase n t)
theorem RAll.set {v : V} {d : PyData} (r : R K G v d) : ∀ {vs : List V} {ds : List PyData} (n : Nat), RAll K G vs ds → RAll K G (vs.set n v) (ds.set n d)
  | _, _, _, .nil => by simp; exact .nil
  | _, _, 0, .cons h t => by simp; exact .cons r t
  | _, _, n + 1, .cons h t => by simp; exact .cons h (RAll.set r n t)
theorem RAll.reverse : ∀ {vs : List V} {ds : List PyData}, RAll K G vs ds → RAll K G vs.reverse ds.reverse
  | _, _, .nil => by simp; exact .nil
  | _, _, .cons h t => by simp; exact (RAll.reverse t).append (.one h)
theorem RAll.rep {v : V} {d : PyData} (r : R K G v d) : ∀ n : Nat, RAll K G (List.replicate n v) (List.replicate n d)
  | 0 => .nil
  | n + 1 => by rw [List.replicate_succ, List.replicate_succ]; exact .cons r (RAll.rep r n)
theorem RAll.reps {vs : List V} {ds : List PyData} (r : RAll K G vs ds) : ∀ n : Nat, RAll K G (List.replicate n vs).flatten (List.replicate n ds).flatten
  | 0 => .nil
  | n + 1 => by rw [List.replicate_succ, List.replicate_succ, List.flatten_cons, List.flatten_cons]; exact r.append (RAll.reps r n)
theorem RAll.ints : ∀ {vs : List V} {ns : List Int}, RAll K G vs (ns.map PyData.int) → vs = ns.map V.int
  | _, [], .nil => rfl
  | _, n :: ns, .cons (.int _) t => by rw [RAll.ints t]; rfl
theorem RAll.of_ints : ∀ {ns : List Int}, RAll K G (ns.map V.int) (ns.map PyData.int)
  | [] => .nil
  | n :: ns => .cons (.int n) RAll.of_ints
theorem RAll.bools : ∀ {vs : List V} {ns : List Bool}, RAll K G vs (ns.map PyData.bool) → vs = ns.map V.bl
  | _, [], .nil => rfl
  | _, n :: ns, .cons (.bl _) t => by rw [RAll.bools t]; rfl

/-! no dict within -/
mutual
theorem R.dp (s : Sub G H) : ∀ {v : V} {d : PyData}, R K G v d → d.hasDict = false → Dp K H v d
  | _, _, .non, _ => .non
  | _, _, .bl b, _ => .bl b
  | _, _, .int i, _ => .int i
  | _, _, .str x, _ => .str x
  | _, _, .lst h r, e => .lst (SqL.of (s _ _ h)) (RAll.dp s r (by simpa [PyData.hasDict] using e))
  | _, _, .tup (o := o) h _ r, e => .tup (.inl (.inr ⟨o, s _ _ h⟩)) (RAll.dp s r (by simpa [PyData.hasDict] using e))
  | _, _, .dic _ _ _, e => by simp [PyData.hasDict] at e
theorem RAll.dp (s : Sub G H) : ∀ {vs : List V} {ds : List PyData}, RAll K G vs ds → PyData.hasDictAll ds = false → DpAll K H vs ds
  | _, _, .nil, _ => .nil
  | _, _, .cons h t, e => by
    simp only [PyData.hasDictAll, Bool.or_eq_false_iff] at e
    exact .cons (R.dp s h e.1) (RAll.dp s t e.2)
end
end

/-! ### what a list or dict may be owned -/
/-- at v a list or dict of one's own, not of G, its parts read off G -/
def Own (K : PySem.W.Frag) (G H : Hp) (v : V) : PyData → Prop
  | .list ds => ∃ a xs, v = .ref a ∧ H a = some (.lst xs) ∧ G a = none ∧ RAll K G xs ds
  | .dict kvs => ∃ a o ps, v = .ref a ∧ H a = some o ∧ DO o ps ∧ G a = none ∧ RKV K G ps kvs
  | _ => False
theorem Own.at {K : PySem.W.Frag} {G H : Hp} {v : V} {d : PyData} (h : Own K G H v d) : ∃ a o, v = .ref a ∧ H a = some o ∧ G a = none ∧ ∀ G', Sub G G' → G' a = some o → R K G' v d := by
  cases d with
  | list ds =>
    obtain ⟨a, xs, e, h1, h2, r⟩ := h
    subst e
    exact ⟨a, _, rfl, h1, h2, fun G' s g => .lst g (r.mono s)⟩
  | dict kvs =>
    obtain ⟨a, o, ps, e, h1, h3, h2, r⟩ := h
    subst e
    exact ⟨a, _, rfl, h1, h2, fun G' s g => .dic (.of g) h3 (r.mono s)⟩
  | none => cases h
  | bool b => cases h
  | int i => cases h
  | str x => cases h
  | tuple xs => cases h
theorem Own.move {K : PySem.W.Frag} {G H G' H' : Hp} {v : V} {d : PyData} (h : Own K G H v d) (s : Sub G G') (k : ∀ a o, v = .ref a → H a = some o → H' a = some o) (g : ∀ a, v = .ref a → G a = none → G' a = none) : Own K G' H' v d := by
  cases d with
  | list ds =>
    obtain ⟨a, xs, e, h1, h2, r⟩ := h
    exact ⟨a, xs, e, k _ _ e h1, g _ e h2, r.mono s⟩
  | dict kvs =>
    obtain ⟨a, o, ps, e, h1, h3, h2, r⟩ := h
    exact ⟨a, o, ps, e, k _ _ e h1, h3, g _ e h2, r.mono s⟩
  | none => cases h
  | bool b => cases h
  | int i => cases h
  | str x => cases h
  | tuple xs => cases h

/-! ### the source of picks -/
abbrev Sx := Option (Addr × Addr)
def kCells : Key := .inr (Str.ofString "cells")
def kLeft : Key := .inr (Str.ofString "left")
def kMixed : Key := .inr (Str.ofString "mixed")
def kTurn : Key := .inr (Str.ofString "turn")
def SrcAt (H : Hp) (sa ca : Addr) : Prop := sa ≠ ca ∧ ∃ (ns : List Int) (l m t : Int), H sa = some (.dK [(kCells, .ref ca), (kLeft, .int l), (kMixed, .int m), (kTurn, .int t)]) ∧ H ca = some (.lst (ns.map V.int)) ∧
  (∀ n ∈ ns, 0 ≤ n) ∧ 0 ≤ l ∧ 0 ≤ m ∧ m < 2147483647 ∧ 0 ≤ t ∧ ns.length ≤ 63
def SrcOk (S : Sx) (G H : Hp) : Prop := ∀ sa ca, S = some (sa, ca) → G sa = none ∧ G ca = none ∧ SrcAt H sa ca
def nsrc (S : Sx) (a : Addr) : Prop := ∀ sa ca, S = some (sa, ca) → a ≠ sa ∧ a ≠ ca
theorem nsrc_none {a : Addr} : nsrc none a := fun _ _ e => nomatch e
theorem SrcOk.no {G H : Hp} : SrcOk none G H := fun _ _ e => nomatch e
theorem SrcOk.isSome {S : Sx} {G H : Hp} (h : SrcOk S G H) {a : Addr} (n : ¬ nsrc S a) : (H a).isSome = true ∧ G a = none := by
  cases S with
  | none => exact absurd nsrc_none n
  | some p =>
    obtain ⟨sa, ca⟩ := p
    obtain ⟨g1, g2, _, ns, l, m, t, h1, h2, _⟩ := h sa ca rfl
    by_cases e1 : a = sa
    · subst e1; exact ⟨by rw [h1]; rfl, g1⟩
    · by_cases e2 : a = ca
      · subst e2; exact ⟨by rw [h2]; rfl, g2⟩
      · exact absurd (fun sa' ca' e => by cases e; exact ⟨e1, e2⟩) n
theorem SrcOk.keep {S : Sx} {G H G' H' : Hp} (h : SrcOk S G H) (k : ∀ a o, H a = some o → H' a = some o) (g : ∀ a, (H a).isSome = true → G' a = G a) : SrcOk S G' H' := fun sa ca e => by
  obtain ⟨g1, g2, ne, ns, l, m, t, h1, h2, r⟩ := h sa ca e
  exact ⟨by rw [g _ (by rw [h1]; rfl)]; exact g1, by rw [g _ (by rw [h2]; rfl)]; exact g2, ne, ns, l, m, t, k _ _ h1, k _ _ h2, r⟩

/-- from (G, H) on to (G', H'): what was there stands, but for the source; what is new in G' is new -/
structure Ext (S : Sx) (G H G' H' : Hp) : Prop where
  gg : Sub G G'
  gh : Sub G' H'
  kp : ∀ a o, H a = some o → nsrc S a → H' a = some o
  nw : ∀ a, (H a).isSome = true → G' a = G a
  src : SrcOk S G' H'
section
variable {S : Sx} {G H G' H' G'' H'' : Hp}
theorem Ext.refl (s : Sub G H) (h : SrcOk S G H) : Ext S G H G H := ⟨.refl G, s, fun _ _ e _ => e, fun _ _ => rfl, h⟩
theorem Ext.some (x : Ext S G H G' H') (h : SrcOk S G H) {a : Addr} (e : (H a).isSome = true) : (H' a).isSome = true := by
  by_cases n : nsrc S a
  · obtain ⟨o, q⟩ := Option.isSome_iff_exists.mp e
    rw [x.kp a o q n]; rfl
  · exact (x.src.isSome n).1
theorem Ext.trans (x : Ext S G H G' H') (h : SrcOk S G H) (y : Ext S G' H' G'' H'') : Ext S G H G'' H'' :=
  ⟨x.gg.trans y.gg, y.gh, fun a o e n => y.kp a o (x.kp a o e n) n, fun a e => (y.nw a (x.some h e)).trans (x.nw a e), y.src⟩
theorem Ext.fresh (x : Ext S G H G' H') (h : SrcOk S G H) {a : Addr} (e : H' a = none) : H a = none := by
  cases q : H a with
  | none => rfl
  | some o => have z := x.some h (a := a) (by rw [q]; rfl); rw [e] at z; cases z
/-- a new object, to be read -/
theorem Ext.new (s : Sub G H) (h : SrcOk S G H) {p : Addr} {o : HO} (n : H p = none) : Ext S G H (upd G p o) (upd H p o) := by
  have gn : G p = none := by
    cases q : G p with
    | none => rfl
    | some u => rw [s _ _ q] at n; cases n
  refine ⟨.nw gn, .up2 s, fun a u e _ => by rw [upd_ne (ne_of_none e n)]; exact e, fun a e => ?_, h.keep (fun a u e => by rw [upd_ne (ne_of_none e n)]; exact e) fun a e => ?_⟩
  all_goals
    have : a ≠ p := by rintro rfl; rw [n] at e; cases e
    rw [upd_ne this]
/-- a new object of one's own -/
theorem Ext.newO (s : Sub G H) (h : SrcOk S G H) {p : Addr} {o : HO} (n : H p = none) : Ext S G H G (upd H p o) := by
  have gn : G p = none := by
    cases q : G p with
    | none => rfl
    | some u => rw [s _ _ q] at n; cases n
  exact ⟨.refl G, s.upr gn, fun a u e _ => by rw [upd_ne (ne_of_none e n)]; exact e, fun a e => rfl, h.keep (fun a u e => by rw [upd_ne (ne_of_none e n)]; exact e) fun a e => rfl⟩
/-- what is new is put to what is read -/
theorem Ext.freeze (x : Ext S G H G' H') (h : SrcOk S G H) {a : Addr} {o : HO} (n : H a = none) (e : H' a = Option.some o) (g : G' a = none) : Ext S G H (upd G' a o) H' := by
  refine ⟨x.gg.trans (.nw g), fun b u q => ?_, x.kp, fun b q => ?_, fun sa ca z => ?_⟩
  · by_cases hb : b = a
    · subst hb; rw [upd_same] at q; rw [e]; exact q
    · rw [upd_ne hb] at q; exact x.gh b u q
  · rw [upd_ne (by rintro rfl; rw [n] at q; cases q)]; exact x.nw b q
  · obtain ⟨g1, g2, w⟩ := x.src sa ca z
    obtain ⟨_, _, w2⟩ := h sa ca z
    obtain ⟨ne, ns, l, m, t, h1, h2, _⟩ := w2
    exact ⟨by rw [upd_ne (ne_of_none h1 n)]; exact g1, by rw [upd_ne (ne_of_none h2 n)]; exact g2, w⟩
end

/-! ### slots -/
inductive Sl where
  | un | sh (d : PyData) | ow (d : PyData) | src
abbrev Env := List Sl
def SlotE (K : PySem.W.Frag) (G : Hp) (S : Sx) (x : Option (Option V)) : Sl → Prop
  | .un => True
  | .sh d => ∃ v, x = some (some v) ∧ R K G v d
  | .ow d => ∃ v, x = some (some v) ∧ R K G v d
  | .src => ∃ sa ca, S = some (sa, ca) ∧ x = some (some (.ref sa))
/-- the slots that an expression names, as it reads them -/
structure StE (K : PySem.W.Frag) (S : Sx) (G H : Hp) (σ : L2.St) (env : Env) (vs : List Nat) : Prop where
  sub : Sub G H
  src : SrcOk S G H
  at_ : ∀ i ∈ vs, ∀ s, env[i]? = some s → SlotE K G S σ[i]? s
  len : σ.length = env.length
theorem SlotE.mono {K : PySem.W.Frag} {G G' : Hp} {S : Sx} {x : Option (Option V)} (s : Sub G G') : ∀ {l : Sl}, SlotE K G S x l → SlotE K G' S x l
  | .un, _ => trivial
  | .sh _, ⟨v, e, r⟩ => ⟨v, e, r.mono s⟩
  | .ow _, ⟨v, e, r⟩ => ⟨v, e, r.mono s⟩
  | .src, h => h
section
variable {K : PySem.W.Frag} {S : Sx} {G H G' H' : Hp} {σ : L2.St} {env : Env} {vs ws : List Nat}
theorem StE.ext (h : StE K S G H σ env vs) (x : Ext S G H G' H') : StE K S G' H' σ env vs := ⟨x.gh, x.src, fun i hi s e => (h.at_ i hi s e).mono x.gg, h.len⟩
theorem StE.less (h : StE K S G H σ env vs) (k : ∀ i ∈ ws, i ∈ vs) : StE K S G H σ env ws := ⟨h.sub, h.src, fun i hi => h.at_ i (k i hi), h.len⟩
theorem StE.refl (h : StE K S G H σ env vs) : Ext S G H G H := .refl h.sub h.src
end

/-- what an expression gives: a part fr tells whether it is new and of nobody else's -/
def RF (K : PySem.W.Frag) (G' H H' : Hp) (fr : Bool) (v : V) (d : PyData) : Prop :=
  if fr = true then Own K G' H' v d ∧ (∀ a, v = .ref a → H a = none) else R K G' v d
def Post (K : PySem.W.Frag) (S : Sx) (G H : Hp) (Q : Bool → PyData → Prop) (v : V) (H' : Hp) : Prop :=
  ∃ G' fr d, Ext S G H G' H' ∧ RF K G' H H' fr v d ∧ Q fr d
section
variable {K : PySem.W.Frag} {S : Sx} {G H G1 H1 G' H' : Hp} {Q Q' : Bool → PyData → Prop} {v : V}
theorem Post.frz (h : Post K S G H Q v H') (so : SrcOk S G H) : ∃ G' fr d, Ext S G H G' H' ∧ R K G' v d ∧ Q fr d := by
  obtain ⟨G', fr, d, x, r, q⟩ := h
  cases fr with
  | false => exact ⟨G', _, d, x, by simpa [RF] using r, q⟩
  | true =>
    simp only [RF, if_true] at r
    obtain ⟨r, n⟩ := r
    obtain ⟨a, o, e, ho, hg, k⟩ := r.at
    exact ⟨upd G' a o, _, d, x.freeze so (n a e) ho hg, k _ (.nw hg) upd_same, q⟩
theorem Post.imp (h : Post K S G H Q v H') (k : ∀ fr d, Q fr d → Q' fr d) : Post K S G H Q' v H' := by
  obtain ⟨G', fr, d, x, r, q⟩ := h
  exact ⟨G', fr, d, x, r, k _ _ q⟩
theorem Post.of (x : Ext S G H G' H') {d : PyData} (r : R K G' v d) (q : Q false d) : Post K S G H Q v H' := ⟨G', false, d, x, by simpa [RF] using r, q⟩
theorem Post.here (s : Sub G H) (so : SrcOk S G H) {d : PyData} (r : R K G v d) (q : Q false d) : Post K S G H Q v H := .of (.refl s so) r q
/-- behind a step -/
theorem Post.step (x : Ext S G H G1 H1) (so : SrcOk S G H) (h : Post K S G1 H1 Q v H') : Post K S G H Q v H' := by
  obtain ⟨G', fr, d, y, r, q⟩ := h
  refine ⟨G', fr, d, x.trans so y, ?_, q⟩
  cases fr with
  | false => exact r
  | true =>
    simp only [RF, if_true] at r ⊢
    exact ⟨r.1, fun a e => x.fresh so (r.2 a e)⟩
/-- a new list -/
theorem Post.newL (s : Sub G H) (so : SrcOk S G H) {p : Addr} {xs : List V} {ds : List PyData} (n : H p = none) (r : RAll K G xs ds) (q : Q true (.list ds)) : Post K S G H Q (.ref p) (upd H p (.lst xs)) := by
  refine ⟨G, true, _, .newO s so n, ?_, q⟩
  simp only [RF, if_true]
  refine ⟨⟨p, xs, rfl, upd_same, ?_, r⟩, fun a e => by cases e; exact n⟩
  cases z : G p with
  | none => rfl
  | some u => rw [s _ _ z] at n; cases n
/-- a new tuple -/
theorem Post.newT (s : Sub G H) (so : SrcOk S G H) {p : Addr} {o : Obj} {xs : List V} {ds : List PyData} (n : H p = none) (hd : o.dict = none) (r : RAll K G xs ds) (q : Q false (.tuple ds)) : Post K S G H Q (.ref p) (upd H p (.frz o (.tup xs))) := by
  have x : Ext S G H (upd G p (.frz o (.tup xs))) (upd H p (.frz o (.tup xs))) := .new s so n
  exact .of x (.tup upd_same hd (r.mono x.gg)) q
end

end DL
set_option Elab.async false
set_option linter.all false
set_option maxRecDepth 100000
set_option maxHeartbeats 2000000
/-! Dg: promises of defs where nothing is being shown (no repr under way): calls, the rule for a def, the law's call. -/
namespace DL
open PySem PySem.Spec PyProof.Rows L2

/-- no repr is under way -/
def Calm (A : Around) : Prop := A.guards = some []
theorem Calm.in1 {A : Around} (c : Calm A) : Calm A.in1 := c
theorem Calm.deeper {A : Around} (c : Calm A) (env : PySem.Env) : Calm (A.deeper env) := c
/-- a def's promise, of calls where no repr is under way -/
structure FnG (P : Program) (w : World) (K : PySem.W.Frag) (mg : Str → Option Value) (B : Heap) (k : Nat) (f : Addr) (fd : FuncData) (ps : List Str) (sp : Sp) : Prop where
  len : ∀ xs H Q E, sp xs H Q E → xs.length = ps.length
  run : ∀ (A : Around) (fr : List PySem.Env) (t : Shared) (H : Hp) (ar : Args) (ys : List Value) (xs : List V) (Q : VK) (E : XK),
    Room k A → Calm A → Env0 P w K mg B A fr t H → BindsTo t fd ar (ps.zip ys) → Vals xs ys → sp xs H Q E →
      codeAny (model P w) A (.call (.ref f) ar) (CR (L2.CX P w) fr P w H t Q E) t
section
variable {P : Program} {w : World} {K : PySem.W.Frag} {mg : Str → Option Value} {B : Heap} {j k : Nat} {f : Addr} {fd : FuncData} {ps : List Str} {sp sp' : Sp}
theorem FnG.of (F : FnOk P w K mg B (L2.CX P w) k f fd ps sp) : FnG P w K mg B k f fd ps sp :=
  ⟨F.len, fun A fr t H ar ys xs Q E hr _ e b v h => F.run A fr t H ar ys xs Q E hr e b v h⟩
theorem FnG.mono (F : FnG P w K mg B j f fd ps sp) (h : j ≤ k) : FnG P w K mg B k f fd ps sp :=
  ⟨F.len, fun A fr t H ar ys xs Q E hr => F.run A fr t H ar ys xs Q E (hr.mono h)⟩
theorem FnG.imp (F : FnG P w K mg B k f fd ps sp) (h : ∀ xs H Q E, sp' xs H Q E → sp xs H Q E) : FnG P w K mg B k f fd ps sp' :=
  ⟨fun xs H Q E q => F.len xs H Q E (h _ _ _ _ q), fun A fr t H ar ys xs Q E hr c e b v q => F.run A fr t H ar ys xs Q E hr c e b v (h _ _ _ _ q)⟩
end
section
variable {X : Cx} {k : Nat} {f : Addr} {fd : FuncData} {ps : List Str} {sp : Sp} {E : XK} {x : Str} {p pos : Pos} {e : Expr} {es : List Expr} {t : TA}
theorem call_g {pins : List (Addr × Obj)} {σ : L2.St} {H : Hp} {s : Shared} {Q : VK} {ys : List Value} {xs : List V} (F : FnG X.prog X.w X.K X.mg X.base k f fd ps sp) (hr : Room k X.A) (hc : Calm X.A)
    (hb : L2.Binds X.K fd ps []) (hx : Passes (L2.CX X.prog X.w) X E) (I : Inv X pins σ H s) (r : Vals xs ys) (h : sp xs H Q E) :
    wpAny (model X.prog X.w) X.A (call (.ref f) ys) (EP X pins σ Q) X.xe s := by
  have el : (ys ++ []).length = ps.length := by rw [List.append_nil, ← r.length]; exact F.len _ _ _ _ h
  have bt := hb s ys I.kIn el
  rw [List.append_nil] at bt
  refine wpAny_call (codeAny_mono (F.run X.A X.stack s H ⟨ys, []⟩ ys xs Q E hr hc I.env0 bt r h) ?_)
  intro out s' got
  match out, got with
  | .error z, got => exact hx pins σ H s z s' I got
  | .ok (.ret z), got => exact I.after got
theorem pe_callG (F : FnG X.prog X.w X.K X.mg X.base k f fd ps sp) (hr : Room k X.A) (hc : Calm X.A) (hg : Gl X x) (hm : X.mg x = some (.ref f)) (hk : PySem.W.keepIn X.K (.ref f) = true)
    (hb : L2.Binds X.K fd ps []) (hx : Passes (L2.CX X.prog X.w) X E) (ha : PA X (e :: es) t) (hdb : (x == ("__debug__" : Str)) = false)
    (he : starEach (e :: es) X.env = (false, eval e X.env) :: starEach es X.env) (hpl : (backTo pos (starEach es X.env)).any (·.1) = false) :
    PE X (.Call (.Name x p) (e :: es) [] pos) (tCall sp [] E t) := by
  constructor
  intro pins s σ H Q I h
  refine wpAny_Call_Name_kw (ld_glob I hg hm (PySem.W.callWith_K I.ok.mod.kin hk (thn (ha.run pos pins s σ H _ I h) ?_) he hpl) hdb)
  rintro ys s1 ⟨xs, H1, I1, r, q⟩
  exact ⟨I1.kIn, call_g F hr hc hb hx I1 r (by simpa using q)⟩
end
/-- the rule for a def -/
theorem fn_g {P : Program} {w : World} {K : PySem.W.Frag} {mg : Str → Option Value} {B : Heap} {x qual : Str} {params : Arguments} {body : List Stmt} {scope : Scope} {dvs : List V} {kws : List (Str × V)} {f : Addr} {fd : FuncData}
    {N ps : List Str} {k : Nat} {sp : Sp} (F : FunD K x qual params body scope dvs kws f fd) (S : FnScope N ps scope) (len : ∀ xs H Q E, sp xs H Q E → xs.length = ps.length)
    (go : ∀ (cdv : Value) (A : Around) (fr : List PySem.Env) (t : Shared) (H : Hp) (xs : List V) (Q : VK) (E : XK), Room k (A.deeper (envOfC qual scope t.heap.objs.size f cdv)) → Calm A → sp xs H Q E →
      ∃ T, PSs (cxOf (L2.CX P w) P w K mg B N qual scope f cdv A fr t H E) body T ∧ T { nx := fun _ G => Q .non G, rt := Q } (L2.start N xs) H) : FnG P w K mg B (k + 1) f fd ps sp := by
  obtain ⟨oc, od, dV, kV, doc, pm, an, cdv, ct, osl, efd, lk, hcd, -, -⟩ := F.ex
  subst efd
  constructor
  · exact len
  intro A fr t H ar ys xs Q E room calm e0 hb vr want
  have els := len _ _ _ _ want
  have inK : K.In t.heap := e0.mod.kin.keeps fun c u ec => (e0.bs c u ec).1
  have nl : t.heap.NoLimit := e0.mod.nolimit.keeps fun c u ec => (e0.bs c u ec).1
  have knd : ∀ y ∈ ps.zip ys, scope.names.lookup y.1 = some .local ∨ (scope.names.lookup y.1 = some .cell ∧ ((cellsFrom (t.heap.objs.size + 1) scope.names []).lookup y.1).isSome = true) := by
    rintro ⟨n, v⟩ hy
    rcases S.par n (List.of_mem_zip hy).1 with loc | cel
    · exact Or.inl loc
    · exact Or.inr ⟨cel, PySem.W.cellsFrom_some _ _ _ (Or.inl cel)⟩
  refine codeAny_call_function room.depth (inK _ _ lk) rfl S.co S.gen rfl (PySem.W.codeRec_of inK hcd) (hb _ _ _ _ ?_)
  refine wpAny_newFunctionEnv_cells S.kind knd ?_
  intro env he t1 hx
  subst he
  refine ⟨nl.keeps hx.toInCall.keep, codeAny_func ?_⟩
  obtain ⟨T, hT, hq⟩ := go cdv A fr t H xs Q E (room.deeper _) calm want
  have inv0 : Inv (cxOf (L2.CX P w) P w K mg B N qual scope f cdv A fr t H E) [] (L2.start N xs) H t1 := inv_start S room.hd e0 els vr hx
  refine wpAny_mono (hT.run [] t1 (L2.start N xs) H _ inv0 hq) ?_ (fun z t' hz => hz)
  intro fl t' got
  match fl, got with
  | .ret u, ⟨v, σ', G, J, rv, q⟩ => exact ⟨v, G, J.os, J.bare, J.base, J.hok, rv, q⟩
  | .next, ⟨σ', G, J, q⟩ => exact ⟨.non, G, J.os, J.bare, J.base, J.hok, rfl, q⟩
  | .brk, ⟨_, _, _, q⟩ => exact q.elim
  | .cont, ⟨_, _, _, q⟩ => exact q.elim

/-- the table of modules is a dict -/
def SysD (h : Heap) : Prop := ∃ o es ep, h.get? sysModules = some o ∧ o.cls = .type "dict" ∧ o.data = .dict es ep
/-! ### the law's call -/
section
variable {P : Program} {w : World} {K : PySem.W.Frag} {mg mb : Str → Option Value} {k : Nat} {fa a : Addr} {fd : FuncData} {x : Str} {sp : Sp} {t : Shared} {vs : List Value} {ns : List Int}
abbrev Wanted (t : Shared) (out : Result) (t' : Shared) : Prop := out = .ok (.ret (.bool true)) ∧ OldK t.heap t'.heap ∧ t'.os = t.os ∧ AllBare t'.gens
abbrev scriptO (vs : List Value) : Obj := { cls := .type "list", data := .seq vs.toArray }
theorem lawcore (KX : K.In t.heap) (hns : t.heap.Ns mainGlobals mg) (hb : t.heap.Ns builtinsNs mb) (hbb : ∀ y : Str, y ≠ "__name__" → mb y = bootBuiltins y) (nl : t.heap.NoLimit) (hg : t.gens = #[])
    (ha : t.heap.get? a = some (scriptO vs)) (room : Room k callerA)
    (sys : SysD t.heap) (F : ∀ B : Heap, K.In B → B.Ns mainGlobals mg → SysD B → FnG P w K mg B k fa fd [x] sp) (bind : ∀ (s : Shared) (u : Value), BindsTo s fd ⟨[u], []⟩ [(x, u)])
    {H : Hp} (only : Only H) (ok : HOk P w H t.heap) (only_a : ∀ b, H b ≠ none → b = a) (notK : H a ≠ none → K.lookup a = none) (want : sp [.ref a] H (fun v _ => v = .bl true) fun _ _ _ => False) :
    codeAny (model P w) callerA (.call (.ref fa) ⟨[.ref a], []⟩) (Wanted t) t := by
  have atA : ∀ {b : Addr} {u : HO}, H b = some u → b = a := fun {b u} e => only_a b (by rw [e]; exact fun z => nomatch z)
  have dictFree : ∀ {b : Addr} {o : Obj} {es : Array DictEntry} {ep : Nat}, t.heap.get? b = some o → o.data = .dict es ep → H b = none := by
    intro b o es ep e d
    cases hH : H b with
    | none => rfl
    | some u =>
      have := atA hH
      subst this
      rw [ha] at e
      cases e
      cases (show Data.seq vs.toArray _ = Data.dict es ep from d)
  have nsOf : ∀ {b : Addr} {m : Str → Option Value}, t.heap.Ns b m → (hidT t.heap H).Ns b m := by
    rintro b m ⟨o, es, ep, e, d, r⟩
    exact ⟨o, es, ep, hidT_get e (dictFree e d), d, r⟩
  have kB : K.In (hidT t.heap H) := by
    intro b o e
    refine hidT_get (KX b o e) ?_
    cases hH : H b with
    | none => rfl
    | some u =>
      have := atA hH
      subst this
      rw [notK (by rw [hH]; exact fun z => nomatch z)] at e
      cases e
  obtain ⟨mc, c1, c2⟩ := nl
  have md : Mod K mg (hidT t.heap H) := ⟨kB, nsOf hns, ⟨mb, nsOf hb, hbb⟩, ⟨mc, nsOf c1, c2⟩⟩
  have none0 : ∀ {c : Addr}, c ∉ ([] : List Addr) := fun {c} z => nomatch z
  have e0 : Env0 P w K mg (hidT t.heap H) callerA [] t H :=
    ⟨rfl, md, fun b o e => of_hidT e, Nat.le_of_eq (hidT_size _ _), trivial, fun c hc => absurd (show c ∈ ([] : List Addr) from hc) none0, ok, .of_eq hg⟩
  obtain ⟨os, es, ep, q1, q2, q3⟩ := sys
  have main := (F _ kB (nsOf hns) ⟨os, es, ep, hidT_get q1 (dictFree q1 q3), q2, q3⟩).run callerA [] t H ⟨[.ref a], []⟩ [.ref a] [.ref a] _ _ room rfl e0 (bind t (.ref a)) (.cons rfl .nil) want
  refine codeAny_mono main ?_
  intro out t' got
  match out, got with
  | .error z, got =>
    obtain ⟨_, _, _, _, _, _, _, _, _, _, _, _, bad⟩ := got
    exact bad.elim
  | .ok (.ret u), got =>
    obtain ⟨v, G, os, bare, un, ok', rv, hv⟩ := got
    have hv : v = V.bl true := hv
    subst hv
    have : u = Value.bool true := rv
    subst this
    refine ⟨rfl, OldK.of_keep ?_, os, bare⟩
    intro b o e
    cases hH : H b with
    | none => exact un.keep b o e hH (fun z => none0 (show b ∈ ([] : List Addr) from z)) (by simp)
    | some u =>
      rcases only b with z | ⟨ob, zs, z⟩
      · rw [hH] at z; cases z
      · obtain ⟨h1, _⟩ := ok b _ z
        obtain ⟨h2, _⟩ := ok' b _ (un.frzs b ob _ z)
        rw [e] at h1
        cases h1
        exact h2
theorem lawcall (KX : K.In t.heap) (hns : t.heap.Ns mainGlobals mg) (hb : t.heap.Ns builtinsNs mb) (hbb : ∀ y : Str, y ≠ "__name__" → mb y = bootBuiltins y) (nl : t.heap.NoLimit) (hg : t.gens = #[])
    (ha : t.heap.get? a = some (scriptO vs)) (hin : IntsAre vs ns) (short : ns.length ≤ sizeLine) (room : Room k callerA)
    (sys : SysD t.heap) (F : ∀ B : Heap, K.In B → B.Ns mainGlobals mg → SysD B → FnG P w K mg B k fa fd [x] sp) (bind : ∀ (s : Shared) (u : Value), BindsTo s fd ⟨[u], []⟩ [(x, u)])
    (want : ∀ H : Hp, Only H → SqL K H a (ns.map V.int) → sp [.ref a] H (fun v _ => v = .bl true) fun _ _ _ => False) :
    codeAny (model P w) callerA (.call (.ref fa) ⟨[.ref a], []⟩) (Wanted t) t := by
  have el := hin.length
  have vr := vals_ints hin
  cases hk : K.lookup a with
  | some o =>
    have e := KX a o hk
    rw [ha] at e
    cases e
    have sq : SqL K (fun _ => none) a (ns.map V.int) := .inr ⟨_, vs.toArray, _, hk, rfl, rfl, rfl, by rw [List.size_toArray, el]; exact short, by simpa using vr⟩
    exact lawcore KX hns hb hbb nl hg ha room sys F bind (fun _ => .inl rfl) (fun b u z => nomatch (show (none : Option HO) = some u from z)) (fun b z => absurd rfl z) (fun z => absurd rfl z) (want _ (fun _ => .inl rfl) sq)
  | none =>
    let H : Hp := fun b => if b = a then some (.frz (scriptO vs) (.lst (ns.map V.int))) else none
    have at_ : H a = some (.frz (scriptO vs) (.lst (ns.map V.int))) := if_pos rfl
    have off : ∀ {b : Addr}, b ≠ a → H b = none := fun {b} hb => if_neg hb
    have only : Only H := fun b => by
      by_cases h : b = a
      · subst h; exact .inr ⟨_, _, at_⟩
      · exact .inl (off h)
    refine lawcore KX hns hb hbb nl hg ha room sys F bind only (fun b u z => ?_) (fun b z => ?_) (fun _ => hk) (want H only (.inl (.inr ⟨_, at_⟩)))
    · by_cases h : b = a
      · subst h
        rw [at_] at z
        cases z
        exact ⟨ha, by rw [List.length_map]; exact short, vs, _, vr, ha⟩
      · rw [off h] at z
        cases z
    · by_cases h : b = a
      · exact h
      · exact absurd (off h) z
end
/-- a law over a head by facts, with the script's bits -/
theorem law_end {l : PySem.W.OpenLaw} {n k : Nat} {q : Program} {loose : List Str} {XP : (Str → Option Value) → Heap → Prop} {YP : World → Heap → Prop} {d : DefRec} {x : Str}
    (hn : l.most = some n) (hn2 : n ≤ sizeLine) (hdf : d.params.defaults = []) (hr : Room k callerA)
    (F : ∀ (w : World) (mg : Str → Option Value) (fa : Addr) (h : Heap), YP w h → h.Ns mainGlobals mg → mg d.name = some (.ref fa) →
      ∃ (K : PySem.W.Frag) (fd : FuncData) (sp : Sp), K.In h ∧ (∀ (s : Shared) (u : Value), BindsTo s fd ⟨[u], []⟩ [(x, u)]) ∧
        (∀ (H : Hp) (a : Addr) (ns : List Int), ns.length ≤ n → (∀ i ∈ ns, Builtin.Int.intBits i ≤ 1048576) → Only H → SqL K H a (ns.map V.int) → sp [.ref a] H (fun v _ => v = .bl true) fun _ _ _ => False) ∧
        ∀ B : Heap, K.In B → B.Ns mainGlobals mg → SysD B → FnG l.prog w K mg B k fa fd [x] sp) (hsys : ∀ w h, YP w h → SysD h) :
    PySem.W.WalkO q loose XP YP l.row.toRowW d [] (fun f vs => PySem.call f vs) := by
  refine Att.attach_callB hn hdf ?_
  intro w s₀ s₁ mg mb fa o pm cd doc a vs ns G Y ho hd hcd hmg hobj hints hlen hbits hg
  obtain ⟨K, fd, sp, KX, hb, want, hF⟩ := F w mg fa _ Y G.T.g hmg
  exact lawcall KX G.T.g G.T.b G.T.builtins G.T.nolimit hg hobj hints (Nat.le_trans hlen hn2) hr (hsys _ _ Y) hF hb fun H only sq => want H a ns hlen hbits only sq
end DL
set_option Elab.async false
set_option linter.all false
set_option maxRecDepth 100000
set_option maxHeartbeats 2000000
/-! D1: small trees and their reading in plain data. -/
namespace DL
open PySem PySem.Spec PyProof.Rows L2

inductive Bop where
  | add | sub | mul | fdiv | mod | pow | shl | shr | band | bor | bxor
inductive Cop where
  | eq | ne | lt | le | gt | ge | isnt (y : Bool) | in_ (y : Bool)
inductive Bi where
  | len | abs | max | min | sum | sorted | list | tuple | int | repr | all | any
inductive Ty where
  | tup | int | bool | str | list | dict
inductive Mt where
  | bits | index | get | items | keys | values | count
mutual
inductive Tg where
  | nm (i : Nat) | tp (ts : Tgs)
inductive Tgs where
  | nil | cons (t : Tg) (r : Tgs)
end
mutual
inductive Ex where
  | var (i : Nat) | lit (d : PyData)
  | tup (es : Exs) | lst (es : Exs)
  | bin (o : Bop) (a b : Ex) | neg (a : Ex)
  | cmp (o : Cop) (a b : Ex) | cmp2 (o p : Cop) (a b c : Ex)
  | and_ (a b : Ex) | or_ (a b : Ex) | not_ (a : Ex) | ite (t a b : Ex)
  | call (j : Nat) (es : Exs) | bi (b : Bi) (es : Exs) | mth (m : Mt) (o : Ex) (es : Exs)
  | ix (o i : Ex) | slc (o : Ex) (lo hi : Exo)
  | isa (e : Ex) (T : Ty) | rev (o : Ex) | dic0
  | comp (e : Ex) (tg : Tg) (it : It) (cs : Exs) (own : List Nat)
inductive Exo where
  | no | so (e : Ex)
inductive Exs where
  | nil | cons (e : Ex) (r : Exs)
inductive It where
  | seq (e : Ex) | range1 (e : Ex) | range2 (a b : Ex) | enum (e : Ex) | zip (a b : Ex) | zips (a b : Ex)
end
mutual
inductive Sm where
  | asg (tg : Tg) (e : Ex) | asx (tg : Tg) (i : Nat) (j : Ex) | par (is : List Nat) (es : Exs) | aug (i : Nat) (o : Bop) (e : Ex)
  | app (i : Nat) (e : Ex) | ext (i : Nat) (e : Ex) | setx (i : Nat) (k e : Ex) | augx (i : Nat) (j : Ex) (o : Bop) (e : Ex)
  | ite (t : Ex) (a b : Sms) | for_ (tg : Tg) (it : It) (b : Sms) | whl (t : Ex) (b : Sms)
  | ret (e : Ex) | retn | brk | cnt | pass | expr (e : Ex)
inductive Sms where
  | nil | cons (s : Sm) (r : Sms)
end

/-! ### which slots are named -/
mutual
def Ex.vs : Ex → List Nat
  | .var i => [i] | .lit _ => []
  | .tup es => es.vs | .lst es => es.vs
  | .bin _ a b => a.vs ++ b.vs | .neg a => a.vs
  | .cmp _ a b => a.vs ++ b.vs | .cmp2 _ _ a b c => a.vs ++ (b.vs ++ c.vs)
  | .and_ a b => a.vs ++ b.vs | .or_ a b => a.vs ++ b.vs | .not_ a => a.vs | .ite t a b => t.vs ++ (a.vs ++ b.vs)
  | .call _ es => es.vs | .bi _ es => es.vs | .mth _ o es => o.vs ++ es.vs
  | .ix o i => o.vs ++ i.vs | .slc o lo hi => o.vs ++ (lo.vs ++ hi.vs)
  | .isa e _ => e.vs | .rev o => o.vs | .dic0 => []
  | .comp e _ it cs _ => it.vs ++ (cs.vs ++ e.vs)
def Exo.vs : Exo → List Nat
  | .no => [] | .so e => e.vs
def Exs.vs : Exs → List Nat
  | .nil => [] | .cons e r => e.vs ++ r.vs
def It.vs : It → List Nat
  | .seq e => e.vs | .range1 e => e.vs | .range2 a b => a.vs ++ b.vs | .enum e => e.vs | .zip a b => a.vs ++ b.vs | .zips a b => a.vs ++ b.vs
end

/-! ### plain operations -/
def truth : PyData → Option Bool
  | .none => some false
  | .bool b => some b
  | .int i => some (i != 0)
  | .list xs => some !xs.isEmpty
  | .tuple xs => some !xs.isEmpty
  | _ => none
abbrev lim : Nat := 16000000
def BinP : Bop → PyData → PyData → (Bool → PyData → Prop) → Prop
  | .add, .int i, .int j, Q => Q false (.int (i + j))
  | .add, .str x, .str y, Q => x.length + y.length ≤ lim ∧ Q false (.str (x ++ y))
  | .add, .list x, .list y, Q => x.length + y.length ≤ lim ∧ Q true (.list (x ++ y))
  | .add, .tuple x, .tuple y, Q => x.length + y.length ≤ lim ∧ Q false (.tuple (x ++ y))
  | .sub, .int i, .int j, Q => Q false (.int (i - j))
  | .mul, .int i, .int j, Q => (CMulW i j ∨ CMul i j) ∧ Q false (.int (i * j))
  | .mul, .tuple x, .int k, Q => x ≠ [] ∧ 1 ≤ k ∧ k ≤ 1000 ∧ x.length ≤ 1000 ∧ Q false (.tuple (List.replicate k.toNat x).flatten)
  | .mul, .list x, .int k, Q => -(2 ^ 62) ≤ k ∧ k ≤ 2 ^ 62 ∧ x.length * k.toNat ≤ lim ∧ Q true (.list (List.replicate k.toNat x).flatten)
  | .fdiv, .int i, .int j, Q => CDivW i j ∧ Q false (.int (i / j))
  | .mod, .int i, .int j, Q => 0 < j ∧ Q false (.int (i % j))
  | .pow, .int i, .int j, Q => CPow i j ∧ Q false (.int (i ^ j.toNat))
  | .shl, .int i, .int j, Q => CShl i j ∧ Q false (.int (i * 2 ^ j.toNat))
  | .shr, .int i, .int j, Q => 0 ≤ j ∧ Q false (.int (i / 2 ^ j.toNat))
  | .band, .int i, .int j, Q => Q false (.int (Builtin.bitAnd i j))
  | .bor, .int i, .int j, Q => Q false (.int (Builtin.bitOr i j))
  | .bxor, .int i, .int j, Q => Q false (.int (Builtin.bitXor i j))
  | _, _, _, _ => False
def AugP : Bop → Int → Int → (Int → Prop) → Prop
  | .add, i, j, Q => Q (i + j)
  | .sub, i, j, Q => Q (i - j)
  | .mul, i, j, Q => CMul i j ∧ Q (i * j)
  | .fdiv, i, j, Q => CDivW i j ∧ Q (i / j)
  | .mod, i, j, Q => 0 < j ∧ Q (i % j)
  | .shl, i, j, Q => CShl i j ∧ Q (i * 2 ^ j.toNat)
  | .shr, i, j, Q => 0 ≤ j ∧ Q (i / 2 ^ j.toNat)
  | .band, i, j, Q => Q (Builtin.bitAnd i j)
  | .bor, i, j, Q => Q (Builtin.bitOr i j)
  | .bxor, i, j, Q => Q (Builtin.bitXor i j)
  | .pow, _, _, _ => False
def okD (d : PyData) : Prop := SeqAt.shaped d = true
/-! #### dicts: keys are ints and texts, or tuples of them -/
def atomK : PyData → Bool
  | .int _ => true | .str _ => true | _ => false
def tupK : PyData → Bool
  | .tuple xs => xs.all atomK | _ => false
def keyEqA : PyData → PyData → Bool
  | .int i, .int j => i == j | .str x, .str y => x == y | _, _ => false
def keyEqL : List PyData → List PyData → Bool
  | [], [] => true | x :: xs, y :: ys => keyEqA x y && keyEqL xs ys | _, _ => false
def keyEq : PyData → PyData → Bool
  | .int i, .int j => i == j | .str x, .str y => x == y | .tuple xs, .tuple ys => keyEqL xs ys | _, _ => false
def lookD (kvs : List (PyData × PyData)) (k : PyData) : Option PyData := (kvs.find? fun p => keyEq p.1 k).map (·.2)
def putD (kvs : List (PyData × PyData)) (k v : PyData) : List (PyData × PyData) :=
  if (kvs.any fun p => keyEq p.1 k) = true then kvs.map (fun p => if keyEq p.1 k = true then (p.1, v) else p) else kvs ++ [(k, v)]
/-- a key that may be asked for -/
def keyFor (_ : List (PyData × PyData)) (k : PyData) : Bool := atomK k
/-- a key that may be stored -/
def keyPut (_ : List (PyData × PyData)) (k : PyData) : Bool := atomK k
def CmpP : Cop → PyData → PyData → (Bool → Prop) → Prop
  | .eq, .int i, .int j, Q => Q (i == j)
  | .ne, .int i, .int j, Q => Q (!(i == j))
  | .eq, x, y, Q => okD x ∧ okD y ∧ Q (PyData.eqv x y)
  | .ne, x, y, Q => okD x ∧ okD y ∧ Q (!PyData.eqv x y)
  | .lt, .int i, .int j, Q => Q (decide (i < j))
  | .le, .int i, .int j, Q => Q (decide (i ≤ j))
  | .gt, .int i, .int j, Q => Q (decide (j < i))
  | .ge, .int i, .int j, Q => Q (decide (j ≤ i))
  | .isnt k, x, .none, Q => Q (match x with | .none => k | _ => !k)
  | .in_ k, x, .list ys, Q => okD x ∧ okD (.list ys) ∧ Q (if k = true then ys.any (fun z => PyData.eqv z x) else !ys.any (fun z => PyData.eqv z x))
  | .in_ k, x, .dict kvs, Q => keyFor kvs x = true ∧ Q (if k = true then (lookD kvs x).isSome else !(lookD kvs x).isSome)
  | .in_ k, x, .tuple ys, Q => okD x ∧ okD (.tuple ys) ∧ Q (if k = true then ys.any (fun z => PyData.eqv z x) else !ys.any (fun z => PyData.eqv z x))
  | _, _, _, _ => False
def allInts : List PyData → Option (List Int)
  | [] => some []
  | .int i :: r => (allInts r).map (i :: ·)
  | _ => none
def allBools : List PyData → Option (List Bool)
  | [] => some []
  | .bool i :: r => (allBools r).map (i :: ·)
  | _ => none
def maxI (n : Int) (ns : List Int) : Int := ns.foldl (fun a b => if b > a then b else a) n
def minI (n : Int) (ns : List Int) : Int := ns.foldl (fun a b => if b < a then b else a) n
/-- what may be shown -/
def okR (d : PyData) : Prop := d.showable = true ∧ d.shown.length ≤ sizeLine ∧ d.depth ≤ 60
/-- what may be put in order -/
def notNon : PyData → Bool
  | .none => false | _ => true
def alikeB (xs : List PyData) : Bool := (xs.all fun d => xs.all fun e => PySem.W.alike d e) && xs.all notNon
def okM (xs : List PyData) : Prop := alikeB xs = true ∧ PyData.depthAll xs ≤ 60
def isTup1 : PyData → Bool
  | .tuple (_ :: _) => true
  | _ => false
def isOth : PyData → Bool
  | .none => false | .tuple _ => false | _ => true
def okS (xs : List PyData) : Prop := okM xs ∧ (xs.all isTup1 || xs.all isOth) = true
def sortD (xs : List PyData) : List PyData := xs.mergeSort (PySem.W.dataLe false _root_.id)
def isaD : Ty → PyData → Bool
  | .tup, d => d.isTuple | .int, d => d.isInt | .bool, d => d.isBool | .str, d => d.isStr | .list, d => d.isList | .dict, d => d.isDict
def revD : PyData → (Bool → PyData → Prop) → Prop
  | .list xs, Q => Q true (.list xs.reverse)
  | .tuple xs, Q => Q false (.tuple xs.reverse)
  | _, _ => False
def BiP : Bi → List PyData → (Bool → PyData → Prop) → Prop
  | .len, [.list xs], Q => Q false (.int xs.length)
  | .len, [.tuple xs], Q => Q false (.int xs.length)
  | .len, [.str x], Q => x.length ≤ lim ∧ Q false (.int x.length)
  | .abs, [.int i], Q => Q false (.int (if i < 0 then -i else i))
  | .max, [.int i, .int j], Q => Q false (.int (if j > i then j else i))
  | .min, [.int i, .int j], Q => Q false (.int (if j < i then j else i))
  | .int, [.int i], Q => Q false (.int i)
  | .int, [.bool b], Q => Q false (.int (if b then 1 else 0))
  | .tuple, [.list xs], Q => Q false (.tuple xs)
  | .tuple, [.tuple xs], Q => Q false (.tuple xs)
  | .list, [.list xs], Q => Q true (.list xs)
  | .list, [.tuple xs], Q => Q true (.list xs)
  | .max, [.list (x :: xs)], Q => okM (x :: xs) ∧ Q false (PySem.W.maxD x xs)
  | .max, [.tuple (x :: xs)], Q => okM (x :: xs) ∧ Q false (PySem.W.maxD x xs)
  | .min, [.list (x :: xs)], Q => okM (x :: xs) ∧ Q false (PySem.W.minD x xs)
  | .min, [.tuple (x :: xs)], Q => okM (x :: xs) ∧ Q false (PySem.W.minD x xs)
  | .repr, [d], Q => okR d ∧ Q false (.str d.shown)
  | .all, [.list xs], Q => ∃ bs, allBools xs = some bs ∧ Q false (.bool (bs.all _root_.id))
  | .any, [.list xs], Q => ∃ bs, allBools xs = some bs ∧ Q false (.bool (bs.any _root_.id))
  | .sorted, [.list xs], Q => okS xs ∧ xs.length ≤ lim ∧ Q true (.list (sortD xs))
  | .sum, [.list xs], Q => ∃ ns, allInts xs = some ns ∧ Q false (.int ns.sum)
  | _, _, _ => False
/-- a receiver that has the method -/
def mtT : Mt → PyData → Bool
  | .bits, .int _ => true
  | .index, .list _ => true | .index, .tuple _ => true
  | .get, .dict _ => true
  | _, _ => false
/-- the first place of an equal one -/
def idxD (ds : List PyData) (x : PyData) : Option Nat := ds.findIdx? fun z => PyData.eqv z x
def MtP : Mt → PyData → List PyData → (Bool → PyData → Prop) → Prop
  | .bits, .int i, [], Q => Q false (.int (Builtin.Int.intBits i : Nat))
  | .index, .list ds, [x], Q => okD x ∧ okD (.list ds) ∧ ∃ n, idxD ds x = some n ∧ Q false (.int (n : Nat))
  | .index, .tuple ds, [x], Q => okD x ∧ okD (.list ds) ∧ ∃ n, idxD ds x = some n ∧ Q false (.int (n : Nat))
  | .get, .dict kvs, [k], Q => keyFor kvs k = true ∧ Q false ((lookD kvs k).getD .none)
  | .get, .dict kvs, [k, d], Q => keyFor kvs k = true ∧ Q false ((lookD kvs k).getD d)
  | _, _, _, _ => False
def IxP : PyData → PyData → (Bool → PyData → Prop) → Prop
  | .list xs, .int i, Q => ∃ d, atI xs i = some d ∧ Q false d
  | .tuple xs, .int i, Q => ∃ d, atI xs i = some d ∧ Q false d
  | .dict kvs, k, Q => keyFor kvs k = true ∧ ∃ d, lookD kvs k = some d ∧ Q false d
  | _, _, _ => False
def cutD (xs : List PyData) (lo hi : Option Int) : List PyData := (xs.drop (HT.sIx xs.length 0 lo)).take (HT.sIx xs.length xs.length hi - HT.sIx xs.length 0 lo)
def SlP : PyData → Option Int → Option Int → (Bool → PyData → Prop) → Prop
  | .list xs, lo, hi, Q => Q true (.list (cutD xs lo hi))
  | .tuple xs, lo, hi, Q => Q false (.tuple (cutD xs lo hi))
  | _, _, _, _ => False
/-- a comprehension's loop over known items -/
def foldC (step : PyData → List PyData → (List PyData → Prop) → Prop) : List PyData → List PyData → (List PyData → Prop) → Prop
  | [], acc, Q => Q acc
  | x :: xs, acc, Q => step x acc fun acc' => foldC step xs acc' Q
mutual
def Tg.bnd : Tg → PyData → Env → (Env → Prop) → Prop
  | .nm i, d, env, k => k (env.set i (.sh d))
  | .tp ts, .tuple ds, env, k => ts.bnd ds env k
  | .tp _, _, _, _ => False
def Tgs.bnd : Tgs → List PyData → Env → (Env → Prop) → Prop
  | .nil, [], env, k => k env
  | .cons t r, d :: ds, env, k => t.bnd d env fun env' => r.bnd ds env' k
  | _, _, _, _ => False
end
def wipeE : Env → List Nat → Env
  | env, [] => env
  | env, i :: r => (wipeE env r).set i .un
/-- the ints from a on, n of them -/
def intsD (a : Int) (n : Nat) : List PyData := (List.range n).map fun i => .int (a + (i : Nat))
def isInt (d : PyData) (Q : Int → Prop) : Prop := match d with
  | .int i => Q i
  | _ => False
def isSeq (d : PyData) (Q : List PyData → Prop) : Prop := match d with
  | .list xs => Q xs
  | .tuple xs => Q xs
  | _ => False
def isLst (d : PyData) (Q : List PyData → Prop) : Prop := match d with
  | .list xs => Q xs
  | _ => False
/-- two lists, two tuples -/
def two : PyData → PyData → (List PyData → List PyData → Prop) → Prop
  | .list xs, .list ys, Q => Q xs ys
  | .tuple xs, .tuple ys, Q => Q xs ys
  | .list xs, .tuple ys, Q => Q xs ys
  | .tuple xs, .list ys, Q => Q xs ys
  | _, _, _ => False
def enumD (xs : List PyData) : List PyData := (xs.zipIdx).map fun p => .tuple [.int (p.2 : Nat), p.1]
def zipD (xs ys : List PyData) : List PyData := List.zipWith (fun x y => .tuple [x, y]) xs ys
mutual
/-- no list, no dict within -/
def flat : PyData → Bool
  | .none => true | .bool _ => true | .int _ => true | .str _ => true
  | .tuple xs => flats xs
  | .list _ => false | .dict _ => false
def flats : List PyData → Bool
  | [] => true
  | x :: xs => flat x && flats xs
end
def leafy (fr : Bool) (d : PyData) : Bool := flat d || (fr && match d with
  | .list xs => flats xs
  | _ => false)
/-- what a def is worth: its arguments, what is wanted of what it gives, and of what it raises -/
abbrev Fs := List Sl → (Bool → PyData → Prop) → (Str → Prop) → Prop
section
variable (C : Nat → Fs)
mutual
def Ex.rd : Ex → (Str → Prop) → Env → (Bool → PyData → Prop) → Prop
  | .var i, _, env, Q => match env[i]? with
    | some (.sh d) => Q false d
    | some (.ow d) => Q false d
    | _ => False
  | .lit d, _, _, Q => Q false d
  | .tup es, E, env, Q => es.rd E env fun ds => ds.length ≤ lim ∧ Q false (.tuple ds)
  | .lst es, E, env, Q => es.rd E env fun ds => ds.length ≤ lim ∧ Q true (.list ds)
  | .bin o a b, E, env, Q => a.rd E env fun _ x => b.rd E env fun _ y => BinP o x y Q
  | .neg a, E, env, Q => a.rd E env fun _ x => isInt x fun i => Q false (.int (-i))
  | .cmp o a b, E, env, Q => a.rd E env fun _ x => b.rd E env fun _ y => CmpP o x y fun c => Q false (.bool c)
  | .cmp2 o p a b c, E, env, Q => a.rd E env fun _ x => b.rd E env fun _ y => CmpP o x y fun r => if r = true then c.rd E env fun _ z => CmpP p y z fun r' => Q false (.bool r') else Q false (.bool false)
  | .and_ a b, E, env, Q => a.rd E env fun f x => ∃ c, truth x = some c ∧ if c = true then b.rd E env Q else Q f x
  | .or_ a b, E, env, Q => a.rd E env fun f x => ∃ c, truth x = some c ∧ if c = true then Q f x else b.rd E env Q
  | .not_ a, E, env, Q => a.rd E env fun _ x => ∃ c, truth x = some c ∧ Q false (.bool !c)
  | .ite t a b, E, env, Q => t.rd E env fun _ x => ∃ c, truth x = some c ∧ if c = true then a.rd E env Q else b.rd E env Q
  | .call j es, E, env, Q => es.rda E env fun sl => C j sl Q E
  | .bi b es, E, env, Q => es.rd E env fun ds => BiP b ds Q
  | .mth m o es, E, env, Q => o.rd E env fun _ x => mtT m x = true ∧ es.rd E env fun ds => MtP m x ds Q
  | .ix o i, E, env, Q => o.rd E env fun _ x => i.rd E env fun _ y => IxP x y Q
  | .slc o lo hi, E, env, Q => o.rd E env fun _ x => lo.rd E env fun l => hi.rd E env fun h => SlP x l h Q
  | .isa e T, E, env, Q => e.rd E env fun _ d => Q false (.bool (isaD T d))
  | .rev o, E, env, Q => o.rd E env fun _ d => revD d Q
  | .dic0, _, _, Q => Q true (.dict [])
  | .comp e tg it cs own, E, env, Q => it.rd E env fun _ xs => xs.length ≤ lim ∧ foldC (fun x acc k => tg.bnd x (wipeE env own) fun env' => cs.rdt (fun _ => False) env' fun b =>
      if b = true then e.rd (fun _ => False) env' fun _ d => k (acc ++ [d]) else k acc) xs [] fun L => Q true (.list L)
def Exo.rd : Exo → (Str → Prop) → Env → (Option Int → Prop) → Prop
  | .no, _, _, Q => Q none
  | .so e, E, env, Q => e.rd E env fun _ d => isInt d fun i => Q (some i)
def Exs.rd : Exs → (Str → Prop) → Env → (List PyData → Prop) → Prop
  | .nil, _, _, Q => Q []
  | .cons e r, E, env, Q => e.rd E env fun _ d => r.rd E env fun ds => Q (d :: ds)
/-- tests, all of them -/
def Exs.rdt : Exs → (Str → Prop) → Env → (Bool → Prop) → Prop
  | .nil, _, _, Q => Q true
  | .cons e r, E, env, Q => e.rd E env fun _ d => ∃ c, truth d = some c ∧ if c = true then r.rdt E env Q else Q false
/-- arguments -/
def Exs.rda : Exs → (Str → Prop) → Env → (List Sl → Prop) → Prop
  | .nil, _, _, Q => Q []
  | .cons (.var i) r, E, env, Q => match env[i]? with
    | some (.sh d) => r.rda E env fun ds => Q (.sh d :: ds)
    | some (.ow d) => r.rda E env fun ds => Q (.sh d :: ds)
    | some .src => r.rda E env fun ds => Q (.src :: ds)
    | _ => False
  | .cons e r, E, env, Q => e.rd E env fun _ d => r.rda E env fun ds => Q (.sh d :: ds)
def It.rd : It → (Str → Prop) → Env → (Bool → List PyData → Prop) → Prop
  | .seq e, E, env, Q => e.rd E env fun f d => isSeq d (Q (leafy f d))
  | .range1 e, E, env, Q => e.rd E env fun _ d => isInt d fun n => -(2 ^ 60) ≤ n ∧ n ≤ 2 ^ 60 ∧ Q true (intsD 0 n.toNat)
  | .range2 a b, E, env, Q => a.rd E env fun _ d => b.rd E env fun _ d' => isInt d fun m => isInt d' fun n => -(2 ^ 60) ≤ m ∧ m ≤ 2 ^ 60 ∧ -(2 ^ 60) ≤ n ∧ n ≤ 2 ^ 60 ∧ Q true (intsD m (n - m).toNat)
  | .enum e, E, env, Q => e.rd E env fun _ d => isSeq d fun xs => Q false (enumD xs)
  | .zips a b, E, env, Q => a.rd E env fun _ d => b.rd E env fun _ d' => isSeq d fun xs => isSeq d' fun ys => xs.length = ys.length ∧ Q false (zipD xs ys)
  | .zip a b, E, env, Q => a.rd E env fun _ d => b.rd E env fun _ d' => two d d' fun xs ys => Q false (zipD xs ys)
end
end

/-! ### statements -/
def frz1 (vs : List Nat) (i : Nat) (s : Sl) : Sl := match s with
  | .ow d => if i ∈ vs then .sh d else .ow d
  | s => s
def frz (vs : List Nat) (env : Env) : Env := env.mapIdx (frz1 vs)
/-- the slots behind an expression that gave d -/
def aft (vs : List Nat) (fr : Bool) (d : PyData) (env : Env) : Env := if leafy fr d = true then env else frz vs env
def put (fr : Bool) (d : PyData) : Sl := if fr = true then .ow d else .sh d
structure Kp where
  nx : Env → Prop
  rt : Bool → PyData → Prop
  bk : Env → Prop := fun _ => False
  ct : Env → Prop := fun _ => False
  ex : Str → Prop := fun _ => False
/-- a loop over known items -/
def foldS (step : PyData → Env → (Env → Prop) → Prop) : List PyData → Env → (Env → Prop) → Prop
  | [], env, Q => Q env
  | x :: xs, env, Q => step x env fun env' => foldS step xs env' Q
def loopS (step : Env → (Env → Prop) → (Env → Prop) → Prop) : Nat → Env → (Env → Prop) → Prop
  | 0, _, _ => False
  | n + 1, env, Q => step env (fun env' => loopS step n env' Q) Q
def putAll : List Nat → List (Bool × PyData) → Env → Env
  | i :: is, p :: r, env => putAll is r (env.set i (put p.1 p.2))
  | _, _, env => env
/-- data at a slot -/
def slO (env : Env) (i : Nat) : Option PyData := match env[i]? with
  | some (.sh d) => some d
  | some (.ow d) => some d
  | _ => none
section
variable (C : Nat → Fs)
/-- expressions one behind another, what is new stays one's own -/
def Exs.rdf : Exs → (Str → Prop) → Env → (List (Bool × PyData) → Env → Prop) → Prop
  | .nil, _, env, Q => Q [] env
  | .cons e r, E, env, Q => e.rd C E env fun f d => r.rdf E (aft e.vs f d env) fun fs env' => Q ((f, d) :: fs) env'
mutual
def Sm.rd : Sm → Env → Kp → Prop
  | .asg (.nm i) e, env, k => e.rd C k.ex env fun fr d => k.nx ((aft e.vs fr d env).set i (put fr d))
  | .asg tg e, env, k => e.rd C k.ex env fun fr d => tg.bnd d (aft e.vs fr d env) k.nx
  | .asx tg i j, env, k => (slO env i).isSome = true ∧ j.rd C k.ex env fun fr y => ∃ d, slO (aft j.vs fr y env) i = some d ∧ IxP d y fun _ x => tg.bnd x (aft j.vs fr y env) k.nx
  | .par is es, env, k => es.rdf C k.ex env fun fs env' => fs.length = is.length ∧ k.nx (putAll is fs env')
  | .aug i o e, env, k => match env[i]? with
    | some (.sh (.int z)) => e.rd C k.ex env fun fr d => isInt d fun w => AugP o z w fun u => k.nx (env.set i (.sh (.int u)))
    | _ => False
  | .app i e, env, k => match env[i]? with
    | some (.ow (.list _)) => e.rd C k.ex env fun fr d => match (aft e.vs fr d env)[i]? with
      | some (.ow (.list xs)) => xs.length < lim ∧ k.nx ((aft e.vs fr d env).set i (.ow (.list (xs ++ [d]))))
      | _ => False
    | _ => False
  | .setx i j e, env, k => e.rd C k.ex env fun fr d => match (aft e.vs fr d env)[i]? with
    | some (.ow (.list xs)) => j.rd C k.ex (aft e.vs fr d env) fun _ y => isInt y fun z => ∃ n, ixN xs.length z = some n ∧ k.nx ((aft e.vs fr d env).set i (.ow (.list (xs.set n d))))
    | some (.ow (.dict kvs)) => j.rd C k.ex (aft e.vs fr d env) fun _ y => keyPut kvs y = true ∧ kvs.length < lim ∧ k.nx ((aft e.vs fr d env).set i (.ow (.dict (putD kvs y d))))
    | _ => False
  | .ext i e, env, k => match env[i]? with
    | some (.ow (.list _)) => e.rd C k.ex env fun fr d => match (aft e.vs fr d env)[i]? with
      | some (.ow (.list xs)) => isLst d fun ys => xs.length + ys.length ≤ lim ∧ k.nx ((aft e.vs fr d env).set i (.ow (.list (xs ++ ys))))
      | _ => False
    | _ => False
  | .augx i j o e, env, k => match env[i]? with
    | some (.ow (.list xs)) => j.rd C k.ex env fun _ y => isInt y fun z => ∃ n c, ixN xs.length z = some n ∧ xs[n]? = some (.int c) ∧ e.rd C k.ex env fun _ d => isInt d fun w => AugP o c w fun u => k.nx (env.set i (.ow (.list (xs.set n (.int u)))))
    | some (.ow (.dict kvs)) => j.rd C k.ex env fun _ y => keyPut kvs y = true ∧ ∃ c, lookD kvs y = some (.int c) ∧ kvs.length < lim ∧ e.rd C k.ex env fun _ d => isInt d fun w => AugP o c w fun u => k.nx (env.set i (.ow (.dict (putD kvs y (.int u)))))
    | _ => False
  | .ite t a b, env, k => t.rd C k.ex env fun fr d => ∃ c, truth d = some c ∧ if c = true then a.rd (aft t.vs fr d env) k else b.rd (aft t.vs fr d env) k
  | .for_ tg it b, env, k => it.rd C k.ex env fun lf xs => foldS (fun x env' q => tg.bnd x env' fun env2 => b.rd env2 { k with nx := q, ct := q, bk := k.nx }) xs (if lf = true then env else frz it.vs env) k.nx
  | .whl t b, env, k => ∃ n, loopS (fun env' q out => t.rd C k.ex env' fun fr d => ∃ c, truth d = some c ∧ if c = true then b.rd (aft t.vs fr d env') { k with nx := q, ct := q, bk := k.nx } else out (aft t.vs fr d env')) n env k.nx
  | .ret (.var i), env, k => match env[i]? with
    | some (.sh d) => k.rt false d
    | some (.ow d) => k.rt true d
    | _ => False
  | .ret e, env, k => e.rd C k.ex env k.rt
  | .retn, env, k => k.rt false .none
  | .brk, env, k => k.bk env
  | .cnt, env, k => k.ct env
  | .pass, env, k => k.nx env
  | .expr e, env, k => e.rd C k.ex env fun fr d => k.nx (aft e.vs fr d env)
def Sms.rd : Sms → Env → Kp → Prop
  | .nil, env, k => k.nx env
  | .cons s r, env, k => s.rd env { k with nx := fun env' => r.rd env' k }
end
end
end DL
set_option Elab.async false
set_option linter.all false
set_option maxRecDepth 100000
set_option maxHeartbeats 2000000
/-! Dm: t * 1 of a tuple. -/
namespace DL
open PySem PySem.Spec PyProof.Rows L2
theorem tuple_by1 (l : Addr) (items : Array Value) (n : Nat) (dd : Option Addr) (sl : Array (Option Value)) (u : Tok) :
    Meets (Builtin.«tuple.__mul__» ⟨[.ref l, .int 1 u], []⟩) (fun _ R s => s.heap.get? l = some { cls := .type "tuple", dict := dd, data := .seq items n, slots := sl } ∧ R (.ok (.ret (.ref l))) s) :=
  .of_wp fun prog w A R s h => by
    obtain ⟨hp, g, d, tk, os⟩ := s
    obtain ⟨hl, h⟩ := h
    have f1 := AutoSeq1.idx_int
    wp_walk using wpAny_loadPart' hl
    exact ⟨_, rfl, h⟩
def rRep1 (K : PySem.W.Frag) : R2 := fun x y H Q => ∃ l xs, x = .ref l ∧ y = .int 1 ∧ SqT K H l xs ∧ Q (.ref l) H
theorem op_rep1 {X : Cx} : OpR X (binaryOp .Mult) (rRep1 X.K) := by
  rintro pins s σ H x y v u Q I rx ry ⟨l, xs, rfl, rfl, hT, q⟩
  cases rx
  obtain ⟨t, rfl⟩ := ry
  obtain ⟨its, r, ⟨⟨cls, dd, data, sl⟩, ho, hc, n, hd⟩, hs⟩ := I.tuple hT
  simp only at hc hd
  subst hc hd
  refine wpAny_binaryOp_repeat_ref (T := "tuple") (U := "int") (by decide) ⟨_, ho, rfl⟩ (fun s' => typeIs_int s' 1 t) noFill_tuple_mul F.fills_int_mul F.slot_int_rmul repeat_tuple F.slot_int_index.lookup ?_
  refine call_meets F.slot_int_rmul (typeIs_int s 1 t) F.entry_int_rmul (F.args_int_rmul_2 _ _) (int_rmul_tuple 1 t l its.toArray n dd sl) ⟨ho, rfl, ⟨_, ho, rfl⟩, ?_⟩
  exact call_meets F.slot_tuple_mul ⟨_, ho, rfl⟩ F.entry_tuple_mul (F.args_tuple_mul_2 _ _) (tuple_by1 l its.toArray n dd sl t) ⟨ho, ⟨.ref l, H, I, rfl, q⟩⟩
end DL
set_option Elab.async false
set_option linter.all false
set_option maxRecDepth 100000
set_option maxHeartbeats 2000000
/-! Dt: tuples that are made, known to the object: no dict of their own. -/
namespace DL
open PySem PySem.Spec PyProof.Rows L2
section
variable {X : Cx} {K : PySem.W.Frag} {H : Hp} {a : Addr} {xs : List V}
theorem SqT.frz {o : Obj} (h : H a = some (.frz o (.tup xs))) : SqT K H a xs := .inl (.inr ⟨o, h⟩)
/-- a tuple is laid at the heap's end -/
theorem lay_tup {pins : List (Addr × Obj)} {σ : L2.St} {s : Shared} {Q : VK} {us : List Value} (I : Inv X pins σ H s) (r : Vals xs us) (z : xs.length ≤ sizeLine)
    (q : ∀ p o, H p = none → o.dict = none → Q (.ref p) (upd H p (.frz o (.tup xs)))) :
    EP X pins σ Q (.ref s.heap.objs.size) { s with heap := s.heap.push { cls := .type "tuple", data := .seq us.toArray } } := by
  have fresh := I.hok.fresh (Nat.le_refl s.heap.objs.size)
  have old : ∀ (c : Addr) (u : Obj), s.heap.get? c = some u → (s.heap.push { cls := .type "tuple", data := .seq us.toArray }).get? c = some u :=
    fun c u hc => Heap.get?_push_of_some _ hc
  have here : (s.heap.push { cls := .type "tuple", data := .seq us.toArray }).get? s.heap.objs.size = some { cls := .type "tuple", data := .seq us.toArray } := Heap.get?_push_size _ rfl
  refine ⟨.ref s.heap.objs.size, upd H s.heap.objs.size (.frz { cls := .type "tuple", data := .seq us.toArray } (.tup xs)), ?_, rfl, q _ _ fresh rfl⟩
  exact I.laid (t' := s.toks) old (Nat.le_refl _) ⟨here, z, us, r, _, here, rfl, _, rfl⟩
def tTupF (t : TA) : TE := fun σ H Q => t σ H fun xs H1 => xs.length ≤ sizeLine ∧ ∀ p o, H1 p = none → o.dict = none → Q (.ref p) (upd H1 p (.frz o (.tup xs)))
theorem pe_tupF {es : List Expr} {t : TA} {k : Nat} {pos : Pos} (h : PA X es t) : PE X (.Tuple es k pos) (tTupF t) := by
  constructor
  intro pins s σ H Q I hq
  refine wpAny_Tuple_spliced (thn (h.run pos pins s σ H _ I hq) ?_)
  rintro us s1 ⟨ys, H1, I1, r, z, q⟩
  refine ⟨?_, lay_tup I1 r z q⟩
  rw [← r.length]
  exact z
def rCatF (K : PySem.W.Frag) : R2 := fun x y H Q => ∃ a b xs ys, x = .ref a ∧ y = .ref b ∧ SqT K H a xs ∧ SqT K H b ys ∧ xs.length + ys.length ≤ sizeLine ∧
  (xs = [] → Q (.ref b) H) ∧ (ys = [] → Q (.ref a) H) ∧ ∀ p o, H p = none → o.dict = none → Q (.ref p) (upd H p (.frz o (.tup (xs ++ ys))))
theorem op_catF : OpR X (binaryOp .Add) (rCatF X.K) := by
  rintro pins s σ H x y v u Q I rx ry ⟨a, b, xs, ys, rfl, rfl, ha, hb, hz, q0, q1, q2⟩
  cases rx
  cases ry
  obtain ⟨us, r1, p1, -⟩ := I.tuple ha
  obtain ⟨ws, r2, p2, -⟩ := I.tuple hb
  rcases Classical.em (xs = []) with hx | hx
  · subst hx
    cases r1
    exact cat_tup0 p1 p2 ⟨.ref b, H, I, rfl, q0 rfl⟩
  · refine HT.cat_tup p1 p2 ?_ ?_ ?_ ?_
    · exact fun z => hx (r1.nil_iff.mp z)
    · exact fun z => ⟨.ref a, H, I, rfl, q1 (r2.nil_iff.mp z)⟩
    · exact fun _ => lay_tup I (r1.append r2) (by rw [List.length_append]; exact hz) q2
    · rw [← r1.length, ← r2.length]
      exact hz
def rSlF (K : PySem.W.Frag) : V → Option Int → Option Int → Hp → VK → Prop := fun x lo hi H Q => ∃ a xs, x = .ref a ∧ SqT K H a xs ∧
  (HT.sIx xs.length 0 lo = 0 ∧ HT.sIx xs.length xs.length hi = xs.length → Q (.ref a) H) ∧ ∀ p o, H p = none → o.dict = none → Q (.ref p) (upd H p (.frz o (.tup (cutV xs lo hi))))
theorem sl_tupF : SlR X (rSlF X.K) := by
  rintro pins s σ H x v vl vu lo hi sl Q I rx hs pl pu ⟨a, xs, rfl, hx, q1, q2⟩
  cases rx
  obtain ⟨us, r, ht, hz⟩ := I.tuple hx
  have len : us.toArray.size = xs.length := by
    have := r.length
    simp
    omega
  refine ⟨"tuple", _, PyProof.Rows.slot_tuple_getitem.lookup, ht.typeIs, ?_⟩
  rcases Classical.em (HT.sIx xs.length 0 lo = 0 ∧ HT.sIx xs.length xs.length hi = xs.length) with w | w
  · refine getItem_tuple_whole ht hs pl pu ?_ ⟨.ref a, H, I, rfl, q1 w⟩
    rw [len]
    exact w
  · refine HT.getItem_tuple_cut ht hs pl pu (by rw [len]; exact w) ?_ (by rw [len]; exact hz)
    rw [len]
    exact lay_tup I ((r.drop _).take _) (Nat.le_trans (cutV_length xs lo hi) hz) q2
def rTupF (K : PySem.W.Frag) : List V → Hp → VK → Prop := fun xs H Q => ∃ p ys, xs = [.ref p] ∧ ((SqL K H p ys ∧ ∀ l o, H l = none → o.dict = none → Q (.ref l) (upd H l (.frz o (.tup ys)))) ∨ (SqT K H p ys ∧ Q (.ref p) H))
theorem call_tupF : CallR X (.type "tuple") (rTupF X.K) := by
  rintro pins s σ H xs us Q I r ⟨p, ys, rfl, h⟩
  obtain ⟨u, rfl, rx⟩ := vals1 r
  cases rx
  rcases h with ⟨hq, q⟩ | ⟨hq, q⟩
  · obtain ⟨its, r', pl, hz⟩ := I.list hq
    have hlen := r'.length
    refine call_tuple_list pl.isList (fun h' kp => ?_) ?_
    · have I1 : Inv X pins σ H { s with heap := h' } := I.kept (t' := s.toks) kp
      exact lay_tup I1 r' hz q
    · simp only [List.size_toArray]
      omega
  · obtain ⟨its, _, pl, _⟩ := I.tuple hq
    exact call_tuple_same pl ⟨.ref p, H, I, rfl, q⟩
def rRepF (K : PySem.W.Frag) : R2 := fun x y H Q => ∃ (l : Addr) (k : Int) (xs : List V), x = .ref l ∧ y = .int k ∧ SqT K H l xs ∧ xs ≠ [] ∧ 2 ≤ k ∧ k ≤ 1000 ∧ xs.length ≤ 1000 ∧
  ∀ p o, H p = none → o.dict = none → Q (.ref p) (upd H p (.frz o (.tup (List.replicate k.toNat xs).flatten)))
theorem op_repF : OpR X (binaryOp .Mult) (rRepF X.K) := by
  rintro pins s σ H x y v u Q I rx ry ⟨l, k, xs, rfl, rfl, hT, hne, h1, h2, hz, q⟩
  cases rx
  obtain ⟨t, rfl⟩ := ry
  obtain ⟨us, r, ⟨⟨cls, dd, data, sl⟩, ho, hc, n, hd⟩, hs⟩ := I.tuple hT
  simp only at hc hd
  subst hc hd
  have le1 : us.length = xs.length := r.length.symm
  have sz : us.toArray.size = xs.length := by simpa using le1
  have ne : us.toArray.isEmpty = false := by
    cases us with
    | nil => exact absurd (List.eq_nil_of_length_eq_zero le1.symm) hne
    | cons a b => rfl
  have prod : k.toNat * xs.length ≤ 1000 * 1000 := Nat.mul_le_mul (by omega) hz
  have prodI : ((us.toArray.size : Nat) : Int) * k ≤ 1000000 := by
    rw [sz]
    exact Int.le_trans (Int.mul_le_mul_of_nonneg_right (show ((xs.length : Nat) : Int) ≤ 1000 by omega) (by omega)) (by omega)
  have fl : (List.replicate k.toNat us).flatten.length ≤ sizeLine := by
    rw [PyProof.Rows.lm_len_rep_flat, le1, sizeLine_eq]
    omega
  have e0 : (decide (k < -(2 ^ 63)) || decide (k ≥ 2 ^ 63)) = false := by simp; omega
  have e1 : (us.toArray.isEmpty || k == 1) = false := by rw [ne]; simp; omega
  have e2 : (decide (k ≤ 0) || us.toArray.isEmpty) = false := by rw [ne]; simp; omega
  have e4 : Builtin.Tuple.tupleTooMany (((us.toArray.size : Nat) : Int) * k) = false := by
    unfold Builtin.Tuple.tupleTooMany
    rw [sizeLine_eq]
    exact decide_eq_false (by omega)
  have inner := tuple_mulW l us.toArray n dd sl k t e0 e1 e2 (by omega) e4 (by rw [size_rep, List.size_toArray]; exact fl)
  refine wpAny_binaryOp_repeat_ref (T := "tuple") (U := "int") (by decide) ⟨_, ho, rfl⟩ (fun s' => typeIs_int s' k t)
    noFill_tuple_mul F.fills_int_mul F.slot_int_rmul repeat_tuple F.slot_int_index.lookup ?_
  refine call_meets F.slot_int_rmul (typeIs_int s k t) F.entry_int_rmul (F.args_int_rmul_2 _ _) (int_rmul_tuple k t l us.toArray n dd sl) ⟨ho, rfl, ⟨_, ho, rfl⟩, ?_⟩
  refine call_meets F.slot_tuple_mul ⟨_, ho, rfl⟩ F.entry_tuple_mul (F.args_tuple_mul_2 _ _) inner ⟨ho, ?_⟩
  rw [size_rep]
  exact lay_tup I (r.rep k.toNat) (by rw [PyProof.Rows.lm_len_rep_flat, sizeLine_eq]; omega) q
end
end DL
set_option Elab.async false
set_option linter.all false
set_option maxRecDepth 100000
set_option maxHeartbeats 2000000
/-! D2: the readings of D1 hold of the hand layer's. -/
namespace DL
open PySem PySem.Spec PyProof.Rows L2

theorem PE.imp {X : Cx} {e : Expr} {t t' : TE} (h : PE X e t) (k : ∀ σ H Q, t' σ H Q → t σ H Q) : PE X e t' := ⟨fun pins s σ H Q I q => h.run pins s σ H Q I (k σ H Q q)⟩
theorem PT.imp {X : Cx} {e : Expr} {t t' : TT} (h : PT X e t) (k : ∀ σ H Q, t' σ H Q → t σ H Q) : PT X e t' := ⟨fun pins s σ H Q I q => h.run pins s σ H Q I (k σ H Q q)⟩
theorem PW.imp {X : Cx} {e : Expr} {t t' : TT} (h : PW X e t) (k : ∀ σ H Q, t' σ H Q → t σ H Q) : PW X e t' := ⟨fun whole pins s σ H Q I q => h.run whole pins s σ H Q I (k σ H Q q)⟩
theorem PA.imp {X : Cx} {es : List Expr} {t t' : TA} (h : PA X es t) (k : ∀ σ H Q, t' σ H Q → t σ H Q) : PA X es t' := ⟨fun pos pins s σ H Q I q => h.run pos pins s σ H Q I (k σ H Q q)⟩
theorem PS.imp {X : Cx} {st : Stmt} {t t' : TS} (h : PS X st t) (k : ∀ D σ H, t' D σ H → t D σ H) : PS X st t' := ⟨fun pins s σ H D I q => h.run pins s σ H D I (k D σ H q)⟩
theorem PSs.imp {X : Cx} {st : List Stmt} {t t' : TS} (h : PSs X st t) (k : ∀ D σ H, t' D σ H → t D σ H) : PSs X st t' := ⟨fun pins s σ H D I q => h.run pins s σ H D I (k D σ H q)⟩
theorem PI.imp {X : Cx} {tg iter : Expr} {t t' : TI} (h : PI X tg iter t) (k : ∀ σ H Q, t' σ H Q → t σ H Q) : PI X tg iter t' := ⟨fun pins s σ H Q I q => h.run pins s σ H Q I (k σ H Q q)⟩
theorem PG.imp {X : Cx} {tg : Expr} {t t' : TG} (h : PG X tg t) (k : ∀ v σ H Q, t' v σ H Q → t v σ H Q) : PG X tg t' := by
  exact ⟨fun pins s σ H v u Q I r q => h.run pins s σ H v u Q I r (k v σ H Q q)⟩

/-- what is wanted of an exception of a class of the module, wherever it comes -/
def Rz (mg : Str → Option Value) (S : Sx) (G H : Hp) (Ep : Str → Prop) (E : XK) : Prop := ∀ x v G' H', Ext S G H G' H' → Ep x → mg x = some v → E v none H'
theorem Rz.ext {mg : Str → Option Value} {S : Sx} {G H G' H' : Hp} {Ep : Str → Prop} {E : XK} (r : Rz mg S G H Ep E) (x : Ext S G H G' H') (so : SrcOk S G H) : Rz mg S G' H' Ep E := fun a v G2 H2 y => r a v G2 H2 (x.trans so y)

/-- where an expression stands -/
structure Pt (X : Cx) (E : XK) (S : Sx) (G H : Hp) (σ : L2.St) (env : Env) (vs : List Nat) (Ep : Str → Prop) (Q : Bool → PyData → Prop) (Qh : VK) : Prop where
  st : StE X.K S G H σ env vs
  rz : Rz X.mg S G H Ep E
  fin : ∀ v H', Post X.K S G H Q v H' → Qh v H'
def tE (X : Cx) (C : Nat → Fs) (E : XK) (e : Ex) : TE := fun σ H Qh => ∃ S G env Ep Q, Pt X E S G H σ env e.vs Ep Q Qh ∧ e.rd C Ep env Q

section
variable {X : Cx} {C : Nat → Fs} {E : XK} {S : Sx} {G H G' H' : Hp} {σ : L2.St} {env : Env} {vs : List Nat} {Ep : Str → Prop} {Q : Bool → PyData → Prop} {Qh : VK}
theorem Pt.go (p : Pt X E S G H σ env vs Ep Q Qh) (x : Ext S G H G' H') : Pt X E S G' H' σ env vs Ep Q Qh :=
  ⟨p.st.ext x, p.rz.ext x p.st.src, fun v H2 q => p.fin v H2 (q.step x p.st.src)⟩
theorem Pt.less {ws : List Nat} (p : Pt X E S G H σ env vs Ep Q Qh) (h : ∀ i ∈ ws, i ∈ vs) : Pt X E S G H σ env ws Ep Q Qh := ⟨p.st.less h, p.rz, p.fin⟩
theorem Pt.use (p : Pt X E S G H σ env vs Ep Q Qh) {a : Ex} {Qa : Bool → PyData → Prop} {Qv : VK} (hv : ∀ i ∈ a.vs, i ∈ vs) (h : a.rd C Ep env Qa)
    (k : ∀ v G' H' fr d, Pt X E S G' H' σ env vs Ep Q Qh → Ext S G H G' H' → R X.K G' v d → Qa fr d → Qv v H') : tE X C E a σ H Qv :=
  ⟨S, G, env, Ep, Qa, ⟨p.st.less hv, p.rz, fun v H' q => by
    obtain ⟨G', fr, d, x, r, q⟩ := q.frz p.st.src
    exact k v G' H' fr d (p.go x) x r q⟩, h⟩
/-- .. to go on with what it gives -/
theorem Pt.tail (p : Pt X E S G H σ env vs Ep Q Qh) {a : Ex} (hv : ∀ i ∈ a.vs, i ∈ vs) (h : a.rd C Ep env Q) : tE X C E a σ H Qh := ⟨S, G, env, Ep, Q, p.less hv, h⟩
theorem Pt.sub (p : Pt X E S G H σ env vs Ep Q Qh) : Sub G H := p.st.sub
theorem Pt.done (p : Pt X E S G H σ env vs Ep Q Qh) {v : V} {d : PyData} (r : R X.K G v d) (q : Q false d) : Qh v H := p.fin _ _ (.here p.st.sub p.st.src r q)
theorem Pt.newL (p : Pt X E S G H σ env vs Ep Q Qh) {a : Addr} {xs : List V} {ds : List PyData} (n : H a = none) (r : RAll X.K G xs ds) (q : Q true (.list ds)) : Qh (.ref a) (upd H a (.lst xs)) :=
  p.fin _ _ (.newL p.st.sub p.st.src n r q)
theorem Pt.newT (p : Pt X E S G H σ env vs Ep Q Qh) {a : Addr} {o : Obj} {xs : List V} {ds : List PyData} (n : H a = none) (hd : o.dict = none) (r : RAll X.K G xs ds) (q : Q false (.tuple ds)) : Qh (.ref a) (upd H a (.frz o (.tup xs))) :=
  p.fin _ _ (.newT p.st.sub p.st.src n hd r q)
theorem lim_size {n : Nat} (h : n ≤ lim) : n ≤ sizeLine := by rw [sizeLine_eq]; unfold lim at h; omega
theorem lim_lt {n : Nat} (h : n < lim) : n < sizeLine := by rw [sizeLine_eq]; unfold lim at h; omega

/-! ### readings of values -/
theorem R.int' {K : PySem.W.Frag} {v : V} {i : Int} (r : R K G v (.int i)) : v = .int i := by cases r; rfl
theorem R.str' {K : PySem.W.Frag} {v : V} {i : Str} (r : R K G v (.str i)) : v = .str i := by cases r; rfl
theorem R.bl' {K : PySem.W.Frag} {v : V} {i : Bool} (r : R K G v (.bool i)) : v = .bl i := by cases r; rfl
theorem R.non' {K : PySem.W.Frag} {v : V} (r : R K G v .none) : v = .non := by cases r; rfl
theorem R.lst' {K : PySem.W.Frag} {v : V} {ds : List PyData} (r : R K G v (.list ds)) : ∃ a xs, v = .ref a ∧ G a = some (.lst xs) ∧ RAll K G xs ds := by
  cases r with
  | lst h r => exact ⟨_, _, rfl, h, r⟩
theorem R.tup' {K : PySem.W.Frag} {v : V} {ds : List PyData} (r : R K G v (.tuple ds)) : ∃ a xs, v = .ref a ∧ SqT K G a xs ∧ RAll K G xs ds := by
  cases r with
  | tup h hd r => exact ⟨_, _, rfl, SqT.frz h, r⟩
theorem R.tupS {K : PySem.W.Frag} {v : V} {ds : List PyData} (r : R K G v (.tuple ds)) : ∃ a o xs, v = .ref a ∧ G a = some (.frz o (.tup xs)) ∧ o.dict = none ∧ RAll K G xs ds := by
  cases r with
  | tup h hd r => exact ⟨_, _, _, rfl, h, hd, r⟩
theorem isInt_iff {d : PyData} {Q : Int → Prop} (h : isInt d Q) : ∃ i, d = .int i ∧ Q i := by
  cases d <;> first | exact ⟨_, rfl, h⟩ | cases h

/-! ### names, constants -/
theorem sd_var {i : Nat} {x : Str} {pos : Pos} (hN : X.N[i]? = some x) (hv : Vis X.env.scope x) (hd : (x == ("__debug__" : Str)) = false) (hc : (x == ("__classdict__" : Str)) = false) : PE X (.Name x pos) (tE X C E (.var i)) :=
  PE.imp (pe_var hN hv hd hc) fun σ H Qh ⟨S, G, env, Ep, Q, p, h⟩ => by
    have s := p.st.at_ i (by simp [Ex.vs])
    unfold Ex.rd at h
    cases e : env[i]? with
    | none => rw [e] at h; exact h.elim
    | some l =>
      have s := s l e
      rw [e] at h
      cases l with
      | un => exact h.elim
      | src => exact h.elim
      | sh d => obtain ⟨v, e1, r⟩ := s; exact ⟨v, e1, p.done r h⟩
      | ow d => obtain ⟨v, e1, r⟩ := s; exact ⟨v, e1, p.done r h⟩
theorem sd_lit {e : Expr} {v : V} {d : PyData} (h : PE X e (tC v)) (r : ∀ G : Hp, R X.K G v d) : PE X e (tE X C E (.lit d)) :=
  PE.imp h fun σ H Qh ⟨S, G, env, Ep, Q, p, h⟩ => p.done (r G) h

/-! ### two operands -/
theorem sd_bin0 {op : Operator} {o : Bop} {r : R2} {a b : Expr} {ea eb : Ex} {pos : Pos} (ho : OpR X (binaryOp op) r) (ha : PE X a (tE X C E ea)) (hb : PE X b (tE X C E eb))
    (k : ∀ {S : Sx} {G H : Hp} {σ : L2.St} {env : Env} {vs : List Nat} {Ep : Str → Prop} {Q : Bool → PyData → Prop} {Qh : VK} {v w : V} {x y : PyData}, Pt X E S G H σ env vs Ep Q Qh → R X.K G v x → R X.K G w y → BinP o x y Q → r v w H Qh) : PE X (.BinOp a op b pos) (tE X C E (.bin o ea eb)) :=
  PE.imp (pe_op ho ha hb) fun σ H Qh ⟨S, G, env, Ep, Q, p, h⟩ =>
    p.use (fun i hi => by simp [Ex.vs]; exact .inl hi) (by simpa only [Ex.rd] using h) fun v G1 H1 f x p1 x1 r1 h1 =>
      p1.use (fun i hi => by simp [Ex.vs]; exact .inr hi) h1 fun w G2 H2 f' y p2 x2 r2 h2 => k p2 (r1.mono x2.gg) r2 h2


theorem ixD {vs : List V} {ds : List PyData} {K : PySem.W.Frag} (r : RAll K G vs ds) {i : Int} {d : PyData} (h : atI ds i = some d) : ∃ v, atI vs i = some v ∧ R K G v d := by
  unfold atI at h ⊢
  rw [r.length]
  cases e : ixN ds.length i with
  | none => rw [e] at h; cases h
  | some j => rw [e] at h; exact r.get j h
theorem cutR {vs : List V} {ds : List PyData} {K : PySem.W.Frag} (r : RAll K G vs ds) (lo hi : Option Int) : RAll K G (cutV vs lo hi) (cutD ds lo hi) := by
  unfold cutV cutD
  rw [r.length]
  exact (r.drop _).take _
theorem sd_add {a b : Expr} {ea eb : Ex} {pos : Pos} (ha : PE X a (tE X C E ea)) (hb : PE X b (tE X C E eb)) : PE X (.BinOp a .Add b pos) (tE X C E (.bin .add ea eb)) :=
  sd_bin0 (op_add.or (op_add_str.or (op_cat.or op_catF))) ha hb fun {S G H σ env vs Ep Q Qh v w x y} p r1 r2 h => by
    cases x <;> cases y <;> first
      | exact False.elim h
      | (rw [r1.int', r2.int']; exact .inl ⟨_, _, rfl, rfl, p.done (.int _) h⟩)
      | (rw [r1.str', r2.str']; exact .inr (.inl ⟨_, _, rfl, rfl, lim_size h.1, p.done (.str _) h.2⟩))
      | (obtain ⟨a, xs, rfl, h1, q1⟩ := r1.lst'
         obtain ⟨b, ys, rfl, h2, q2⟩ := r2.lst'
         exact .inr (.inr (.inl ⟨a, b, xs, ys, rfl, rfl, p.sub _ _ h1, p.sub _ _ h2, by rw [q1.length, q2.length]; exact lim_size h.1, fun l hl => p.newL hl (q1.append q2) h.2⟩)))
      | (obtain ⟨a, xs, rfl, h1, q1⟩ := r1.tup'
         obtain ⟨b, ys, rfl, h2, q2⟩ := r2.tup'
         refine .inr (.inr (.inr ⟨a, b, xs, ys, rfl, rfl, p.sub.t h1, p.sub.t h2, by rw [q1.length, q2.length]; exact lim_size h.1, fun e => ?_, fun e => ?_, fun l o hl hd => p.newT hl hd (q1.append q2) h.2⟩))
         · subst e; cases q1; exact p.done r2 h.2
         · subst e; cases q2; obtain ⟨_, h⟩ := h; rw [List.append_nil] at h; exact p.done r1 h)
theorem sd_opI {op : Operator} {o : Bop} {Cn : Int → Int → Prop} {g : Int → Int → Int} {a b : Expr} {ea eb : Ex} {pos : Pos} (ho : OpR X (binaryOp op) (rI Cn fun i j => .int (g i j))) (ha : PE X a (tE X C E ea)) (hb : PE X b (tE X C E eb))
    (k : ∀ {x y Q}, BinP o x y Q → ∃ i j, x = .int i ∧ y = .int j ∧ Cn i j ∧ Q false (.int (g i j))) : PE X (.BinOp a op b pos) (tE X C E (.bin o ea eb)) :=
  sd_bin0 ho ha hb fun {S G H σ env vs Ep Q Qh v w x y} p r1 r2 h => by
    obtain ⟨i, j, rfl, rfl, c, q⟩ := k h
    rw [r1.int', r2.int']
    exact ⟨i, j, rfl, rfl, c, p.done (.int _) q⟩
theorem sd_opI0 {op : Operator} {o : Bop} {g : Int → Int → Int} {a b : Expr} {ea eb : Ex} {pos : Pos} (ho : OpR X (binaryOp op) (rI0 fun i j => .int (g i j))) (ha : PE X a (tE X C E ea)) (hb : PE X b (tE X C E eb))
    (k : ∀ {x y Q}, BinP o x y Q → ∃ i j, x = .int i ∧ y = .int j ∧ Q false (.int (g i j))) : PE X (.BinOp a op b pos) (tE X C E (.bin o ea eb)) :=
  sd_bin0 ho ha hb fun {S G H σ env vs Ep Q Qh v w x y} p r1 r2 h => by
    obtain ⟨i, j, rfl, rfl, q⟩ := k h
    rw [r1.int', r2.int']
    exact ⟨i, j, rfl, rfl, p.done (.int _) q⟩
theorem sd_mul {a b : Expr} {ea eb : Ex} {pos : Pos} (ha : PE X a (tE X C E ea)) (hb : PE X b (tE X C E eb)) : PE X (.BinOp a .Mult b pos) (tE X C E (.bin .mul ea eb)) :=
  sd_bin0 (op_mulW.or (op_mul.or (op_rep.or (op_rep1.or op_repF)))) ha hb fun {S G H σ env vs Ep Q Qh v w x y} p r1 r2 h => by
    cases x <;> cases y <;> first
      | exact False.elim h
      | (rw [r1.int', r2.int']
         rcases h.1 with c | c
         · exact .inl ⟨_, _, rfl, rfl, c, p.done (.int _) h.2⟩
         · exact .inr (.inl ⟨_, _, rfl, rfl, c, p.done (.int _) h.2⟩))
      | (obtain ⟨a, xs, rfl, h1, q1⟩ := r1.lst'
         rw [r2.int']
         exact .inr (.inr (.inl ⟨a, _, xs, rfl, rfl, p.sub _ _ h1, by have := h.1; omega, by have := h.2.1; omega, by rw [q1.length]; exact lim_size h.2.2.1, fun l hl => p.newL hl (q1.reps _) h.2.2.2⟩)))
      | (obtain ⟨a, xs, rfl, h1, q1⟩ := r1.tup'
         rw [r2.int']
         rename_i ds k
         obtain ⟨n0, k1, k2, k3, q⟩ := h
         by_cases e : k = 1
         · subst e
           refine .inr (.inr (.inr (.inl ⟨a, xs, rfl, rfl, p.sub.t h1, p.done r1 ?_⟩)))
           simpa using q
         · refine .inr (.inr (.inr (.inr ⟨a, k, xs, rfl, rfl, p.sub.t h1, ?_, by omega, k2, by rw [q1.length]; exact k3, fun l o hl hd => p.newT hl hd (q1.reps _) q⟩)))
           rintro rfl
           cases q1
           exact n0 rfl)
theorem sd_sub {a b : Expr} {ea eb : Ex} {pos : Pos} (ha : PE X a (tE X C E ea)) (hb : PE X b (tE X C E eb)) : PE X (.BinOp a .Sub b pos) (tE X C E (.bin .sub ea eb)) :=
  sd_opI0 op_sub ha hb fun {x y Q} h => by cases x <;> cases y <;> first | exact ⟨_, _, rfl, rfl, h⟩ | exact False.elim h
theorem sd_fdiv {a b : Expr} {ea eb : Ex} {pos : Pos} (ha : PE X a (tE X C E ea)) (hb : PE X b (tE X C E eb)) : PE X (.BinOp a .FloorDiv b pos) (tE X C E (.bin .fdiv ea eb)) :=
  sd_opI op_fdivW ha hb fun {x y Q} h => by cases x <;> cases y <;> first | exact ⟨_, _, rfl, rfl, h⟩ | exact False.elim h
theorem sd_mod {a b : Expr} {ea eb : Ex} {pos : Pos} (ha : PE X a (tE X C E ea)) (hb : PE X b (tE X C E eb)) : PE X (.BinOp a .Mod b pos) (tE X C E (.bin .mod ea eb)) :=
  sd_opI op_mod ha hb fun {x y Q} h => by cases x <;> cases y <;> first | exact ⟨_, _, rfl, rfl, h⟩ | exact False.elim h
theorem sd_pow {a b : Expr} {ea eb : Ex} {pos : Pos} (ha : PE X a (tE X C E ea)) (hb : PE X b (tE X C E eb)) : PE X (.BinOp a .Pow b pos) (tE X C E (.bin .pow ea eb)) :=
  sd_opI op_pow ha hb fun {x y Q} h => by cases x <;> cases y <;> first | exact ⟨_, _, rfl, rfl, h⟩ | exact False.elim h
theorem sd_shl {a b : Expr} {ea eb : Ex} {pos : Pos} (ha : PE X a (tE X C E ea)) (hb : PE X b (tE X C E eb)) : PE X (.BinOp a .LShift b pos) (tE X C E (.bin .shl ea eb)) :=
  sd_opI op_shlW ha hb fun {x y Q} h => by cases x <;> cases y <;> first | exact ⟨_, _, rfl, rfl, h⟩ | exact False.elim h
theorem sd_shr {a b : Expr} {ea eb : Ex} {pos : Pos} (ha : PE X a (tE X C E ea)) (hb : PE X b (tE X C E eb)) : PE X (.BinOp a .RShift b pos) (tE X C E (.bin .shr ea eb)) :=
  sd_opI op_shr ha hb fun {x y Q} h => by cases x <;> cases y <;> first | exact ⟨_, _, rfl, rfl, h⟩ | exact False.elim h
theorem sd_band {a b : Expr} {ea eb : Ex} {pos : Pos} (ha : PE X a (tE X C E ea)) (hb : PE X b (tE X C E eb)) : PE X (.BinOp a .BitAnd b pos) (tE X C E (.bin .band ea eb)) :=
  sd_opI0 op_and ha hb fun {x y Q} h => by cases x <;> cases y <;> first | exact ⟨_, _, rfl, rfl, h⟩ | exact False.elim h
theorem sd_bor {a b : Expr} {ea eb : Ex} {pos : Pos} (ha : PE X a (tE X C E ea)) (hb : PE X b (tE X C E eb)) : PE X (.BinOp a .BitOr b pos) (tE X C E (.bin .bor ea eb)) :=
  sd_opI0 op_or ha hb fun {x y Q} h => by cases x <;> cases y <;> first | exact ⟨_, _, rfl, rfl, h⟩ | exact False.elim h
theorem sd_bxor {a b : Expr} {ea eb : Ex} {pos : Pos} (ha : PE X a (tE X C E ea)) (hb : PE X b (tE X C E eb)) : PE X (.BinOp a .BitXor b pos) (tE X C E (.bin .bxor ea eb)) :=
  sd_opI0 op_xor ha hb fun {x y Q} h => by cases x <;> cases y <;> first | exact ⟨_, _, rfl, rfl, h⟩ | exact False.elim h
theorem sd_neg {a : Expr} {ea : Ex} {pos : Pos} (ha : PE X a (tE X C E ea)) : PE X (.UnaryOp .USub a pos) (tE X C E (.neg ea)) :=
  PE.imp (pe_un un_neg ha) fun σ H Qh ⟨S, G, env, Ep, Q, p, h⟩ =>
    p.use (fun i hi => by simpa [Ex.vs] using hi) (by simpa only [Ex.rd] using h) fun v G1 H1 f x p1 x1 r1 h1 => by
      obtain ⟨i, rfl, h1⟩ := isInt_iff h1
      rw [r1.int']
      exact ⟨i, rfl, p1.done (.int _) h1⟩
end
end DL
set_option Elab.async false
set_option linter.all false
set_option maxRecDepth 100000
set_option maxHeartbeats 2000000
/-! Dh: dicts of data. -/
namespace DL
open PySem PySem.Spec PyProof.Rows L2

theorem keyEqA_kD (a b : Key) : keyEqA (kD a) (kD b) = decide (a = b) := by
  cases a <;> cases b <;> simp [keyEqA, kD] <;> (rw [Bool.eq_iff_iff]; simp)
theorem keyEq_kD (a b : Key) : keyEq (kD a) (kD b) = decide (a = b) := by
  cases a <;> cases b <;> simp [keyEq, kD] <;> (rw [Bool.eq_iff_iff]; simp)
theorem keyEqL_kD : ∀ (a b : List Key), keyEqL (a.map kD) (b.map kD) = decide (a = b)
  | [], [] => rfl
  | [], _ :: _ => rfl
  | _ :: _, [] => rfl
  | a :: as, b :: bs => by
    simp only [List.map_cons, keyEqL, keyEqA_kD, keyEqL_kD as bs, List.cons.injEq, Bool.decide_and]
theorem keyEq_kDs (a b : List Key) : keyEq (.tuple (a.map kD)) (.tuple (b.map kD)) = decide (a = b) := keyEqL_kD a b
theorem atomK_kD (a : Key) : atomK (kD a) = true := by cases a <;> rfl
theorem tupK_kD (a : Key) : tupK (kD a) = false := by cases a <;> rfl
theorem atom_of {d : PyData} (h : atomK d = true) : ∃ k, d = kD k := by
  cases d with
  | int i => exact ⟨.inl i, rfl⟩
  | str x => exact ⟨.inr x, rfl⟩
  | _ => cases h
theorem atoms_of : ∀ {ds : List PyData}, ds.all atomK = true → ∃ ks : List Key, ds = ks.map kD
  | [], _ => ⟨[], rfl⟩
  | d :: ds, h => by
    rw [List.all_cons, Bool.and_eq_true] at h
    obtain ⟨k, rfl⟩ := atom_of h.1
    obtain ⟨ks, rfl⟩ := atoms_of h.2
    exact ⟨k :: ks, rfl⟩
theorem tup_of_key {d : PyData} (h : tupK d = true) : ∃ ks : List Key, d = .tuple (ks.map kD) := by
  cases d with
  | tuple xs => obtain ⟨ks, rfl⟩ := atoms_of (show xs.all atomK = true from h); exact ⟨ks, rfl⟩
  | _ => cases h
section
variable {K : PySem.W.Frag} {G H : Hp}
theorem R.atom {v : V} {k : Key} (r : R K G v (kD k)) : v = kV k := by
  cases k with
  | inl i => cases r; rfl
  | inr x => cases r; rfl
theorem RAll.atoms : ∀ {ks : List Key} {vs : List V}, RAll K G vs (ks.map kD) → vs = ks.map kV
  | [], _, .nil => rfl
  | k :: ks, _, .cons h t => by rw [List.map_cons, R.atom h, RAll.atoms t]
/-- a table, and data, of the same keys -/
theorem look_gen {κ : Type} [DecidableEq κ] (em : κ → PyData) (he : ∀ a b, keyEq (em a) (em b) = decide (a = b)) (k : κ) : ∀ {kvs0 : List (κ × V)} {kvs : List (PyData × PyData)}, RKV K G (kvs0.map fun p => (em p.1, p.2)) kvs →
    match valV kvs0 k with
    | some v => ∃ d, lookD kvs (em k) = some d ∧ R K G v d
    | none => lookD kvs (em k) = none
  | [], _, .nil => rfl
  | p :: r, _, .cons h t => by
    have ih := look_gen em he k t
    by_cases e : p.1 = k
    · rw [valV_pos e]
      exact ⟨_, by unfold lookD; rw [List.find?_cons, he, decide_eq_true e]; rfl, h⟩
    · rw [valV_neg e]
      have z : ∀ (y : PyData) (kvs : List (PyData × PyData)), lookD ((em p.1, y) :: kvs) (em k) = lookD kvs (em k) := fun y kvs => by
        unfold lookD
        rw [List.find?_cons, he, decide_eq_false e]
      rw [z]
      exact ih
theorem any_gen {κ : Type} [DecidableEq κ] (em : κ → PyData) (he : ∀ a b, keyEq (em a) (em b) = decide (a = b)) (k : κ) : ∀ {kvs0 : List (κ × V)} {kvs : List (PyData × PyData)}, RKV K G (kvs0.map fun p => (em p.1, p.2)) kvs →
    (kvs0.any fun kv => decide (kv.1 = k)) = kvs.any fun p => keyEq p.1 (em k)
  | [], _, .nil => rfl
  | p :: r, _, .cons h t => by rw [List.any_cons, List.any_cons, any_gen em he k t, he]
theorem repl_gen {κ : Type} [DecidableEq κ] (em : κ → PyData) (he : ∀ a b, keyEq (em a) (em b) = decide (a = b)) (k : κ) {v : V} {d : PyData} (r : R K G v d) : ∀ {kvs0 : List (κ × V)} {kvs : List (PyData × PyData)}, RKV K G (kvs0.map fun p => (em p.1, p.2)) kvs →
    RKV K G ((kvs0.map fun kv => if kv.1 = k then (kv.1, v) else kv).map fun p => (em p.1, p.2)) (kvs.map fun p => if keyEq p.1 (em k) = true then (p.1, d) else p)
  | [], _, .nil => .nil
  | p :: rr, _, .cons h t => by
    rw [List.map_cons, List.map_cons, List.map_cons]
    by_cases e : p.1 = k
    · rw [if_pos e, if_pos (by rw [he, decide_eq_true e])]; exact .cons r (repl_gen em he k r t)
    · rw [if_neg e, if_neg (by rw [he, decide_eq_false e]; exact Bool.false_ne_true)]; exact .cons h (repl_gen em he k r t)
theorem RKV.snoc {k : PyData} {v : V} {d : PyData} (r : R K G v d) : ∀ {ps : List (PyData × V)} {kvs : List (PyData × PyData)}, RKV K G ps kvs → RKV K G (ps ++ [(k, v)]) (kvs ++ [(k, d)])
  | _, _, .nil => .cons r .nil
  | _, _, .cons h t => .cons h (RKV.snoc r t)
theorem put_gen {κ : Type} [DecidableEq κ] (em : κ → PyData) (he : ∀ a b, keyEq (em a) (em b) = decide (a = b)) (k : κ) {v : V} {d : PyData} (r : R K G v d) {kvs0 : List (κ × V)} {kvs : List (PyData × PyData)} (h : RKV K G (kvs0.map fun p => (em p.1, p.2)) kvs) :
    RKV K G ((putK kvs0 k v).map fun p => (em p.1, p.2)) (putD kvs (em k) d) := by
  unfold putK putD
  rw [any_gen em he k h]
  split
  · exact repl_gen em he k r h
  · rw [List.map_append]; exact RKV.snoc r h
theorem RKV.length : ∀ {ps : List (PyData × V)} {kvs : List (PyData × PyData)}, RKV K G ps kvs → ps.length = kvs.length
  | _, _, .nil => rfl
  | _, _, .cons h t => by rw [List.length_cons, List.length_cons, RKV.length t]
/-- what a dict that is read holds at a key -/
theorem dic_get {v w : V} {kvs : List (PyData × PyData)} {k : PyData} (s : Sub G H) (r : R K G v (.dict kvs)) (rk : R K G w k) (hk : keyFor kvs k = true) :
    ∃ a o, v = .ref a ∧ DGet H a w o ∧ (match o with | some u => ∃ d, lookD kvs k = some d ∧ R K G u d | none => lookD kvs k = none) := by
  cases r with
  | @dic a o ps _ h dp q =>
    obtain ⟨kvs0, rfl, rfl⟩ := dp
    obtain ⟨κ, rfl⟩ := atom_of (show atomK k = true from hk)
    have e := R.atom rk
    subst e
    exact ⟨a, _, rfl, .inl ⟨kvs0, κ, s.rd h, rfl, rfl⟩, look_gen kD keyEq_kD κ q⟩
end
section
variable {X : Cx}
/-- y in d, by values -/
theorem op_inDic (hu : X.A.units + 65 < cLine) : OpR X (compareOp .In) (fun y x H Q => ∃ a o, x = .ref a ∧ DGet H a y o ∧ Q (.bl o.isSome) H) := by
  intro pins s σ H x y v u Q I rx ry h
  obtain ⟨a, o, rfl, g, q⟩ := h
  obtain rfl : u = Value.ref a := ry
  exact d_in (by omega) I g rx fun s' I' => ⟨.bl o.isSome, H, I', rfl, q⟩
theorem op_notInDic (hu : X.A.units + 65 < cLine) : OpR X (compareOp .NotIn) (fun y x H Q => ∃ a o, x = .ref a ∧ DGet H a y o ∧ Q (.bl (!o.isSome)) H) := by
  intro pins s σ H x y v u Q I rx ry h
  obtain ⟨a, o, rfl, g, q⟩ := h
  obtain rfl : u = Value.ref a := ry
  exact d_notIn (by omega) I g rx fun s' I' => ⟨.bl (!o.isSome), H, I', rfl, q⟩
theorem ix_dict (hu : X.A.units + 65 < cLine) : IxR X (fun x y H Q => ∃ a v, x = .ref a ∧ DGet H a y (some v) ∧ Q v H) := by
  intro value slice pins s σ H x y v u Q I rx ry h hs
  obtain ⟨a, z, rfl, g, q⟩ := h
  obtain rfl : v = Value.ref a := rx
  have hT := dict_typeIs I g
  unfold subscriptTail
  refine wpAny_bind ?_
  rw [getitemInPython_of_ne hT.not_modules]
  refine wpAny_bind (wpAny_specialOf hT PySem.F.slot_dict_getitem.lookup ?_)
  have fin : wpAny (model X.prog X.w) X.A (subscripted slice false (.ref a) u) (fun r s₃ => wpAny (model X.prog X.w) X.A (letTemporaryGo value (.ref a) r >>= fun _ => pure r) (EP X pins σ Q) X.xe s₃) X.xe s := by
    rw [hs]
    exact wpAny_operating (wpAny_mono (d_getItem (Q := EP X pins σ Q) (E := X.xe) (by omega) I g ry fun w' s' I' rw' => ⟨z, H, I', rw', q⟩) (fun r s₃ h₃ => wpAny_bind (wpAny_letTemporaryGo (wpAny_pure h₃))) fun _ _ x => x)
  first
    | exact wpAny_pure (wpAny_bind fin)
    | exact wpAny_bind (wpAny_pure (wpAny_bind fin))
    | exact wpAny_bind fin
/-- a[y] = v -/
def rSetD : V → V → V → Hp → (Hp → Prop) → Prop := fun o i v H Q => ∃ (a : Addr) (kvs : List (Key × V)) (k : Key), o = .ref a ∧ H a = some (.dK kvs) ∧ i = kV k ∧ kvs.length < sizeLine ∧ Q (upd H a (.dK (putK kvs k v)))
theorem set_dict (hu : X.A.units + 65 < cLine) : PSet X rSetD := by
  intro pins s σ H o i v ov iv u Q I ro ri rv h
  obtain ⟨a, kvs, k, rfl, e, rfl, hl, q⟩ := h
  obtain rfl : ov = Value.ref a := ro
  exact d_setItem (by omega) I (DPut.k e hl) ri rv fun s' I' => ⟨_, I', q⟩
theorem get_list : PGet X (rIxL X.K) := by
  rintro pins s σ H o i ov iv Q I ro ri ⟨p, xs, k, v, rfl, rfl, hq, he, q⟩
  cases ro
  obtain ⟨t, rfl⟩ := ri
  obtain ⟨us, r, pl, hz⟩ := I.list hq
  obtain ⟨j, h1, h2, h3, h4, h5⟩ := atI_get he
  obtain ⟨w, ew, rw'⟩ := r.get h2
  have hl := r.length
  have hn := line63
  have fin : EP X pins σ Q w s := ⟨v, H, I, rw', q⟩
  by_cases h0 : 0 ≤ k
  · have hj : k.toNat = j := by
      rw [seqIndex_of h0 h5] at h1
      exact Option.some.inj h1
    exact wpAny_getItem_list pl.isList h0 (by omega) (by rw [hj]; simpa using ew) fin
  · have hj : (k + (us.toArray.size : Int)).toNat = j := by
      rw [seqIndex_neg (by omega) h4] at h1
      rw [List.size_toArray, ← hl]
      exact Option.some.inj h1
    exact wpAny_getItem_list_neg pl.isList (by omega) (by rw [List.size_toArray]; omega) (by omega) (by rw [hj]; simpa using ew) fin
theorem get_dict (hu : X.A.units + 65 < cLine) : PGet X (fun x y H Q => ∃ a v, x = .ref a ∧ DGet H a y (some v) ∧ Q v H) := by
  rintro pins s σ H o i ov iv Q I ro ri ⟨a, v, rfl, g, q⟩
  obtain rfl : ov = Value.ref a := ro
  exact d_getItem (by omega) I g ri fun w' s' I' rw' => ⟨v, H, I', rw', q⟩
theorem PGet.or {t t' : V → V → Hp → VK → Prop} (h : PGet X t) (h' : PGet X t') : PGet X (fun o i H Q => t o i H Q ∨ t' o i H Q) := by
  intro pins s σ H o i ov iv Q I ro ri q
  rcases q with q | q
  · exact h pins s σ H o i ov iv Q I ro ri q
  · exact h' pins s σ H o i ov iv Q I ro ri q
theorem PSet.or {t t' : TSet} (h : PSet X t) (h' : PSet X t') : PSet X (fun o i v H Q => t o i v H Q ∨ t' o i v H Q) := by
  intro pins s σ H o i v ov iv u Q I ro ri rv q
  rcases q with q | q
  · exact h pins s σ H o i v ov iv u Q I ro ri rv q
  · exact h' pins s σ H o i v ov iv u Q I ro ri rv q
end
/-- .. at the level of data -/
theorem dic_put {K : PySem.W.Frag} {G H : Hp} {a : Addr} {o : HO} {ps : List (PyData × V)} {kvs : List (PyData × PyData)} {v w : V} {k d : PyData} (ho : H a = some o) (dp : DO o ps) (q : RKV K G ps kvs) (rk : R K G w k) (rv : R K G v d) (hk : keyPut kvs k = true) (hl : kvs.length < sizeLine) {Q : Hp → Prop}
    (fin : ∀ o' ps', DO o' ps' → RKV K G ps' (putD kvs k d) → Q (upd H a o')) : rSetD (.ref a) w v H Q := by
  obtain ⟨kvs0, rfl, rfl⟩ := dp
  have len : kvs0.length = kvs.length := by have := RKV.length q; simpa using this
  obtain ⟨κ, rfl⟩ := atom_of (show atomK k = true from hk)
  have e := R.atom rk
  subst e
  exact ⟨a, kvs0, κ, rfl, ho, rfl, by rw [len]; exact hl, fin _ _ ⟨_, rfl, rfl⟩ (put_gen kD keyEq_kD κ rv q)⟩
end DL
set_option Elab.async false
set_option linter.all false
set_option maxRecDepth 100000
set_option maxHeartbeats 2000000
/-! D3: comparisons, tests, displays, items, slices. -/
namespace DL
open PySem PySem.Spec PyProof.Rows L2

section
variable {X : Cx} {C : Nat → Fs} {E : XK} {S : Sx} {G H G' H' : Hp} {σ : L2.St} {env : Env} {vs : List Nat} {Ep : Str → Prop} {Q : Bool → PyData → Prop} {Qh : VK}

theorem shaped_noDict {d : PyData} (h : SeqAt.shaped d = true) : d.hasDict = false := PyData.hasDict_of_canLay d (SeqAt.canLay_of_shaped h)
theorem R.dp' {K : PySem.W.Frag} (s : Sub G H) {v : V} {d : PyData} (r : R K G v d) (h : okD d) : Dp K H v d := r.dp s (shaped_noDict h)

/-! ### x in a tuple of data -/
def rInT (K : PySem.W.Frag) (k : Bool) : R2 := fun x y H Q => ∃ d ds, Dp K H x d ∧ (Dp K H y (.list ds) ∨ Dp K H y (.tuple ds)) ∧ SeqAt.shaped d = true ∧ SeqAt.shaped (.list ds) = true ∧ Q (.bl (if k = true then ds.any fun z => PyData.eqv z d else !ds.any fun z => PyData.eqv z d)) H
theorem op_inT (hu : X.A.units + 65 < cLine) : OpR X (compareOp .In) (rInT X.K true) := by
  intro pins s σ H x y v u Q I rx ry h
  obtain ⟨d, ds, hd, he, sd, se, q⟩ := h
  obtain ⟨as, r1⟩ := Dp.reads I d x v hd rx
  rw [if_pos rfl] at q
  rcases he with he | he
  · obtain ⟨bs, r2⟩ := Dp.reads I (.list ds) y u he ry
    exact SeqAt.in_list_reads r2 r1 (SeqAt.canLay_of_shaped se) (SeqAt.canLay_of_shaped sd) (room_in_shaped sd hu) ⟨.bl _, H, I, rfl, q⟩
  · obtain ⟨bs, r2⟩ := Dp.reads I (.tuple ds) y u he ry
    exact SeqAt.in_tuple_reads r2 r1 (SeqAt.canLay_of_shaped se) (SeqAt.canLay_of_shaped sd) (room_in_shaped sd hu) ⟨.bl _, H, I, rfl, q⟩
theorem op_notInT (hu : X.A.units + 65 < cLine) : OpR X (compareOp .NotIn) (rInT X.K false) := by
  intro pins s σ H x y v u Q I rx ry h
  obtain ⟨d, ds, hd, he, sd, se, q⟩ := h
  obtain ⟨as, r1⟩ := Dp.reads I d x v hd rx
  rw [if_neg Bool.false_ne_true] at q
  rcases he with he | he
  · obtain ⟨bs, r2⟩ := Dp.reads I (.list ds) y u he ry
    exact SeqAt.notIn_list_reads r2 r1 (SeqAt.canLay_of_shaped se) (SeqAt.canLay_of_shaped sd) (room_in_shaped sd hu) ⟨.bl _, H, I, rfl, q⟩
  · obtain ⟨bs, r2⟩ := Dp.reads I (.tuple ds) y u he ry
    exact SeqAt.notIn_tuple_reads r2 r1 (SeqAt.canLay_of_shaped se) (SeqAt.canLay_of_shaped sd) (room_in_shaped sd hu) ⟨.bl _, H, I, rfl, q⟩

/-- an operator of the model and mine -/
inductive CmpIs : CmpOp → Cop → Prop
  | eq : CmpIs .Eq .eq | ne : CmpIs .NotEq .ne | lt : CmpIs .Lt .lt | le : CmpIs .LtE .le | gt : CmpIs .Gt .gt | ge : CmpIs .GtE .ge
  | is_ : CmpIs .Is (.isnt true) | isn : CmpIs .IsNot (.isnt false) | in_ : CmpIs .In (.in_ true) | nin : CmpIs .NotIn (.in_ false)
/-- the operator's rule, for any two values that data are read off -/
def CmpR (X : Cx) (op : CmpOp) (o : Cop) (r : R2) : Prop := OpR X (compareOp op) r ∧ ∀ {G H : Hp} {v w : V} {x y : PyData} {Qc : Bool → Prop} {Qh : VK}, Sub G H → R X.K G v x → R X.K G w y → CmpP o x y Qc → (∀ c, Qc c → Qh (.bl c) H) → r v w H Qh
theorem eqv_int (i j : Int) : PyData.eqv (.int i) (.int j) = (i == j) := by simp [PyData.eqv]
theorem shaped_int (i : Int) : SeqAt.shaped (.int i) = true := by simp [SeqAt.shaped, PyData.canLay0, PyData.depth]
theorem cmpr (hu : X.A.units + 65 < cLine) {op : CmpOp} {o : Cop} (h : CmpIs op o) : ∃ r, CmpR X op o r := by
  have hu' : X.A.units + 64 < cLine := by omega
  cases h with
  | eq =>
    refine ⟨_, op_eqD hu', fun {G H v w x y Qc Qh} s r1 r2 h q => ?_⟩
    have key : okD x ∧ okD y ∧ Qc (PyData.eqv x y) := by
      cases x <;> cases y <;> first | exact h | exact ⟨shaped_int _, shaped_int _, by rw [eqv_int]; exact h⟩
    exact ⟨x, y, r1.dp' s key.1, r2.dp' s key.2.1, key.1, key.2.1, q _ key.2.2⟩
  | ne =>
    refine ⟨_, op_neD hu', fun {G H v w x y Qc Qh} s r1 r2 h q => ?_⟩
    have key : okD x ∧ okD y ∧ Qc (!PyData.eqv x y) := by
      cases x <;> cases y <;> first | exact h | exact ⟨shaped_int _, shaped_int _, by rw [eqv_int]; exact h⟩
    exact ⟨x, y, r1.dp' s key.1, r2.dp' s key.2.1, key.1, key.2.1, q _ key.2.2⟩
  | lt => exact ⟨_, op_lt, fun {G H v w x y Qc Qh} s r1 r2 h q => by cases x <;> cases y <;> first | exact False.elim h | (rw [r1.int', r2.int']; exact ⟨_, _, rfl, rfl, q _ h⟩)⟩
  | le => exact ⟨_, op_le, fun {G H v w x y Qc Qh} s r1 r2 h q => by cases x <;> cases y <;> first | exact False.elim h | (rw [r1.int', r2.int']; exact ⟨_, _, rfl, rfl, q _ h⟩)⟩
  | gt => exact ⟨_, op_gt, fun {G H v w x y Qc Qh} s r1 r2 h q => by cases x <;> cases y <;> first | exact False.elim h | (rw [r1.int', r2.int']; exact ⟨_, _, rfl, rfl, q _ h⟩)⟩
  | ge => exact ⟨_, op_ge, fun {G H v w x y Qc Qh} s r1 r2 h q => by cases x <;> cases y <;> first | exact False.elim h | (rw [r1.int', r2.int']; exact ⟨_, _, rfl, rfl, q _ h⟩)⟩
  | is_ =>
    refine ⟨_, op_isN, fun {G H v w x y Qc Qh} s r1 r2 h q => ?_⟩
    cases y <;> first
      | (cases x <;> exact False.elim h)
      | (rw [r2.non']
         refine ⟨rfl, ?_⟩
         cases x <;> first
           | (cases r1; exact q _ (by simpa [CmpP] using h)))
  | isn =>
    refine ⟨_, op_notN, fun {G H v w x y Qc Qh} s r1 r2 h q => ?_⟩
    cases y <;> first
      | (cases x <;> exact False.elim h)
      | (rw [r2.non']
         refine ⟨rfl, ?_⟩
         cases x <;> first
           | (cases r1; exact q _ (by simpa [CmpP] using h)))
  | in_ =>
    refine ⟨_, (op_inT hu).or (op_inDic hu), fun {G H v w x y Qc Qh} s r1 r2 h q => ?_⟩
    cases y with
    | list ys =>
      have h' : okD x ∧ okD (.list ys) ∧ Qc (if true = true then ys.any (fun z => PyData.eqv z x) else !ys.any (fun z => PyData.eqv z x)) := by cases x <;> exact h
      exact .inl ⟨x, ys, r1.dp' s h'.1, .inl (r2.dp' s h'.2.1), h'.1, h'.2.1, q _ h'.2.2⟩
    | tuple ys =>
      have h' : okD x ∧ okD (.tuple ys) ∧ Qc (if true = true then ys.any (fun z => PyData.eqv z x) else !ys.any (fun z => PyData.eqv z x)) := by cases x <;> exact h
      exact .inl ⟨x, ys, r1.dp' s h'.1, .inr (r2.dp' s h'.2.1), h'.1, by simpa [SeqAt.shaped, PyData.canLay0, PyData.depth, okD] using h'.2.1, q _ h'.2.2⟩
    | none => cases x <;> exact False.elim h
    | bool b => cases x <;> exact False.elim h
    | int i => cases x <;> exact False.elim h
    | str z => cases x <;> exact False.elim h
    | dict kvs =>
      have h' : keyFor kvs x = true ∧ Qc (if true = true then (lookD kvs x).isSome else !(lookD kvs x).isSome) := by cases x <;> exact h
      obtain ⟨a, o, rfl, g, m⟩ := dic_get s r2 r1 h'.1
      refine .inr ⟨a, o, rfl, g, q _ ?_⟩
      have e : o.isSome = (lookD kvs x).isSome := by
        cases o with
        | none => rw [show lookD kvs x = none from m]; rfl
        | some u => obtain ⟨d, e, _⟩ := m; rw [e]; rfl
      rw [e]
      exact h'.2
  | nin =>
    refine ⟨_, (op_notInT hu).or (op_notInDic hu), fun {G H v w x y Qc Qh} s r1 r2 h q => ?_⟩
    cases y with
    | list ys =>
      have h' : okD x ∧ okD (.list ys) ∧ Qc (if false = true then ys.any (fun z => PyData.eqv z x) else !ys.any (fun z => PyData.eqv z x)) := by cases x <;> exact h
      exact .inl ⟨x, ys, r1.dp' s h'.1, .inl (r2.dp' s h'.2.1), h'.1, h'.2.1, q _ h'.2.2⟩
    | tuple ys =>
      have h' : okD x ∧ okD (.tuple ys) ∧ Qc (if false = true then ys.any (fun z => PyData.eqv z x) else !ys.any (fun z => PyData.eqv z x)) := by cases x <;> exact h
      exact .inl ⟨x, ys, r1.dp' s h'.1, .inr (r2.dp' s h'.2.1), h'.1, by simpa [SeqAt.shaped, PyData.canLay0, PyData.depth, okD] using h'.2.1, q _ h'.2.2⟩
    | none => cases x <;> exact False.elim h
    | bool b => cases x <;> exact False.elim h
    | int i => cases x <;> exact False.elim h
    | str z => cases x <;> exact False.elim h
    | dict kvs =>
      have h' : keyFor kvs x = true ∧ Qc (if false = true then (lookD kvs x).isSome else !(lookD kvs x).isSome) := by cases x <;> exact h
      obtain ⟨a, o, rfl, g, m⟩ := dic_get s r2 r1 h'.1
      refine .inr ⟨a, o, rfl, g, q _ ?_⟩
      have e : o.isSome = (lookD kvs x).isSome := by
        cases o with
        | none => rw [show lookD kvs x = none from m]; rfl
        | some u => obtain ⟨d, e, _⟩ := m; rw [e]; rfl
      rw [e]
      exact h'.2

/-! ### tests -/
/-- the reading of a test -/
def tT (X : Cx) (C : Nat → Fs) (E : XK) (e : Ex) : TT := fun σ H Qb => ∃ S G env Ep Q, StE X.K S G H σ env e.vs ∧ Rz X.mg S G H Ep E ∧ e.rd C Ep env Q ∧ ∀ fr d G' H', Ext S G H G' H' → Q fr d → ∃ c, truth d = some c ∧ Qb c H'
theorem truth_tru {K : PySem.W.Frag} {v : V} {d : PyData} {c : Bool} (s : Sub G H) (r : R K G v d) (h : truth d = some c) : TruV K v H c := by
  cases d with
  | none => cases r; exact (Option.some.inj h).symm
  | bool b => cases r; exact (Option.some.inj h).symm
  | int i => cases r; exact (Option.some.inj h).symm
  | str x => cases h
  | list xs =>
    obtain ⟨a, ys, rfl, h1, q⟩ := r.lst'
    refine .inl ⟨ys, SqL.of (s _ _ h1), ?_⟩
    have e : ys.isEmpty = xs.isEmpty := by cases q <;> rfl
    rw [e]; exact (Option.some.inj h).symm
  | tuple xs =>
    obtain ⟨a, ys, rfl, h1, q⟩ := r.tup'
    refine .inr (.inl ⟨ys, s.t h1, ?_⟩)
    have e : ys.isEmpty = xs.isEmpty := by cases q <;> rfl
    rw [e]; exact (Option.some.inj h).symm
  | dict kvs => cases h
/-- a test from a value -/
theorem st_plain {a : Expr} {ea : Ex} (ha : PE X a (tE X C E ea)) (he : ∀ whole, isTrue a X.env whole = (do let v ← whole; standAt a.pos; holding [v] (truthy v))) : PT X a (tT X C E ea) :=
  PT.imp (pt_truth ha he) fun σ H Qb ⟨S, G, env, Ep, Q, st, rz, h, k⟩ =>
    ⟨S, G, env, Ep, Q, ⟨st, rz, fun v H' p => by
      obtain ⟨G', fr, d, x, r, q⟩ := p.frz st.src
      obtain ⟨c, hc, qb⟩ := k fr d G' H' x q
      exact ⟨c, truth_tru x.gh r hc, qb⟩⟩, h⟩
theorem st_not {a : Expr} {ea : Ex} {pos : Pos} (ha : PT X a (tT X C E ea)) : PT X (.UnaryOp .Not a pos) (tT X C E (.not_ ea)) :=
  PT.imp (pt_not ha) fun σ H Qb ⟨S, G, env, Ep, Q, st, rz, h, k⟩ =>
    ⟨S, G, env, Ep, fun _ x => ∃ c, truth x = some c ∧ Q false (.bool !c), st, rz, by simpa only [Ex.rd] using h, fun fr d G' H' x ⟨c, hc, q⟩ => by
      obtain ⟨c', hc', qb⟩ := k _ _ G' H' x q
      have e : (!c) = c' := Option.some.inj hc'
      exact ⟨c, hc, by show Qb (!c) H'; rw [e]; exact qb⟩⟩
theorem st_and {a b : Expr} {rest : List Expr} {ea eb : Ex} {pos : Pos} (ha : PT X a (tT X C E ea)) (hb : PW X (.BoolOp .And (b :: rest) pos) (tT X C E eb)) : PW X (.BoolOp .And (a :: b :: rest) pos) (tT X C E (.and_ ea eb)) :=
  PW.imp (pw_and ha hb) fun σ H Qb ⟨S, G, env, Ep, Q, st, rz, h, k⟩ =>
    ⟨S, G, env, Ep, fun f x => ∃ c, truth x = some c ∧ if c = true then eb.rd C Ep env Q else Q f x, st.less (fun i hi => by simp [Ex.vs]; exact .inl hi), rz, by simpa only [Ex.rd] using h, fun fr d G' H' x ⟨c, hc, q⟩ => by
      refine ⟨c, hc, ?_⟩
      cases c with
      | true =>
        rw [if_pos rfl] at q ⊢
        exact ⟨S, G', env, Ep, Q, (st.ext x).less (fun i hi => by simp [Ex.vs]; exact .inr hi), rz.ext x st.src, q, fun fr d G2 H2 y => k fr d G2 H2 (x.trans st.src y)⟩
      | false =>
        rw [if_neg Bool.false_ne_true] at q ⊢
        obtain ⟨c', hc', qb⟩ := k _ _ G' H' x q
        rw [hc] at hc'; cases hc'
        exact qb⟩
theorem st_or {a b : Expr} {rest : List Expr} {ea eb : Ex} {pos : Pos} (ha : PT X a (tT X C E ea)) (hb : PW X (.BoolOp .Or (b :: rest) pos) (tT X C E eb)) : PW X (.BoolOp .Or (a :: b :: rest) pos) (tT X C E (.or_ ea eb)) :=
  PW.imp (pw_or ha hb) fun σ H Qb ⟨S, G, env, Ep, Q, st, rz, h, k⟩ =>
    ⟨S, G, env, Ep, fun f x => ∃ c, truth x = some c ∧ if c = true then Q f x else eb.rd C Ep env Q, st.less (fun i hi => by simp [Ex.vs]; exact .inl hi), rz, by simpa only [Ex.rd] using h, fun fr d G' H' x ⟨c, hc, q⟩ => by
      refine ⟨c, hc, ?_⟩
      cases c with
      | false =>
        rw [if_neg Bool.false_ne_true] at q ⊢
        exact ⟨S, G', env, Ep, Q, (st.ext x).less (fun i hi => by simp [Ex.vs]; exact .inr hi), rz.ext x st.src, q, fun fr d G2 H2 y => k fr d G2 H2 (x.trans st.src y)⟩
      | true =>
        rw [if_pos rfl] at q ⊢
        obtain ⟨c', hc', qb⟩ := k _ _ G' H' x q
        rw [hc] at hc'; cases hc'
        exact qb⟩
theorem st_one {a : Expr} {ea : Ex} {op : BoolOp} {pos : Pos} (ha : PT X a (tT X C E ea)) : PW X (.BoolOp op [a] pos) (tT X C E ea) := by
  cases op with
  | And => exact pw_and1 ha
  | Or => exact pw_or1 ha

/-! ### comparisons -/
theorem sd_cmp {op : CmpOp} {o : Cop} {a b : Expr} {ea eb : Ex} {pos : Pos} (hu : X.A.units + 65 < cLine) (ho : CmpIs op o) (hm : behindInMarks op b = false) (ha : PE X a (tE X C E ea)) (hb : PE X b (tE X C E eb)) : PE X (.Compare a [op] [b] pos) (tE X C E (.cmp o ea eb)) := by
  obtain ⟨r, h1, h2⟩ := cmpr (X := X) hu ho
  refine PE.imp (pe_cmpR h1 ha hb hm) fun σ H Qh ⟨S, G, env, Ep, Q, p, h⟩ => ?_
  exact p.use (fun i hi => by simp [Ex.vs]; exact .inl hi) (by simpa only [Ex.rd] using h) fun v G1 H1 f x p1 x1 r1 h1 =>
      p1.use (fun i hi => by simp [Ex.vs]; exact .inr hi) h1 fun w G2 H2 f' y p2 x2 r2 h3 => h2 p2.sub (r1.mono x2.gg) r2 h3 fun c qc => p2.done (.bl c) qc
theorem st_cmp {op : CmpOp} {o : Cop} {a b : Expr} {ea eb : Ex} {pos : Pos} (hu : X.A.units + 65 < cLine) (ho : CmpIs op o) (hm : behindInMarks op b = false) (ha : PE X a (tE X C E ea)) (hb : PE X b (tE X C E eb)) : PT X (.Compare a [op] [b] pos) (tT X C E (.cmp o ea eb)) := by
  obtain ⟨r, h1, h2⟩ := cmpr (X := X) hu ho
  refine PT.imp (pt_cmpR h1 ha hb hm) fun σ H Qb ⟨S, G, env, Ep, Q, st, rz, h, k⟩ => ?_
  have p : Pt X E S G H σ env (Ex.cmp o ea eb).vs Ep Q (fun x H' => ∃ k, x = .bl k ∧ Qb k H') → True := fun _ => trivial
  refine ⟨S, G, env, Ep, _, ⟨st.less (fun i hi => by simp [Ex.vs]; exact .inl hi), rz, fun v H' pp => ?_⟩, by simpa only [Ex.rd] using h⟩
  obtain ⟨G', fr, d, x, r1, q⟩ := pp.frz st.src
  refine ⟨S, G', env, Ep, _, ⟨(st.ext x).less (fun i hi => by simp [Ex.vs]; exact .inr hi), rz.ext x st.src, fun w H2 pp2 => ?_⟩, q⟩
  obtain ⟨G2, fr2, d2, x2, r2, q2⟩ := pp2.frz x.src
  refine h2 x2.gh (r1.mono x2.gg) r2 q2 fun c qc => ?_
  obtain ⟨c', hc', qb⟩ := k _ _ G2 H2 (x.trans st.src x2) qc
  cases hc'
  exact ⟨c, rfl, qb⟩
theorem sd_cmp2 {op op' : CmpOp} {o o' : Cop} {a b c : Expr} {ea eb ec : Ex} {pos : Pos} (hu : X.A.units + 65 < cLine) (ho : CmpIs op o) (ho' : CmpIs op' o') (hm : lastMarks [op, op'] [b, c] = false) (ha : PE X a (tE X C E ea)) (hb : PE X b (tE X C E eb)) (hc : PE X c (tE X C E ec)) :
    PE X (.Compare a [op, op'] [b, c] pos) (tE X C E (.cmp2 o o' ea eb ec)) := by
  obtain ⟨r, h1, h2⟩ := cmpr (X := X) hu ho
  obtain ⟨r', h1', h2'⟩ := cmpr (X := X) hu ho'
  refine PE.imp (pe_chain h1 h1' ha hb hc hm) fun σ H Qh ⟨S, G, env, Ep, Q, p, h⟩ => ?_
  exact p.use (fun i hi => by simp [Ex.vs]; exact .inl hi) (by simpa only [Ex.rd] using h) fun v G1 H1 f x p1 x1 r1 h1 =>
      p1.use (fun i hi => by simp [Ex.vs]; exact .inr (.inl hi)) h1 fun w G2 H2 f' y p2 x2 r2 h3 => h2 p2.sub (r1.mono x2.gg) r2 h3 fun c qc => by
        refine ⟨c, rfl, ?_⟩
        cases c with
        | true =>
          rw [if_pos rfl] at qc ⊢
          exact p2.use (fun i hi => by simp [Ex.vs]; exact .inr (.inr hi)) qc fun u G3 H3 f3 z p3 x3 r3 h4 => h2' p3.sub (r2.mono x3.gg) r3 h4 fun c qc => p3.done (.bl c) qc
        | false =>
          rw [if_neg Bool.false_ne_true] at qc ⊢
          exact p2.done (.bl _) qc
theorem st_cmp2 {op op' : CmpOp} {o o' : Cop} {a b c : Expr} {ea eb ec : Ex} {pos : Pos} (hu : X.A.units + 65 < cLine) (ho : CmpIs op o) (ho' : CmpIs op' o') (hm : lastMarks [op, op'] [b, c] = false) (ha : PE X a (tE X C E ea)) (hb : PE X b (tE X C E eb)) (hc : PE X c (tE X C E ec)) :
    PT X (.Compare a [op, op'] [b, c] pos) (tT X C E (.cmp2 o o' ea eb ec)) := by
  obtain ⟨r, h1, h2⟩ := cmpr (X := X) hu ho
  obtain ⟨r', h1', h2'⟩ := cmpr (X := X) hu ho'
  refine PT.imp (pt_chain h1 h1' ha hb hc hm) fun σ H Qb ⟨S, G, env, Ep, Q, st, rz, h, k⟩ => ?_
  refine ⟨S, G, env, Ep, _, ⟨st.less (fun i hi => by simp [Ex.vs]; exact .inl hi), rz, fun v H' pp => ?_⟩, by simpa only [Ex.rd] using h⟩
  obtain ⟨G', fr, d, x, r1, q⟩ := pp.frz st.src
  refine ⟨S, G', env, Ep, _, ⟨(st.ext x).less (fun i hi => by simp [Ex.vs]; exact .inr (.inl hi)), rz.ext x st.src, fun w H2 pp2 => ?_⟩, q⟩
  obtain ⟨G2, fr2, d2, x2, r2, q2⟩ := pp2.frz x.src
  have st2 := (st.ext x).ext x2
  have rz2 := (rz.ext x st.src).ext x2 x.src
  refine h2 x2.gh (r1.mono x2.gg) r2 q2 fun c qc => ⟨c, rfl, ?_⟩
  cases c with
  | true =>
    rw [if_pos rfl] at qc ⊢
    refine ⟨S, G2, env, Ep, _, ⟨st2.less (fun i hi => by simp [Ex.vs]; exact .inr (.inr hi)), rz2, fun u H3 pp3 => ?_⟩, qc⟩
    obtain ⟨G3, fr3, d3, x3, r3, q3⟩ := pp3.frz x2.src
    refine h2' x3.gh (r2.mono x3.gg) r3 q3 fun c qc => ?_
    obtain ⟨c', hc', qb⟩ := k _ _ G3 H3 ((x.trans st.src x2).trans st.src x3) qc
    cases hc'
    exact ⟨c, rfl, qb⟩
  | false =>
    rw [if_neg Bool.false_ne_true] at qc ⊢
    obtain ⟨c', hc', qb⟩ := k _ _ G2 H2 (x.trans st.src x2) qc
    cases hc'
    exact ⟨_, rfl, qb⟩
end
end DL
set_option Elab.async false
set_option linter.all false
set_option maxRecDepth 100000
set_option maxHeartbeats 2000000
/-! D4: displays, arguments, items, slices, booleans as values, built-ins. -/
namespace DL
open PySem PySem.Spec PyProof.Rows L2

section
variable {X : Cx} {C : Nat → Fs} {E : XK} {S : Sx} {G H G' H' : Hp} {σ : L2.St} {env : Env} {vs : List Nat} {Ep : Str → Prop} {Q : Bool → PyData → Prop} {Qh : VK}

/-! ### lists of expressions -/
def tA (X : Cx) (C : Nat → Fs) (E : XK) (es : Exs) : TA := fun σ H Qh => ∃ S G env Ep Q, StE X.K S G H σ env es.vs ∧ Rz X.mg S G H Ep E ∧ es.rd C Ep env Q ∧ ∀ ws G' H' ds, Ext S G H G' H' → RAll X.K G' ws ds → Q ds → Qh ws H'
theorem sa_nil : PA X [] (tA X C E .nil) := PA.imp pa_nil fun σ H Qh ⟨S, G, env, Ep, Q, st, rz, h, k⟩ => k [] G H [] st.refl .nil (by simpa only [Exs.rd] using h)
theorem star_of {e : Expr} {es : List Expr} {env : PySem.Env} (h : ∀ v p, e ≠ .Starred v p) : starEach (e :: es) env = (false, eval e env) :: starEach es env := by
  cases e <;> first | rfl | exact absurd rfl (h _ _)
theorem sa_cons {e : Expr} {es : List Expr} {x : Ex} {xs : Exs} (ha : PE X e (tE X C E x)) (hr : PA X es (tA X C E xs)) (ns : ∀ v p, e ≠ .Starred v p) : PA X (e :: es) (tA X C E (.cons x xs)) :=
  PA.imp (pa_cons ha hr (star_of ns)) fun σ H Qh ⟨S, G, env, Ep, Q, st, rz, h, k⟩ => by
    refine ⟨S, G, env, Ep, _, ⟨st.less (fun i hi => by simp [Exs.vs]; exact .inl hi), rz, fun v H' pp => ?_⟩, by simpa only [Exs.rd] using h⟩
    obtain ⟨G', fr, d, x1, r1, q⟩ := pp.frz st.src
    exact ⟨S, G', env, Ep, _, (st.ext x1).less (fun i hi => by simp [Exs.vs]; exact .inr hi), rz.ext x1 st.src, q, fun ws G2 H2 ds x2 r2 q2 => k (v :: ws) G2 H2 (d :: ds) (x1.trans st.src x2) (.cons (r1.mono x2.gg) r2) q2⟩
theorem sd_tup {es : List Expr} {xs : Exs} {k : Nat} {pos : Pos} (h : PA X es (tA X C E xs)) : PE X (.Tuple es k pos) (tE X C E (.tup xs)) :=
  PE.imp (pe_tupF h) fun σ H Qh ⟨S, G, env, Ep, Q, p, h⟩ =>
    ⟨S, G, env, Ep, fun ds => ds.length ≤ lim ∧ Q false (.tuple ds), p.st, p.rz, by simpa only [Ex.rd] using h, fun ws G' H' ds x r q => ⟨by rw [r.length]; exact lim_size q.1, fun a o n hd => (p.go x).newT n hd r q.2⟩⟩
theorem sd_lst {es : List Expr} {xs : Exs} {pos : Pos} (h : PA X es (tA X C E xs)) : PE X (.List es pos) (tE X C E (.lst xs)) :=
  PE.imp (pe_lst h) fun σ H Qh ⟨S, G, env, Ep, Q, p, h⟩ =>
    ⟨S, G, env, Ep, fun ds => ds.length ≤ lim ∧ Q true (.list ds), p.st, p.rz, by simpa only [Ex.rd] using h, fun ws G' H' ds x r q => ⟨by rw [r.length]; exact lim_size q.1, fun a n => (p.go x).newL n r q.2⟩⟩

/-! ### booleans as values -/
theorem sd_ite {t a b : Expr} {et ea eb : Ex} {pos : Pos} (ht : PT X t (tT X C E et)) (ha : PE X a (tE X C E ea)) (hb : PE X b (tE X C E eb)) : PE X (.IfExp t a b pos) (tE X C E (.ite et ea eb)) :=
  PE.imp (pe_ifExp ht ha hb) fun σ H Qh ⟨S, G, env, Ep, Q, p, h⟩ =>
    ⟨S, G, env, Ep, fun _ x => ∃ c, truth x = some c ∧ if c = true then ea.rd C Ep env Q else eb.rd C Ep env Q, p.st.less (fun i hi => by simp [Ex.vs]; exact .inl hi), p.rz, by simpa only [Ex.rd] using h, fun fr d G' H' x ⟨c, hc, q⟩ => by
      refine ⟨c, hc, ?_⟩
      cases c with
      | true => rw [if_pos rfl] at q ⊢; exact (p.go x).tail (fun i hi => by simp [Ex.vs]; exact .inr (.inl hi)) q
      | false => rw [if_neg Bool.false_ne_true] at q ⊢; exact (p.go x).tail (fun i hi => by simp [Ex.vs]; exact .inr (.inr hi)) q⟩
theorem sd_not {a : Expr} {ea : Ex} {pos : Pos} (ha : PE X a (tE X C E ea)) : PE X (.UnaryOp .Not a pos) (tE X C E (.not_ ea)) :=
  PE.imp (pe_notT ha) fun σ H Qh ⟨S, G, env, Ep, Q, p, h⟩ =>
    p.use (Qa := fun _ x => ∃ c, truth x = some c ∧ Q false (.bool !c)) (fun i hi => by simpa [Ex.vs] using hi) (by simpa only [Ex.rd] using h) fun v G1 H1 f x p1 x1 r1 ⟨c, hc, q⟩ => ⟨c, truth_tru p1.sub r1 hc, p1.done (.bl _) q⟩
theorem sd_and {a b : Expr} {rest : List Expr} {ea eb : Ex} {pos : Pos} (ha : PE X a (tE X C E ea)) (hb : PE X (.BoolOp .And (b :: rest) pos) (tE X C E eb)) : PE X (.BoolOp .And (a :: b :: rest) pos) (tE X C E (.and_ ea eb)) :=
  PE.imp (pe_andT ha hb) fun σ H Qh ⟨S, G, env, Ep, Q, p, h⟩ => by
    refine ⟨S, G, env, Ep, fun f x => ∃ c, truth x = some c ∧ if c = true then eb.rd C Ep env Q else Q f x, ⟨p.st.less (fun i hi => by simp [Ex.vs]; exact .inl hi), p.rz, fun v H' pp => ?_⟩, by simpa only [Ex.rd] using h⟩
    obtain ⟨G', fr, d, x, r, c, hc, q⟩ := pp
    have pp' : Post X.K S G H (fun f' d' => f' = fr ∧ d' = d) v H' := ⟨G', fr, d, x, r, rfl, rfl⟩
    obtain ⟨G2, fr2, d2, x2, r2, e1, e2⟩ := pp'.frz p.st.src
    subst e1 e2
    refine ⟨c, truth_tru x2.gh r2 hc, ?_⟩
    cases c with
    | true => rw [if_pos rfl] at q ⊢; exact (p.go x).tail (fun i hi => by simp [Ex.vs]; exact .inr hi) q
    | false => rw [if_neg Bool.false_ne_true] at q ⊢; exact p.fin _ _ ⟨G', _, _, x, r, q⟩
theorem sd_or {a b : Expr} {rest : List Expr} {ea eb : Ex} {pos : Pos} (ha : PE X a (tE X C E ea)) (hb : PE X (.BoolOp .Or (b :: rest) pos) (tE X C E eb)) : PE X (.BoolOp .Or (a :: b :: rest) pos) (tE X C E (.or_ ea eb)) :=
  PE.imp (pe_orT ha hb) fun σ H Qh ⟨S, G, env, Ep, Q, p, h⟩ => by
    refine ⟨S, G, env, Ep, fun f x => ∃ c, truth x = some c ∧ if c = true then Q f x else eb.rd C Ep env Q, ⟨p.st.less (fun i hi => by simp [Ex.vs]; exact .inl hi), p.rz, fun v H' pp => ?_⟩, by simpa only [Ex.rd] using h⟩
    obtain ⟨G', fr, d, x, r, c, hc, q⟩ := pp
    have pp' : Post X.K S G H (fun f' d' => f' = fr ∧ d' = d) v H' := ⟨G', fr, d, x, r, rfl, rfl⟩
    obtain ⟨G2, fr2, d2, x2, r2, e1, e2⟩ := pp'.frz p.st.src
    subst e1 e2
    refine ⟨c, truth_tru x2.gh r2 hc, ?_⟩
    cases c with
    | false => rw [if_neg Bool.false_ne_true] at q ⊢; exact (p.go x).tail (fun i hi => by simp [Ex.vs]; exact .inr hi) q
    | true => rw [if_pos rfl] at q ⊢; exact p.fin _ _ ⟨G', _, _, x, r, q⟩
theorem sd_one {a : Expr} {ea : Ex} {op : BoolOp} {pos : Pos} (ha : PE X a (tE X C E ea)) : PE X (.BoolOp op [a] pos) (tE X C E ea) := pe_one ha

/-! ### items, slices -/
theorem sd_ix {a b : Expr} {ea eb : Ex} {pos : Pos} (hu : X.A.units + 65 < cLine) (hs : PlainIx b) (ha : PE X a (tE X C E ea)) (hb : PE X b (tE X C E eb)) : PE X (.Subscript a b pos) (tE X C E (.ix ea eb)) :=
  PE.imp (pe_ix ((ix_list.or ix_tup).or (ix_dict hu)) ha hb hs) fun σ H Qh ⟨S, G, env, Ep, Q, p, h⟩ =>
    p.use (fun i hi => by simp [Ex.vs]; exact .inl hi) (by simpa only [Ex.rd] using h) fun v G1 H1 f x p1 x1 r1 h1 =>
      p1.use (fun i hi => by simp [Ex.vs]; exact .inr hi) h1 fun w G2 H2 f' y p2 x2 r2 h2 => by
        have r1' := r1.mono x2.gg
        cases x with
        | dict kvs =>
          have h2' : keyFor kvs y = true ∧ ∃ d, lookD kvs y = some d ∧ Q false d := by cases y <;> exact h2
          obtain ⟨hk, d, e, q⟩ := h2'
          obtain ⟨a, o, rfl, g, m⟩ := dic_get p2.sub r1' r2 hk
          cases o with
          | none => rw [show lookD kvs y = none from m] at e; cases e
          | some u =>
            obtain ⟨d', e', ru⟩ := m
            rw [e] at e'; cases e'
            exact .inr ⟨a, u, rfl, g, p2.done ru q⟩
        | _ =>
        cases y <;> first
          | exact False.elim h2
          | (obtain ⟨a, xs, rfl, h1, q1⟩ := r1'.lst'
             rw [r2.int']
             obtain ⟨d, e, q⟩ := h2
             obtain ⟨v, e', r⟩ := ixD q1 e
             exact .inl (.inl ⟨a, xs, _, v, rfl, rfl, SqL.of (p2.sub _ _ h1), e', p2.done r q⟩))
          | (obtain ⟨a, xs, rfl, h1, q1⟩ := r1'.tup'
             rw [r2.int']
             obtain ⟨d, e, q⟩ := h2
             obtain ⟨v, e', r⟩ := ixD q1 e
             exact .inl (.inr ⟨a, xs, _, v, rfl, rfl, p2.sub.t h1, e', p2.done r q⟩))
def tO (X : Cx) (C : Nat → Fs) (E : XK) (e : Exo) : TO := fun σ H Qh => ∃ S G env Ep Q, StE X.K S G H σ env e.vs ∧ Rz X.mg S G H Ep E ∧ e.rd C Ep env Q ∧ ∀ o G' H', Ext S G H G' H' → Q o → Qh o H'
theorem PO.imp {e : Option Expr} {t t' : TO} (h : PO X e t) (k : ∀ σ H Q, t' σ H Q → t σ H Q) : PO X e t' := by
  obtain ⟨h⟩ := h
  exact ⟨fun pins s σ H Q I q => h pins s σ H Q I (k σ H Q q)⟩
theorem so_no : PO X none (tO X C E .no) := PO.imp po_none fun σ H Qh ⟨S, G, env, Ep, Q, st, rz, h, k⟩ => k none G H st.refl (by simpa only [Exo.rd] using h)
theorem so_so {e : Expr} {x : Ex} (h : PE X e (tE X C E x)) : PO X (some e) (tO X C E (.so x)) := PO.imp (po_some h) fun σ H Qh ⟨S, G, env, Ep, Q, st, rz, h, k⟩ => by
  refine ⟨S, G, env, Ep, _, ⟨st.less (fun i hi => by simpa [Exo.vs] using hi), rz, fun v H' pp => ?_⟩, by simpa only [Exo.rd] using h⟩
  obtain ⟨G', fr, d, x1, r1, q⟩ := pp.frz st.src
  obtain ⟨i, rfl, q⟩ := isInt_iff q
  rw [r1.int']
  exact ⟨i, rfl, k _ _ _ x1 q⟩
theorem cutD_all {xs : List PyData} {lo hi : Option Int} (h : HT.sIx xs.length 0 lo = 0 ∧ HT.sIx xs.length xs.length hi = xs.length) : cutD xs lo hi = xs := by
  unfold cutD
  rw [h.1, h.2, List.drop_zero, Nat.sub_zero, List.take_length]
theorem sd_slc {a : Expr} {lo hi : Option Expr} {ea : Ex} {el eh : Exo} {p2 pos : Pos} (ha : PE X a (tE X C E ea)) (hl : PO X lo (tO X C E el)) (hh : PO X hi (tO X C E eh)) : PE X (.Subscript a (.Slice lo hi none p2) pos) (tE X C E (.slc ea el eh)) :=
  PE.imp (pe_slice (sl_list.or sl_tupF) ha hl hh) fun σ H Qh ⟨S, G, env, Ep, Q, p, h⟩ =>
    p.use (fun i hi => by simp [Ex.vs]; exact .inl hi) (by simpa only [Ex.rd] using h) fun v G1 H1 f x p1 x1 r1 h1 =>
      ⟨S, G1, env, Ep, _, p1.st.less (fun i hi => by simp [Ex.vs]; exact .inr (.inl hi)), p1.rz, h1, fun o1 G2 H2 x2 h2 =>
        ⟨S, G2, env, Ep, _, (p1.go x2).st.less (fun i hi => by simp [Ex.vs]; exact .inr (.inr hi)), (p1.go x2).rz, h2, fun o2 G3 H3 x3 h3 => by
          have p3 := (p1.go x2).go x3
          have r3 := (r1.mono x2.gg).mono x3.gg
          cases x <;> first
            | exact False.elim h3
            | (obtain ⟨a, xs, rfl, h1, q1⟩ := r3.lst'
               exact .inl ⟨a, xs, rfl, SqL.of (p3.sub _ _ h1), fun l hl => p3.newL hl (cutR q1 _ _) h3⟩)
            | (obtain ⟨a, xs, rfl, h1, q1⟩ := r3.tup'
               refine .inr ⟨a, xs, rfl, p3.sub.t h1, fun e => ?_, fun l o hl hd => p3.newT hl hd (cutR q1 _ _) h3⟩
               rw [q1.length] at e
               have h4 : Q false (.tuple (cutD _ o1 o2)) := h3
               rw [cutD_all e] at h4
               exact p3.done r3 h4)⟩⟩

/-! ### built-ins -/
theorem sd_bi0 {e : Expr} {b : Bi} {es : Exs} {r : List V → Hp → VK → Prop} (h : PE X e (tCB r (tA X C E es)))
    (k : ∀ {S : Sx} {G H : Hp} {σ : L2.St} {env : Env} {vs : List Nat} {Ep : Str → Prop} {Q : Bool → PyData → Prop} {Qh : VK} {ws : List V} {ds : List PyData}, Pt X E S G H σ env vs Ep Q Qh → RAll X.K G ws ds → BiP b ds Q → r ws H Qh) : PE X e (tE X C E (.bi b es)) :=
  PE.imp h fun σ H Qh ⟨S, G, env, Ep, Q, p, h⟩ =>
    ⟨S, G, env, Ep, _, p.st, p.rz, by simpa only [Ex.rd] using h, fun ws G' H' ds x r q => k (p.go x) r q⟩
theorem RAll.one' {K : PySem.W.Frag} {ws : List V} {d : PyData} (h : RAll K G ws [d]) : ∃ v, ws = [v] ∧ R K G v d := by
  cases h with
  | cons h t => cases t; exact ⟨_, rfl, h⟩
theorem RAll.two' {K : PySem.W.Frag} {ws : List V} {d e : PyData} (h : RAll K G ws [d, e]) : ∃ v w, ws = [v, w] ∧ R K G v d ∧ R K G w e := by
  cases h with
  | cons h t => obtain ⟨w, rfl, r⟩ := RAll.one' t; exact ⟨_, _, rfl, h, r⟩
theorem bi_len {ds : List PyData} {Q : Bool → PyData → Prop} (h : BiP .len ds Q) : ∃ d n, ds = [d] ∧ Q false (.int (n : Nat)) ∧ ((∃ xs, d = .list xs ∧ n = xs.length) ∨ (∃ xs, d = .tuple xs ∧ n = xs.length) ∨ ∃ x, d = .str x ∧ x.length ≤ lim ∧ n = x.length) := by
  match ds, h with
  | [.list xs], h => exact ⟨_, _, rfl, h, .inl ⟨_, rfl, rfl⟩⟩
  | [.tuple xs], h => exact ⟨_, _, rfl, h, .inr (.inl ⟨_, rfl, rfl⟩)⟩
  | [.str x], h => exact ⟨_, _, rfl, h.2, .inr (.inr ⟨_, rfl, h.1, rfl⟩)⟩
theorem sd_len {x : Str} {e : Expr} {es : List Expr} {xs : Exs} {p pos : Pos} (hx : x = "len") (hg : Gl X x) (hm : X.mg x = none) (ha : PA X (e :: es) (tA X C E xs)) (ns : ∀ v p, e ≠ .Starred v p) (hpl : (backTo pos (starEach es X.env)).any (·.1) = false) : PE X (.Call (.Name x p) (e :: es) [] pos) (tE X C E (.bi .len xs)) := by
  subst hx
  refine sd_bi0 (pe_callB call_len hg hm boot_len ha (by decide) (by decide) (star_of ns) hpl) fun {S G H σ env vs Ep Q Qh ws ds} p r0 h => ?_
  obtain ⟨d, n, rfl, q, k⟩ := bi_len h
  obtain ⟨v, rfl, r⟩ := r0.one'
  refine ⟨v, n, rfl, ?_, p.done (.int _) q⟩
  rcases k with ⟨xs, rfl, rfl⟩ | ⟨xs, rfl, rfl⟩ | ⟨x, rfl, hz, rfl⟩
  · obtain ⟨a, ys, rfl, h1, q1⟩ := r.lst'
    exact .inl ⟨ys, SqL.of (p.sub _ _ h1), q1.length.symm⟩
  · obtain ⟨a, ys, rfl, h1, q1⟩ := r.tup'
    exact .inr ⟨ys, p.sub.t h1, q1.length.symm⟩
  · rw [r.str']; exact ⟨lim_size hz, rfl⟩
end
end DL
set_option Elab.async false
set_option linter.all false
set_option maxRecDepth 100000
set_option maxHeartbeats 2000000
/-! D5: more built-ins, calls of defs, what is walked, comprehensions. -/
namespace DL
open PySem PySem.Spec PyProof.Rows L2

section
variable {X : Cx} {C : Nat → Fs} {E : XK} {S : Sx} {G H G' H' : Hp} {σ : L2.St} {env : Env} {vs : List Nat} {Ep : Str → Prop} {Q : Bool → PyData → Prop} {Qh : VK}
variable {x : Str} {e : Expr} {es : List Expr} {xs : Exs} {p pos : Pos}
theorem sd_abs (hx : x = "abs") (hg : Gl X x) (hm : X.mg x = none) (ha : PA X (e :: es) (tA X C E xs)) (ns : ∀ v p, e ≠ .Starred v p) (hpl : (backTo pos (starEach es X.env)).any (·.1) = false) : PE X (.Call (.Name x p) (e :: es) [] pos) (tE X C E (.bi .abs xs)) := by
  subst hx
  refine sd_bi0 (pe_callB call_abs hg hm (by decide +kernel) ha (by decide) (by decide) (star_of ns) hpl) fun {S G H σ env vs Ep Q Qh ws ds} p r0 h => ?_
  match ds, h, r0 with
  | [.int i], h, r0 =>
    obtain ⟨v, rfl, r⟩ := r0.one'
    rw [r.int']
    exact ⟨i, rfl, p.done (.int _) h⟩
theorem sd_int (hx : x = "int") (hg : Gl X x) (hm : X.mg x = none) (ha : PA X (e :: es) (tA X C E xs)) (ns : ∀ v p, e ≠ .Starred v p) (hpl : (backTo pos (starEach es X.env)).any (·.1) = false) : PE X (.Call (.Name x p) (e :: es) [] pos) (tE X C E (.bi .int xs)) := by
  subst hx
  refine sd_bi0 (pe_callTy call_int1 hg hm (by decide +kernel) ha (by decide) (by decide) (star_of ns) hpl) fun {S G H σ env vs Ep Q Qh ws ds} p r0 h => ?_
  match ds, h, r0 with
  | [.int i], h, r0 =>
    obtain ⟨v, rfl, r⟩ := r0.one'
    rw [r.int']
    exact .inl ⟨i, rfl, p.done (.int _) h⟩
  | [.bool i], h, r0 =>
    obtain ⟨v, rfl, r⟩ := r0.one'
    rw [r.bl']
    exact .inr ⟨i, rfl, p.done (.int _) h⟩
theorem sd_tupleOf (hx : x = "tuple") (hg : Gl X x) (hm : X.mg x = none) (ha : PA X (e :: es) (tA X C E xs)) (ns : ∀ v p, e ≠ .Starred v p) (hpl : (backTo pos (starEach es X.env)).any (·.1) = false) : PE X (.Call (.Name x p) (e :: es) [] pos) (tE X C E (.bi .tuple xs)) := by
  subst hx
  refine sd_bi0 (pe_callTy call_tupF hg hm (by decide +kernel) ha (by decide) (by decide) (star_of ns) hpl) fun {S G H σ env vs Ep Q Qh ws ds} p r0 h => ?_
  match ds, h, r0 with
  | [.list l], h, r0 =>
    obtain ⟨v, rfl, r⟩ := r0.one'
    obtain ⟨a, ys, rfl, h1, q1⟩ := r.lst'
    exact ⟨a, ys, rfl, .inl ⟨SqL.of (p.sub _ _ h1), fun b o hb hd => p.newT hb hd q1 h⟩⟩
  | [.tuple l], h, r0 =>
    obtain ⟨v, rfl, r⟩ := r0.one'
    obtain ⟨a, ys, rfl, h1, q1⟩ := r.tup'
    exact ⟨a, ys, rfl, .inr ⟨p.sub.t h1, p.done r h⟩⟩
theorem sd_listOf (hx : x = "list") (hg : Gl X x) (hm : X.mg x = none) (ha : PA X (e :: es) (tA X C E xs)) (ns : ∀ v p, e ≠ .Starred v p) (hpl : (backTo pos (starEach es X.env)).any (·.1) = false) : PE X (.Call (.Name x p) (e :: es) [] pos) (tE X C E (.bi .list xs)) := by
  subst hx
  refine sd_bi0 (pe_callTy call_list_of hg hm (by decide +kernel) ha (by decide) (by decide) (star_of ns) hpl) fun {S G H σ env vs Ep Q Qh ws ds} p r0 h => ?_
  match ds, h, r0 with
  | [.list l], h, r0 =>
    obtain ⟨v, rfl, r⟩ := r0.one'
    obtain ⟨a, ys, rfl, h1, q1⟩ := r.lst'
    exact ⟨a, ys, rfl, .inl (SqL.of (p.sub _ _ h1)), fun b hb => p.newL hb q1 h⟩
  | [.tuple l], h, r0 =>
    obtain ⟨v, rfl, r⟩ := r0.one'
    obtain ⟨a, ys, rfl, h1, q1⟩ := r.tup'
    exact ⟨a, ys, rfl, .inr (p.sub.t h1), fun b hb => p.newL hb q1 h⟩
theorem allInts_eq : ∀ {ds : List PyData} {ns : List Int}, allInts ds = some ns → ds = ns.map PyData.int
  | [], ns, h => by cases h; rfl
  | .int i :: r, ns, h => by
    simp only [allInts, Option.map_eq_some_iff] at h
    obtain ⟨ms, h1, rfl⟩ := h
    rw [allInts_eq h1]; rfl
  | .none :: r, ns, h => by cases h
  | .bool _ :: r, ns, h => by cases h
  | .str _ :: r, ns, h => by cases h
  | .list _ :: r, ns, h => by cases h
  | .tuple _ :: r, ns, h => by cases h
  | .dict _ :: r, ns, h => by cases h
theorem sd_sum (hc : X.calm = true) (hx : x = "sum") (hg : Gl X x) (hm : X.mg x = none) (ha : PA X (e :: es) (tA X C E xs)) (ns : ∀ v p, e ≠ .Starred v p) (hpl : (backTo pos (starEach es X.env)).any (·.1) = false) : PE X (.Call (.Name x p) (e :: es) [] pos) (tE X C E (.bi .sum xs)) := by
  subst hx
  refine sd_bi0 (pe_callB (cr_sum hc) hg hm (by decide +kernel) ha (by decide) (by decide) (star_of ns) hpl) fun {S G H σ env vs Ep Q Qh ws ds} p r0 h => ?_
  match ds, h, r0 with
  | [.list l], ⟨ns, hn, h⟩, r0 =>
    obtain ⟨v, rfl, r⟩ := r0.one'
    obtain ⟨a, ys, rfl, h1, q1⟩ := r.lst'
    have e := allInts_eq hn
    subst e
    rw [q1.ints] at h1
    exact ⟨a, ns, rfl, SqL.of (p.sub _ _ h1), p.done (.int _) h⟩
theorem sd_bits {o : Expr} {eo : Ex} {apos : Pos} (ho : PE X o (tE X C E eo)) (hb : attributeBase o "bit_length" X.env (eval o X.env) = eval o X.env) (hl : (apos.endLine == pos.line) = true) : PE X (.Call (.Attribute o "bit_length" apos) [] [] pos) (tE X C E (.mth .bits eo .nil)) :=
  PE.imp (pe_bits ho hb hl) fun σ H Qh ⟨S, G, env, Ep, Q, p, h⟩ =>
    p.use (fun i hi => by simp [Ex.vs]; exact .inl hi) (by simpa only [Ex.rd] using h) fun v G1 H1 f x p1 x1 r1 h1 => by
      obtain ⟨_, h1⟩ := h1
      simp only [Exs.rd] at h1
      cases x <;> first
        | exact False.elim h1
        | (rw [r1.int']; exact ⟨_, rfl, p1.done (.int _) h1⟩)

/-! ### calls of defs -/
def ArgOk (K : PySem.W.Frag) (S : Sx) (G : Hp) (v : V) : Sl → Prop
  | .sh d => R K G v d
  | .src => ∃ sa ca, S = some (sa, ca) ∧ v = .ref sa
  | _ => False
theorem ArgOk.mono {K : PySem.W.Frag} {v : V} (s : Sub G G') : ∀ {l : Sl}, ArgOk K S G v l → ArgOk K S G' v l
  | .sh _, h => R.mono s h
  | .src, h => h
def tAa (X : Cx) (C : Nat → Fs) (E : XK) (es : Exs) : TA := fun σ H Qh => ∃ S G env Ep Q, StE X.K S G H σ env es.vs ∧ Rz X.mg S G H Ep E ∧ es.rda C Ep env Q ∧ ∀ ws G' H' sl, Ext S G H G' H' → Paired (ArgOk X.K S G') ws sl → Q sl → Qh ws H'
theorem saa_nil : PA X [] (tAa X C E .nil) := PA.imp pa_nil fun σ H Qh ⟨S, G, env, Ep, Q, st, rz, h, k⟩ => k [] G H [] st.refl .nil (by simpa only [Exs.rda] using h)
theorem paired_mono {K : PySem.W.Frag} (s : Sub G G') : ∀ {ws : List V} {sl : List Sl}, Paired (ArgOk K S G) ws sl → Paired (ArgOk K S G') ws sl
  | _, _, .nil => .nil
  | _, _, .cons h t => .cons (h.mono s) (paired_mono s t)
theorem saa_var {i : Nat} {xs : Exs} (ha : PE X e (tVar i)) (hr : PA X es (tAa X C E xs)) (ns : ∀ v p, e ≠ .Starred v p) : PA X (e :: es) (tAa X C E (.cons (.var i) xs)) :=
  PA.imp (pa_cons ha hr (star_of ns)) fun σ H Qh ⟨S, G, env, Ep, Q, st, rz, h, k⟩ => by
    have s := st.at_ i (by simp [Exs.vs, Ex.vs])
    simp only [Exs.rda] at h
    cases e1 : env[i]? with
    | none => rw [e1] at h; exact h.elim
    | some l =>
      have s := s l e1
      rw [e1] at h
      cases l with
      | un => exact h.elim
      | src =>
        obtain ⟨sa, ca, hs, hv⟩ := s
        exact ⟨_, hv, S, G, env, Ep, _, st.less (fun i hi => by simp [Exs.vs]; exact .inr hi), rz, h, fun ws G2 H2 sl x2 r2 q2 => k (.ref sa :: ws) G2 H2 (.src :: sl) x2 (.cons ⟨sa, ca, hs, rfl⟩ r2) q2⟩
      | sh d =>
        obtain ⟨v, hv, r⟩ := s
        exact ⟨v, hv, S, G, env, Ep, _, st.less (fun i hi => by simp [Exs.vs]; exact .inr hi), rz, h, fun ws G2 H2 sl x2 r2 q2 => k (v :: ws) G2 H2 (.sh d :: sl) x2 (.cons (r.mono x2.gg) r2) q2⟩
      | ow d =>
        obtain ⟨v, hv, r⟩ := s
        exact ⟨v, hv, S, G, env, Ep, _, st.less (fun i hi => by simp [Exs.vs]; exact .inr hi), rz, h, fun ws G2 H2 sl x2 r2 q2 => k (v :: ws) G2 H2 (.sh d :: sl) x2 (.cons (r.mono x2.gg) r2) q2⟩
theorem saa_cons {y : Ex} {xs : Exs} (ha : PE X e (tE X C E y)) (hy : ∀ i, y ≠ .var i) (hr : PA X es (tAa X C E xs)) (ns : ∀ v p, e ≠ .Starred v p) : PA X (e :: es) (tAa X C E (.cons y xs)) :=
  PA.imp (pa_cons ha hr (star_of ns)) fun σ H Qh ⟨S, G, env, Ep, Q, st, rz, h, k⟩ => by
    have h' : y.rd C Ep env fun _ d => xs.rda C Ep env fun ds => Q (.sh d :: ds) := by
      cases y <;> first | exact absurd rfl (hy _) | simpa only [Exs.rda] using h
    refine ⟨S, G, env, Ep, _, ⟨st.less (fun i hi => by simp [Exs.vs]; exact .inl hi), rz, fun v H' pp => ?_⟩, h'⟩
    obtain ⟨G', fr, d, x1, r1, q⟩ := pp.frz st.src
    exact ⟨S, G', env, Ep, _, (st.ext x1).less (fun i hi => by simp [Exs.vs]; exact .inr hi), rz.ext x1 st.src, q, fun ws G2 H2 ds x2 r2 q2 => k (v :: ws) G2 H2 (.sh d :: ds) (x1.trans st.src x2) (.cons (R.mono x2.gg r1) r2) q2⟩
/-- the promise of a def by its worth -/
def SpOf (K : PySem.W.Frag) (mg : Str → Option Value) (c : Fs) : Sp := fun ws H Q E => ∃ S G sl Qp Ep, Sub G H ∧ SrcOk S G H ∧ Paired (ArgOk K S G) ws sl ∧ c sl Qp Ep ∧ Rz mg S G H Ep E ∧ ∀ v H', Post K S G H Qp v H' → Q v H'
/-- the def called x keeps it -/
def FnAt (X : Cx) (lv : Nat) (x : Str) (c : Fs) : Prop := ∃ f fd ps, X.mg x = some (.ref f) ∧ PySem.W.keepIn X.K (.ref f) = true ∧ Binds X.K fd ps [] ∧ FnG X.prog X.w X.K X.mg X.base lv f fd ps (SpOf X.K X.mg c)
theorem sd_call {lv j : Nat} (hr : Room lv X.A) (hcl : Calm X.A) (F : FnAt X lv x (C j)) (hg : Gl X x) (hx : Passes (L2.CX X.prog X.w) X E) (ha : PA X (e :: es) (tAa X C E xs)) (ns : ∀ v p, e ≠ .Starred v p) (hpl : (backTo pos (starEach es X.env)).any (·.1) = false) (hdb : (x == ("__debug__" : Str)) = false) :
    PE X (.Call (.Name x p) (e :: es) [] pos) (tE X C E (.call j xs)) := by
  obtain ⟨f, fd, ps, hm, hk, hb, ok⟩ := F
  refine PE.imp (pe_callG (E := E) ok hr hcl hg hm hk hb hx ha hdb (star_of ns) hpl) fun σ H Qh ⟨S, G, env, Ep, Q, p, h⟩ => ?_
  refine ⟨S, G, env, Ep, _, p.st, p.rz, by simpa only [Ex.rd] using h, fun ws G' H' sl x1 r1 q1 => ?_⟩
  have p1 := p.go x1
  show SpOf X.K X.mg (C j) (ws ++ []) H' Qh E
  rw [List.append_nil]
  exact ⟨S, G', sl, Q, Ep, p1.sub, p1.st.src, r1, q1, p1.rz, p1.fin⟩

/-! ### what is walked -/
/-- an item: read, or a tuple that is unpacked at once -/
def RW (wk : Bool) (K : PySem.W.Frag) (G : Hp) (v : V) (d : PyData) : Prop := R K G v d ∨ (wk = true ∧ ∃ a xs ds, v = .ref a ∧ d = .tuple ds ∧ SqT K G a xs ∧ RAll K G xs ds)
def It.wk : It → Bool
  | .enum _ => true | .zip _ _ => true | .zips _ _ => true | _ => false
/-- J goes over the items xs, of which G knows -/
def Walks (wk : Bool) (K : PySem.W.Frag) (S : Sx) (J : L2.It) (xs : List PyData) (G : Hp) : Prop := ∀ G2 H2, Sub G G2 → Sub G2 H2 → SrcOk S G2 H2 →
  (∀ i d, xs[i]? = some d → J.go i H2 ∧ ∀ v H3, J.yld i H2 v H3 → ∃ G3, Ext S G2 H2 G3 H3 ∧ RW wk K G3 v d) ∧ J.stop xs.length H2
/-- what a list or a dict is -/
def LD (o : HO) : Prop := (∃ xs, o = .lst xs) ∨ ∃ ps, DO o ps
/-- G'' is G' but for lists and dicts that G had -/
def Thin (G G' G'' : Hp) : Prop := Sub G'' G' ∧ ∀ a o, G' a = some o → G'' a = some o ∨ (LD o ∧ G a = some o)
theorem not_LD_tup {xs : List V} : ¬ LD (.tup xs) := by
  rintro (⟨ys, h⟩ | ⟨ps, kvs, h, _⟩) <;> cases h
theorem not_LD_frz {o : Obj} {u : HO} : ¬ LD (.frz o u) := by
  rintro (⟨ys, h⟩ | ⟨ps, kvs, h, _⟩) <;> cases h
theorem Thin.t {G G' G'' : Hp} {K : PySem.W.Frag} {a : Addr} {xs : List V} (t : Thin G G' G'') (h : SqT K G' a xs) : SqT K G'' a xs := by
  rcases h with (h | ⟨o, h⟩) | h
  · exact .inl (.inl ((t.2 _ _ h).resolve_right fun z => not_LD_tup z.1))
  · exact .inl (.inr ⟨o, (t.2 _ _ h).resolve_right fun z => not_LD_frz z.1⟩)
  · exact .inr h
mutual
theorem R.thin {G G' G'' : Hp} {K : PySem.W.Frag} (t : Thin G G' G'') : ∀ {v : V} {d : PyData}, R K G' v d → flat d = true → R K G'' v d
  | _, _, .non, _ => .non
  | _, _, .bl b, _ => .bl b
  | _, _, .int i, _ => .int i
  | _, _, .str x, _ => .str x
  | _, _, .lst h r, e => by simp [flat] at e
  | _, _, .tup h hd r, e => .tup ((t.2 _ _ h).resolve_right fun z => not_LD_frz z.1) hd (RAll.thin t r (by simpa [flat] using e))
  | _, _, .dic h o r, e => by simp [flat] at e
theorem RAll.thin {G G' G'' : Hp} {K : PySem.W.Frag} (t : Thin G G' G'') : ∀ {vs : List V} {ds : List PyData}, RAll K G' vs ds → flats ds = true → RAll K G'' vs ds
  | _, _, .nil, _ => .nil
  | _, _, .cons h r, e => by
    simp only [flats, Bool.and_eq_true] at e
    exact .cons (R.thin t h e.1) (RAll.thin t r e.2)
end
def tI (X : Cx) (C : Nat → Fs) (E : XK) (it : It) : TI := fun σ H Rh => ∃ S G env Ep Q, StE X.K S G H σ env it.vs ∧ Rz X.mg S G H Ep E ∧ it.rd C Ep env Q ∧ ∀ J lf xs G' H', Ext S G H G' H' → (∀ G'', (G'' = G' ∨ (lf = true ∧ Thin G G' G'')) → Walks it.wk X.K S J xs G'') → Q lf xs → Rh J H'
theorem isSeq_iff {d : PyData} {Q : List PyData → Prop} (h : isSeq d Q) : ∃ xs, (d = .list xs ∨ d = .tuple xs) ∧ Q xs := by
  cases d <;> first | exact ⟨_, .inl rfl, h⟩ | exact ⟨_, .inr rfl, h⟩ | cases h
theorem walks_l {K : PySem.W.Frag} {a : Addr} {ws : List V} {xs : List PyData} (h : G a = some (.lst ws)) (r : RAll K G ws xs) : Walks false K S (Itl K a) xs G := fun G2 H2 s1 s2 so => by
  have hl : SqL K H2 a ws := SqL.of (s2 _ _ (s1 _ _ h))
  refine ⟨fun i d e => ?_, ⟨ws, hl, by rw [r.length]; exact Nat.le_refl _⟩⟩
  obtain ⟨v, ev, rv⟩ := r.get i e
  refine ⟨⟨ws, v, hl, ev⟩, fun v' H3 ⟨e3, y⟩ => ?_⟩
  subst e3
  have e4 := y ws hl
  rw [ev] at e4
  cases e4
  exact ⟨G2, .refl s2 so, .inl (rv.mono s1)⟩
theorem walks_t {K : PySem.W.Frag} {a : Addr} {ws : List V} {xs : List PyData} (h : SqT K G a ws) (r : RAll K G ws xs) : Walks false K S (Itt K a) xs G := fun G2 H2 s1 s2 so => by
  have hl : SqT K H2 a ws := s2.t (s1.t h)
  refine ⟨fun i d e => ?_, ⟨ws, hl, by rw [r.length]; exact Nat.le_refl _⟩⟩
  obtain ⟨v, ev, rv⟩ := r.get i e
  refine ⟨⟨ws, v, hl, ev⟩, fun v' H3 ⟨e3, y⟩ => ?_⟩
  subst e3
  have e4 := y ws hl
  rw [ev] at e4
  cases e4
  exact ⟨G2, .refl s2 so, .inl (rv.mono s1)⟩
theorem intsD_get {a : Int} {n i : Nat} {d : PyData} (h : (intsD a n)[i]? = some d) : i < n ∧ d = .int (a + (i : Nat)) := by
  obtain ⟨h1, e⟩ := List.getElem?_eq_some_iff.mp h
  have h2 : i < n := by simpa [intsD] using h1
  refine ⟨h2, ?_⟩
  rw [← e]
  simp [intsD]
theorem intsD_length {a : Int} {n : Nat} : (intsD a n).length = n := by simp [intsD]
theorem walks_r {K : PySem.W.Frag} {lo : Int} {n : Nat} : Walks false K S (Itr lo n) (intsD lo n) G := fun G2 H2 s1 s2 so => by
  refine ⟨fun i d e => ?_, by rw [intsD_length]; exact Nat.le_refl _⟩
  obtain ⟨hi, rfl⟩ := intsD_get e
  exact ⟨hi, fun v' H3 ⟨e3, y⟩ => by subst e3 y; exact ⟨G2, .refl s2 so, .inl (.int _)⟩⟩
/-- a list or a tuple is walked -/
theorem pi_both {tg l : Expr} {tl : TE} (hl : PE X l tl) : PI X tg l (fun σ H Rh => tl σ H fun x H1 => ∃ a, x = .ref a ∧ (((∃ xs, SqL X.K H1 a xs) ∧ Rh (Itl X.K a) H1) ∨ ((∃ xs, SqT X.K H1 a xs) ∧ Rh (Itt X.K a) H1))) := by
  refine ⟨fun pins s σ H Rh I h => thn (hl.run pins s σ H _ I h) fun v s1 ⟨x, H1, I1, r1, a, e, q1⟩ => ?_⟩
  subst e
  cases r1
  have fp : ∀ b ∈ [s1.heap.objs.size], FpOk X pins H1 b := fun b hb => by
    rw [List.mem_singleton.mp hb]
    exact I1.fpOk (Nat.le_refl _) (I1.hok.fresh (Nat.le_refl _))
  rcases q1 with ⟨⟨xs, hq⟩, q⟩ | ⟨⟨xs, hq⟩, q⟩
  · obtain ⟨its, _, p, _⟩ := I1.list hq
    exact wpAny_pyIter_list p.isList ⟨_, _, _, Itl X.K a, H1, rfl, I1.kept (t' := s1.toks) (fun b o => Heap.get?_push_of_some _), turn_list a _, ⟨_, Heap.get?_push_size _ rfl, rfl, rfl⟩, fp, q⟩
  · obtain ⟨its, _, p, _⟩ := I1.tuple hq
    exact wpAny_pyIter_tuple p ⟨_, _, _, Itt X.K a, H1, rfl, I1.kept (t' := s1.toks) (fun b o => Heap.get?_push_of_some _), turn_tuple a _, ⟨_, Heap.get?_push_size _ rfl, rfl, rfl⟩, fp, q⟩
/-- what is walked, frozen: its list, not of G, or flat -/
theorem post_leaf {K : PySem.W.Frag} {Q : Bool → PyData → Prop} {v : V} (h : Post K S G H Q v H') (s0 : Sub G H) (so : SrcOk S G H) : ∃ G' fr d, Ext S G H G' H' ∧ R K G' v d ∧ Q fr d ∧ (leafy fr d = true → ∀ G'', Thin G G' G'' → R K G'' v d) := by
  obtain ⟨G1, fr, d, x, r, q⟩ := h
  cases fr with
  | false =>
    have r' : R K G1 v d := by simpa [RF] using r
    exact ⟨G1, _, d, x, r', q, fun lf G'' t => R.thin t r' (by simpa [leafy] using lf)⟩
  | true =>
    simp only [RF, if_true] at r
    obtain ⟨r, n⟩ := r
    obtain ⟨a, o, e, ho, hg, k⟩ := r.at
    refine ⟨upd G1 a o, _, d, x.freeze so (n a e) ho hg, k _ (.nw hg) upd_same, q, fun lf G'' t => ?_⟩
    have ga : G a = none := by
      cases z : G a with
      | none => rfl
      | some u => have := n a e; rw [s0 _ _ z] at this; cases this
    have keep : G'' a = some o := (t.2 a o upd_same).resolve_right fun z => by rw [ga] at z; cases z.2
    cases d with
    | list ds =>
      obtain ⟨a', xs, e', h1, h2, ra⟩ := r
      have ea : a' = a := by rw [e] at e'; cases e'; rfl
      subst ea
      rw [h1] at ho; cases ho
      rw [e]
      exact .lst keep (RAll.thin t (ra.mono (.nw hg)) (by simpa [leafy, flat] using lf))
    | dict kvs => simp [leafy, flat] at lf
    | none => cases r
    | bool b => cases r
    | int i => cases r
    | str x => cases r
    | tuple xs => cases r
theorem si_seq {tg : Expr} {y : Ex} (h : PE X e (tE X C E y)) : PI X tg e (tI X C E (.seq y)) :=
  PI.imp (pi_both h) fun σ H Rh ⟨S, G, env, Ep, Q, st, rz, h, k⟩ => by
    refine ⟨S, G, env, Ep, _, ⟨st.less (fun i hi => by simpa [It.vs] using hi), rz, fun v H' pp => ?_⟩, by simpa only [It.rd] using h⟩
    obtain ⟨G', fr, d, x1, r1, q, thin⟩ := post_leaf pp st.sub st.src
    obtain ⟨xs, hd, q⟩ := isSeq_iff q
    have all : ∀ G'', (G'' = G' ∨ (leafy fr d = true ∧ Thin G G' G'')) → R X.K G'' v d := fun G'' hg => by
      rcases hg with rfl | ⟨lf, t⟩
      · exact r1
      · exact thin lf G'' t
    rcases hd with rfl | rfl
    · obtain ⟨a, ys, rfl, h1, q1⟩ := r1.lst'
      refine ⟨a, rfl, .inl ⟨⟨ys, SqL.of (x1.gh _ _ h1)⟩, k _ _ _ _ _ x1 (fun G'' hg => ?_) q⟩⟩
      obtain ⟨a', ys', e', h1', q1'⟩ := (all G'' hg).lst'
      cases e'
      exact walks_l h1' q1'
    · obtain ⟨a, ys, rfl, h1, q1⟩ := r1.tup'
      refine ⟨a, rfl, .inr ⟨⟨ys, x1.gh.t h1⟩, k _ _ _ _ _ x1 (fun G'' hg => ?_) q⟩⟩
      obtain ⟨a', ys', e', h1', q1'⟩ := (all G'' hg).tup'
      cases e'
      exact walks_t h1' q1'
theorem si_range1 {tg : Expr} {a : Expr} {y : Ex} (hg : Gl X "range") (hm : X.mg "range" = none) (h : PE X a (tE X C E y)) (ns : ∀ v p, a ≠ .Starred v p) : PI X tg (.Call (.Name "range" p) [a] [] pos) (tI X C E (.range1 y)) :=
  PI.imp (pi_range1 hg hm (sa_cons h sa_nil ns) (star_of ns)) fun σ H Rh ⟨S, G, env, Ep, Q, st, rz, h, k⟩ => by
    refine ⟨S, G, env, Ep, fun ds => match ds with
      | [d] => isInt d fun n => -(2 ^ 60) ≤ n ∧ n ≤ 2 ^ 60 ∧ Q true (intsD 0 n.toNat)
      | _ => False, st.less (fun i hi => by simpa [It.vs, Exs.vs] using hi), rz, by simp only [Exs.rd]; simpa only [It.rd] using h, fun ws G' H' ds x r0 q => ?_⟩
    match ds, r0, q with
    | [d], r0, q =>
      obtain ⟨i, rfl, h1, h2, q⟩ := isInt_iff q
      obtain ⟨v, rfl, r⟩ := r0.one'
      rw [r.int']
      exact ⟨i, rfl, by omega, by omega, k _ _ _ _ _ x (fun _ _ => walks_r) q⟩
theorem si_range2 {tg : Expr} {a b : Expr} {y z : Ex} (hg : Gl X "range") (hm : X.mg "range" = none) (h : PE X a (tE X C E y)) (hb : PE X b (tE X C E z)) (ns : ∀ v p, a ≠ .Starred v p) (ns2 : ∀ v p, b ≠ .Starred v p) : PI X tg (.Call (.Name "range" p) [a, b] [] pos) (tI X C E (.range2 y z)) :=
  PI.imp (pi_range2 hg hm (sa_cons h (sa_cons hb sa_nil ns2) ns) (by rw [star_of ns, star_of ns2]; rfl) (by rw [star_of ns2]; rfl)) fun σ H Rh ⟨S, G, env, Ep, Q, st, rz, h, k⟩ => by
    refine ⟨S, G, env, Ep, fun ds => match ds with
      | [d, d'] => isInt d fun m => isInt d' fun n => -(2 ^ 60) ≤ m ∧ m ≤ 2 ^ 60 ∧ -(2 ^ 60) ≤ n ∧ n ≤ 2 ^ 60 ∧ Q true (intsD m (n - m).toNat)
      | _ => False, st.less (fun i hi => by simpa [It.vs, Exs.vs] using hi), rz, by simp only [Exs.rd]; simpa only [It.rd] using h, fun ws G' H' ds x r0 q => ?_⟩
    match ds, r0, q with
    | [d, d'], r0, q =>
      obtain ⟨i, e1, q1⟩ := isInt_iff (d := d) q
      obtain ⟨j, e2, h1, h2, h3, h4, q2⟩ := isInt_iff (d := d') q1
      subst e1 e2
      obtain ⟨v, w, rfl, r, r'⟩ := r0.two'
      rw [r.int', r'.int']
      exact ⟨i, j, rfl, ⟨by omega, by omega, by omega, by omega⟩, k _ _ _ _ _ x (fun _ _ => walks_r) q2⟩
end
end DL
set_option Elab.async false
set_option linter.all false
set_option maxRecDepth 100000
set_option maxHeartbeats 2000000
/-! Db: what is read off the part G is read off the heap; built-ins over data. -/
namespace DL
open PySem PySem.Spec PyProof.Rows L2

section
variable {X : Cx} {pins : List (Addr × Obj)} {σ : L2.St} {G H : Hp} {s : Shared}
mutual
theorem R.reads (I : Inv X pins σ H s) (sy : SysD X.base) (sub : Sub G H) : ∀ {v : V} {d : PyData}, R X.K G v d → ∀ {u : Value}, L2.RelV v u → ∃ as, Reads s.heap u d as ∧ sysModules ∉ as
  | _, _, .non, u, r => by cases r; exact ⟨[], .none, by simp⟩
  | _, _, .bl b, u, r => by cases r; exact ⟨[], .bool b, by simp⟩
  | _, _, .int i, u, ⟨t, e⟩ => by subst e; exact ⟨[], .int i t, by simp⟩
  | _, _, .str x, u, ⟨t, e⟩ => by subst e; exact ⟨[], .str x t, by simp⟩
  | _, _, .lst (a := a) h q, u, r => by
    cases r
    obtain ⟨its, vr, ⟨o, n, ho, hc, -, hd⟩, -⟩ := I.list (SqL.of (sub _ _ h))
    obtain ⟨as, q1, q2⟩ := RAll.reads I sy sub q vr
    refine ⟨a :: as, .list ho hc hd (by simpa using q1), ?_⟩
    intro z
    rcases List.mem_cons.mp z with z | z
    · obtain ⟨os, _, _, s1, s2, _⟩ := sy
      have e := I.bk _ _ s1
      rw [z, ho] at e
      cases e
      exact absurd (hc.symm.trans s2) (by decide)
    · exact q2 z
  | _, _, .tup h _ q, u, r => by
    cases r
    obtain ⟨its, vr, ⟨o, ho, hc, n, hd⟩, -⟩ := I.tuple (SqT.frz (sub _ _ h))
    obtain ⟨as, q1, q2⟩ := RAll.reads I sy sub q vr
    exact ⟨as, .tuple ho hc hd (by simpa using q1), q2⟩
  | _, _, .dic (a := a) h dp q, u, r => by
    cases r
    obtain ⟨kvs0, rfl, e⟩ := dp
    obtain ⟨-, hsm, vs, kv, o, es, ep, ho, hx, hd, -, pr, -⟩ := dk_rd I.hok (sub.rd h)
    obtain ⟨as, bs, k1, k2, n1, n2⟩ := RKV.reads I sy sub q e kv pr
    refine ⟨a :: as ++ bs, .dict ho hx.1 hd k1 k2, ?_⟩
    intro z
    rcases List.mem_append.mp z with z | z
    · rcases List.mem_cons.mp z with z | z
      · exact absurd z.symm (by simpa using hsm)
      · exact n1 z
    · exact n2 z
theorem RAll.reads (I : Inv X pins σ H s) (sy : SysD X.base) (sub : Sub G H) : ∀ {vs : List V} {ds : List PyData}, RAll X.K G vs ds → ∀ {us : List Value}, Vals vs us → ∃ as, ReadsAll s.heap us ds as ∧ sysModules ∉ as
  | _, _, .nil, us, r => by cases r; exact ⟨[], .nil, by simp⟩
  | _, _, .cons h t, us, r0 => by
    cases r0
    rename_i r rr
    obtain ⟨as, q1, n1⟩ := R.reads I sy sub h r
    obtain ⟨bs, q2, n2⟩ := RAll.reads I sy sub t rr
    exact ⟨as ++ bs, .cons q1 q2, by simp [n1, n2]⟩
theorem RKV.reads (I : Inv X pins σ H s) (sy : SysD X.base) (sub : Sub G H) : ∀ {ps : List (PyData × V)} {kvs : List (PyData × PyData)}, RKV X.K G ps kvs → ∀ {kvs0 : List (Key × V)} {vs : List (Key × Value)} {es : List DictEntry},
    ps = kvs0.map (fun p => (kD p.1, p.2)) → KV kvs0 vs → Pairs (mixKind X.prog X.w) es vs → ∃ as bs, ReadsAll s.heap (es.map (·.key)) (kvs.map (·.1)) as ∧ ReadsAll s.heap (es.map (·.val)) (kvs.map (·.2)) bs ∧ sysModules ∉ as ∧ sysModules ∉ bs
  | _, _, .nil, kvs0, vs, es, e, kv, pr => by
    cases kvs0 with
    | nil => cases kv; cases pr; exact ⟨[], [], .nil, .nil, by simp, by simp⟩
    | cons _ _ => cases e
  | _, _, .cons (k := k) hv t, kvs0, vs, es, e, kv, pr => by
    cases kvs0 with
    | nil => cases e
    | cons p0 r0 =>
      simp only [List.map_cons, List.cons.injEq, Prod.mk.injEq] at e
      obtain ⟨⟨e1, e2⟩, e3⟩ := e
      cases kv with
      | cons z zz =>
        cases pr with
        | @cons e0 _ es1 _ p1 p2 pp =>
          obtain ⟨z1, z2⟩ := z
          obtain ⟨as, bs, q1, q2, n1, n2⟩ := RKV.reads I sy sub t e3 zz pp
          rw [← e2] at z2
          obtain ⟨bs1, q3, n3⟩ := R.reads I sy sub hv z2
          rw [← p2] at q3
          have kq : Reads s.heap e0.key k [] := by
            rcases keyIs_shape p1 with ⟨i, tk, y1, y2⟩ | ⟨i, tk, y1, y2⟩
            · rw [z1, y1] at e1
              subst e1
              rw [y2]
              exact .int i tk
            · rw [z1, y1] at e1
              subst e1
              rw [y2]
              exact .str i tk
          exact ⟨[] ++ as, bs1 ++ bs, .cons kq q1, .cons q3 q2, by simpa using n1, by simp [n2, n3]⟩
end
theorem R.reads1 (I : Inv X pins σ H s) (sy : SysD X.base) (sub : Sub G H) {v : V} {d : PyData} (r : R X.K G v d) {u : Value} (h : L2.RelV v u) : ∃ as, Reads s.heap u d as := let ⟨as, q, _⟩ := r.reads I sy sub h; ⟨as, q⟩
end
end DL

namespace DL
open PySem PySem.Spec PyProof.Rows L2
section
variable {X : Cx} {C : Nat → Fs} {E : XK} {S : Sx} {G H : Hp} {σ : L2.St} {env : Env} {Q : Bool → PyData → Prop} {Qh : VK}
theorem CallR.or {f : Value} {r1 r2 : List V → Hp → VK → Prop} (h1 : CallR X f r1) (h2 : CallR X f r2) : CallR X f (fun ws H Qh => r1 ws H Qh ∨ r2 ws H Qh) := fun pins s σ H xs us Q I r h => by
  rcases h with h | h
  · exact h1 pins s σ H xs us Q I r h
  · exact h2 pins s σ H xs us Q I r h
theorem un1 {v : V} {us : List Value} (r : Vals [v] us) : ∃ u, us = [u] ∧ L2.RelV v u := by
  cases r with
  | cons h t => cases t; exact ⟨_, rfl, h⟩
theorem un2 {v v' : V} {us : List Value} (r : Vals [v, v'] us) : ∃ u u', us = [u, u'] ∧ L2.RelV v u ∧ L2.RelV v' u' := by
  cases r with
  | cons h t => obtain ⟨u', rfl, h'⟩ := un1 t; exact ⟨_, _, rfl, h, h'⟩
def tyN : Ty → String
  | .tup => "tuple" | .int => "int" | .bool => "bool" | .str => "str" | .list => "list" | .dict => "dict"
def rIsaD (X : Cx) (T : Ty) : List V → Hp → VK → Prop := fun ws H Qh => ∃ G v d, Sub G H ∧ R X.K G v d ∧ ws = [v, .ty (tyN T)] ∧ Qh (.bl (isaD T d)) H
theorem call_isaD (sy : SysD X.base) (T : Ty) : CallR X (.builtin "isinstance") (rIsaD X T) := by
  rintro pins s σ H xs us Q I vr ⟨G, v, d, sub, r, rfl, q⟩
  obtain ⟨u, u', rfl, h1, h2⟩ := un2 vr
  obtain ⟨as, rd⟩ := r.reads1 I sy sub h1
  have e : u' = .type (tyN T) := h2
  subst e
  have fin : ∀ b tk, s.toks ≤ tk → Q (.bl b) H → EP X pins σ Q (.bool b) { s with toks := tk } := fun b tk _ q => ⟨.bl b, H, I.tok _, rfl, q⟩
  cases T
  · exact PySem.W.isinstance_tuple_data rd fun tk h => fin _ tk h q
  · exact PySem.W.isinstance_int_data rd fun tk h => fin _ tk h q
  · exact PySem.W.isinstance_bool_data rd fun tk h => fin _ tk h q
  · exact PySem.W.isinstance_str_data rd fun tk h => fin _ tk h q
  · exact PySem.W.isinstance_list_data rd fun tk h => fin _ tk h q
  · exact PySem.W.isinstance_dict_data rd fun tk h => fin _ tk h q
def rReprD (X : Cx) : List V → Hp → VK → Prop := fun ws H Qh => ∃ G v d, Sub G H ∧ R X.K G v d ∧ okR d ∧ ws = [v] ∧ Qh (.str d.shown) H
theorem call_reprD (sy : SysD X.base) (hc : Calm X.A) (hu : X.A.units + 65 < cLine) : CallR X (.builtin "repr") (rReprD X) := by
  rintro pins s σ H xs us Q I vr ⟨G, v, d, sub, r, ⟨k1, k2, k3⟩, rfl, q⟩
  obtain ⟨u, rfl, h1⟩ := un1 vr
  obtain ⟨as, rd, hn⟩ := r.reads I sy sub h1
  have refs : ∀ a, u = .ref a → wpAny (model X.prog X.w) X.A (call (.builtin "repr") [.ref a]) (EP X pins σ Q) X.xe s := fun a e => by
    subst e
    exact repr_of_reads' rd k1 (fun _ => hn) hc (by omega) (fun _ _ e => e) (fun h' t tk hk => ⟨.str d.shown, H, I.kept (t' := tk) hk, ⟨_, rfl⟩, q⟩) k2
  cases r with
  | non => cases h1; exact P.repr_of_none ⟨.str _, H, I.tok _, ⟨_, rfl⟩, q⟩
  | bl b => cases h1; exact P.repr_of_bool ⟨.str _, H, I.tok _, ⟨_, rfl⟩, q⟩
  | int i =>
    obtain ⟨t, rfl⟩ := h1
    exact P.repr_of_int (by simpa [PyData.showable] using k1) ⟨.str _, H, I.tok _, ⟨_, rfl⟩, q⟩
  | str x =>
    obtain ⟨t, rfl⟩ := h1
    exact P.repr_of_str (hsz := k2) ⟨.str _, H, I.tok _, ⟨_, rfl⟩, q⟩
  | lst _ _ => cases h1; exact refs _ rfl
  | tup _ _ => cases h1; exact refs _ rfl
  | dic _ _ _ => cases h1; exact refs _ rfl
theorem alikeB_ok {xs : List PyData} (h : alikeB xs = true) : PySem.W.AllAlike xs ∧ PySem.W.AlikeAll xs := by
  unfold alikeB at h
  rw [Bool.and_eq_true] at h
  have a : PySem.W.AllAlike xs := fun d hd e he => List.all_eq_true.mp (List.all_eq_true.mp h.1 d hd) e he
  exact ⟨a, a, fun x hx e => by subst e; exact absurd (List.all_eq_true.mp h.2 _ hx) (by decide)⟩
theorem vals_get : ∀ {vs : List V} {us : List Value}, Vals vs us → ∀ {i : Nat} {u : Value}, us[i]? = some u → ∃ v, vs[i]? = some v ∧ L2.RelV v u
  | _, _, .nil, i, u, e => by simp at e
  | _, _, .cons h t, 0, u, e => by simp at e; subst e; exact ⟨_, rfl, h⟩
  | _, _, .cons h t, i + 1, u, e => by
    obtain ⟨v, e', r⟩ := vals_get t (i := i) (u := u) (by simpa using e)
    exact ⟨v, by simpa using e', r⟩
theorem fold_mem {f : PyData → PyData → Bool} : ∀ {xs : List PyData} {x : PyData}, xs.foldl (fun a y => if f a y then y else a) x ∈ x :: xs
  | [], x => by simp
  | y :: ys, x => by
    rw [List.foldl_cons]
    have h := fold_mem (f := f) (xs := ys) (x := if f x y then y else x)
    rcases List.mem_cons.mp h with h | h
    · rw [h]; split <;> simp
    · exact List.mem_cons_of_mem _ (List.mem_cons_of_mem _ h)
def rBest (X : Cx) (f : PyData → List PyData → PyData) : List V → Hp → VK → Prop := fun ws H Qh => ∃ G v x xs, Sub G H ∧ (R X.K G v (.list (x :: xs)) ∨ R X.K G v (.tuple (x :: xs))) ∧ okM (x :: xs) ∧ ws = [v] ∧ ∀ u, R X.K G u (f x xs) → Qh u H
theorem best_end {pins : List (Addr × Obj)} {s : Shared} {f : PyData → List PyData → PyData} {x : PyData} {xs : List PyData} {ys : List V} {its : List Value} (hf : f x xs ∈ x :: xs) (I : Inv X pins σ H s) (sy : SysD X.base) (sub : Sub G H) (al : PySem.W.AllAlike (x :: xs))
    (q1 : RAll X.K G ys (x :: xs)) (vr : Vals ys its) (k : ∀ u, R X.K G u (f x xs) → Qh u H) : ∀ (i : Nat) v h' tk bs, its.toArray[i]? = some v → Reads h' v (f x xs) bs → (∀ b o, s.heap.get? b = some o → h'.get? b = some o) → EP X pins σ Qh v { s with heap := h', toks := tk } := by
  intro i u h' tk bs e rd hk
  obtain ⟨v, e1, rv⟩ := vals_get vr (i := i) (u := u) (by simpa using e)
  obtain ⟨d, e2, r⟩ := q1.getV i e1
  have I2 : Inv X pins σ H { s with heap := h', toks := tk } := I.kept (t' := tk) hk
  obtain ⟨as, rd2⟩ := r.reads1 I2 sy sub rv
  have e3 : d = f x xs := PySem.W.alike_unique _ _ _ _ _ (al _ (List.mem_of_getElem? e2) _ hf) rd2 rd
  subst e3
  exact ⟨v, H, I2, rv, k v r⟩
theorem call_maxD (sy : SysD X.base) (hc : X.calm = true) (hu : X.A.units + 65 < cLine) : CallR X (.builtin "max") (rBest X PySem.W.maxD) := by
  rintro pins s σ H xs us Q I vr ⟨G, v, x, ds, sub, r, ⟨k1, k2⟩, rfl, q⟩
  obtain ⟨u, rfl, h1⟩ := un1 vr
  obtain ⟨al, al2⟩ := alikeB_ok k1
  have hm : PySem.W.maxD x ds ∈ x :: ds := fold_mem (f := fun a y => PySem.W.dataLt a y)
  rcases r with r | r
  · obtain ⟨a, ys, rfl, h, q1⟩ := r.lst'
    cases h1
    obtain ⟨its, vr, p, -⟩ := I.list (SqL.of (sub _ _ h))
    obtain ⟨as, rd, -⟩ := q1.reads I sy sub vr
    exact PySem.W.max_list_data (I.ok.hd hc) p.isList (by simpa using rd) al2 (by omega) (best_end hm I sy sub al q1 vr q)
  · obtain ⟨a, ys, rfl, h, q1⟩ := r.tup'
    cases h1
    obtain ⟨its, vr, p, -⟩ := I.tuple (sub.t h)
    obtain ⟨as, rd, -⟩ := q1.reads I sy sub vr
    exact PySem.W.max_tuple_data (I.ok.hd hc) p (by simpa using rd) al2 (by omega) (best_end hm I sy sub al q1 vr q)
theorem call_minD (sy : SysD X.base) (hc : X.calm = true) (hu : X.A.units + 65 < cLine) : CallR X (.builtin "min") (rBest X PySem.W.minD) := by
  rintro pins s σ H xs us Q I vr ⟨G, v, x, ds, sub, r, ⟨k1, k2⟩, rfl, q⟩
  obtain ⟨u, rfl, h1⟩ := un1 vr
  obtain ⟨al, al2⟩ := alikeB_ok k1
  have hm : PySem.W.minD x ds ∈ x :: ds := fold_mem (f := fun a y => PySem.W.dataLt y a)
  rcases r with r | r
  · obtain ⟨a, ys, rfl, h, q1⟩ := r.lst'
    cases h1
    obtain ⟨its, vr, p, -⟩ := I.list (SqL.of (sub _ _ h))
    obtain ⟨as, rd, -⟩ := q1.reads I sy sub vr
    exact PySem.W.min_list_data (I.ok.hd hc) p.isList (by simpa using rd) al2 (by omega) (best_end hm I sy sub al q1 vr q)
  · obtain ⟨a, ys, rfl, h, q1⟩ := r.tup'
    cases h1
    obtain ⟨its, vr, p, -⟩ := I.tuple (sub.t h)
    obtain ⟨as, rd, -⟩ := q1.reads I sy sub vr
    exact PySem.W.min_tuple_data (I.ok.hd hc) p (by simpa using rd) al2 (by omega) (best_end hm I sy sub al q1 vr q)
/-! sorted -/
theorem okS_ok {xs : List PyData} (h : okS xs) : PySem.W.AllAlike xs ∧ PySem.W.Sortable xs ∧ PyData.depthAll xs ≤ 60 := by
  obtain ⟨⟨a, b⟩, c⟩ := h
  refine ⟨(alikeB_ok a).1, ?_, b⟩
  rw [Bool.or_eq_true] at c
  rcases c with c | c
  · refine .inl fun d hd => ?_
    have e := List.all_eq_true.mp c d hd
    match d, e with
    | .tuple (x :: r), _ => exact ⟨x, r, rfl⟩
  · refine .inr fun d hd => ?_
    have e := List.all_eq_true.mp c d hd
    refine ⟨fun z => ?_, fun ys z => ?_⟩ <;> (subst z; cases e)
theorem depth_mem : ∀ {xs : List PyData} {x : PyData}, x ∈ xs → x.depth ≤ PyData.depthAll xs
  | y :: ys, x, h => by
    simp only [PyData.depthAll]
    rcases List.mem_cons.mp h with h | h
    · subst h; omega
    · have := depth_mem h; omega
def Ru (K : PySem.W.Frag) (G : Hp) (h : Heap) (u : Value) (d : PyData) : Prop := ∃ v, L2.RelV v u ∧ R K G v d
theorem ru_each {K : PySem.W.Frag} {h : Heap} : ∀ {vs : List V} {us : List Value} {ds : List PyData}, Vals vs us → RAll K G vs ds → PySem.W.EachIs (Ru K G h) us ds
  | _, _, _, .nil, .nil => .nil
  | _, _, _, .cons h t, .cons r rr => .cons ⟨_, h, r⟩ (ru_each t rr)
theorem each_ru {K : PySem.W.Frag} {h : Heap} : ∀ {us : List Value} {ds : List PyData}, PySem.W.EachIs (Ru K G h) us ds → ∃ vs, Vals vs us ∧ RAll K G vs ds
  | _, _, .nil => ⟨[], .nil, .nil⟩
  | _, _, .cons ⟨v, h, r⟩ t => by
    obtain ⟨vs, q1, q2⟩ := each_ru t
    exact ⟨v :: vs, .cons h q1, .cons r q2⟩
theorem each_read {h : Heap} : ∀ {us : List Value} {ds : List PyData} {as : List Addr}, ReadsAll h us ds as → PySem.W.EachIs (fun v d => ∃ as, Reads h v (_root_.id d) as) us ds
  | _, _, _, .nil => .nil
  | _, _, _, .cons h t => .cons ⟨_, h⟩ (each_read t)
def rSortD (X : Cx) : List V → Hp → VK → Prop := fun ws H Qh => ∃ G v xs, Sub G H ∧ R X.K G v (.list xs) ∧ okS xs ∧ xs.length ≤ lim ∧ ws = [v] ∧ ∀ p ys, H p = none → RAll X.K G ys (sortD xs) → Qh (.ref p) (upd H p (.lst ys))
theorem call_sortD (sy : SysD X.base) (hu : X.A.units + 65 < cLine) : CallR X (.builtin "sorted") (rSortD X) := by
  rintro pins s σ H xs us Q I vr ⟨G, v, ds, sub, r, k1, k2, rfl, q⟩
  obtain ⟨u, rfl, h1⟩ := un1 vr
  obtain ⟨al, so, dp⟩ := okS_ok k1
  obtain ⟨a, ys, rfl, h, q1⟩ := r.lst'
  cases h1
  obtain ⟨its, vr, p, hz⟩ := I.list (SqL.of (sub _ _ h))
  obtain ⟨as, rd, -⟩ := q1.reads I sy sub vr
  refine PySem.W.sorted_data (enc := _root_.id) p.isList (ru_each (h := s.heap) vr q1) (each_read rd) (by simpa using al) (by simpa using so) (lim_size k2) (fun b hb => ?_) fun out ho eo => ?_
  · have := depth_mem hb
    show X.A.units + 2 + b.depth < cLine
    omega
  · obtain ⟨vs, v1, v2⟩ := each_ru eo
    obtain ⟨c, hat⟩ := sortedAll_at s.heap its out.toArray
    have el : vs.length = ds.length := by rw [v1.length]; exact ho
    exact ⟨.ref _, _, I.laid (t' := s.toks) (a := s.heap.objs.size + 1) (o := .lst vs) (fun _ _ => sortedAll_old) (by omega) ⟨by rw [el]; exact lim_size k2, out, c, v1, hat⟩, rfl, q _ _ (I.hok.fresh (by omega)) v2⟩
end
end DL
set_option Elab.async false
set_option linter.all false
set_option maxRecDepth 100000
set_option maxHeartbeats 2000000
/-! Dz: zip(a, b, strict=True) of two lists or tuples of one length. -/
namespace DL
open PySem PySem.Spec PyProof.Rows L2
open PySem.Sem (wp)

/-- the strict zip's own object -/
abbrev ZO (h : Heap) (z TI TO : Addr) (f0 : Value) : Prop := h.get? z = some { cls := .type "zip", dict := none, data := .fields #[f0, .bool false, .bool true, .ref TI, .ref TO], slots := #[] }
/-- a list's (a tuple's) iterator -/
def ItAt (ta : Bool) (h : Heap) (i l : Addr) (k : Nat) : Prop := if ta = true then h.IsTupleIter i l k else h.IsListIter i l k
def SqAt (ta : Bool) (h : Heap) (l : Addr) (vs : Array Value) : Prop := if ta = true then h.IsTuple l vs else h.IsList l vs
section
variable {prog : Program} {w : World} {A : Around} {E : Value → Shared → Prop} {s : Shared} {ta : Bool}
theorem ItAt.objAt {h : Heap} {i l : Addr} {k : Nat} (x : ItAt ta h i l k) : ∃ o, h.get? i = some o ∧ ∀ v, o.data ≠ .cell v := by
  cases ta
  · obtain ⟨o, e, _, d⟩ : h.IsListIter i l k := x
    exact ⟨o, e, fun v q => by rw [d] at q; cases q⟩
  · obtain ⟨o, e, _, d⟩ : h.IsTupleIter i l k := x
    exact ⟨o, e, fun v q => by rw [d] at q; cases q⟩
theorem ItAt.lt {h : Heap} {i l : Addr} {k : Nat} (x : ItAt ta h i l k) : i < h.objs.size := let ⟨_, e, _⟩ := x.objAt; Heap.lt_size e
theorem ItAt.to {h h' : Heap} {i l : Addr} {k : Nat} (x : ItAt ta h i l k) (e : ∀ o, h.get? i = some o → h'.get? i = some o) : ItAt ta h' i l k := by
  cases ta
  · exact Heap.IsListIter.at x fun o q => e o q
  · exact Heap.IsTupleIter.at x fun o q => e o q
theorem SqAt.to {h h' : Heap} {l : Addr} {vs : Array Value} (x : SqAt ta h l vs) (e : ∀ o, h.get? l = some o → h'.get? l = some o) : SqAt ta h' l vs := by
  cases ta
  · exact Heap.IsList.at x fun o q => e o q
  · exact Heap.IsTuple.at x fun o q => e o q
theorem draw_one {i l : Addr} {vs : Array Value} {k : Nat} {x : Value} {Q : Option Value → Shared → Prop} (f : ItAt ta s.heap i l k) (hl : SqAt ta s.heap l vs) (hx : vs[k]? = some x)
    (h : ∀ h', ItAt ta h' i l (k + 1) → Heap.SameBut i s.heap h' → Q (some x) { s with heap := h' }) : wpAny (model prog w) A (Builtin.SmallTypes.nextOrEnd (.ref i)) Q E s := by
  unfold Builtin.SmallTypes.nextOrEnd
  refine wpAny_bind (wpAny_attempt ?_)
  cases ta
  · exact wpAny_nextOf_list_item f hl hx fun h' f' sb => wpAny_pure (h h' f' sb)
  · exact RZ.nextOf_tuple_item f hl hx fun h' f' sb => wpAny_pure (h h' f' sb)
theorem draw_end {i l : Addr} {vs : Array Value} {k : Nat} {Q : Option Value → Shared → Prop} (hh : A.handled = none) (f : ItAt ta s.heap i l k) (hl : SqAt ta s.heap l vs) (hx : vs[k]? = none)
    (h : ∀ h', Heap.ExtBut i s.heap h' → Q none { s with heap := h' }) : wpAny (model prog w) A (Builtin.SmallTypes.nextOrEnd (.ref i)) Q E s := by
  unfold Builtin.SmallTypes.nextOrEnd
  have stop : ∀ h' e, Heap.ExtBut i s.heap h' → (∃ o, h'.get? e = some o ∧ o.cls = .type "StopIteration") → wpAny (model prog w) A (do if ← isInstance (.ref e) (.type "StopIteration") then pure none else throw (.ref e)) Q E { s with heap := h' } := fun h' e x ⟨o, ho, hc⟩ =>
    wpAny_bind (wpAny_isInstance (T := "StopIteration") (b := true) ⟨o, ho, hc⟩ isSubtype_stop (wpAny_pure (h h' x)))
  refine wpAny_bind (wpAny_attempt ?_)
  cases ta
  · exact wpAny_nextOf_list_end hh f hl hx stop
  · exact RZ.nextOf_tuple_end hh f hl hx stop
end
end DL

namespace DL
open PySem PySem.Spec PyProof.Rows L2
open PySem.Sem (wp)
section
variable {prog : Program} {w : World} {A : Around} {E : Value → Shared → Prop} {s : Shared} {ta tb : Bool} {z TI TO i1 i2 l1 l2 : Addr} {k1 k2 : Nat} {xs ys : Array Value} {x y a b : Value}
theorem szip_item {Q : Value → Shared → Prop} (D : ZipApart z TI TO i1 i2 l1 l2) (hz : ZO s.heap z TI TO .none) (hTI : IsPair s.heap TI (.ref i1) (.ref i2)) (hTO : IsPair s.heap TO a b)
    (f1 : ItAt ta s.heap i1 l1 k1) (f2 : ItAt tb s.heap i2 l2 k2) (s1 : SqAt ta s.heap l1 xs) (s2 : SqAt tb s.heap l2 ys) (hx : xs[k1]? = some x) (hy : ys[k2]? = some y)
    (fin : ∀ h', ZO h' z TI TO (rawInt s.heap.objs.size) → IsPair h' TO x y → ItAt ta h' i1 l1 (k1 + 1) → ItAt tb h' i2 l2 (k2 + 1) → IsPair h' s.heap.objs.size x y →
      (∀ c o, c ≠ z → c ≠ TO → c ≠ i1 → c ≠ i2 → s.heap.get? c = some o → h'.get? c = some o) → Q (.ref s.heap.objs.size) { s with heap := h' }) :
    wpAny (model prog w) A (Builtin.«zip.__next__» ⟨[.ref z], []⟩) (fun out t => ∃ v, out = .done (.ret v) ∧ Q v t) E s := by
  show wpAny _ _ (field (.ref z) 2 >>= _) _ _ s
  refine wpAny_bind (wpAny_field hz rfl (x := .bool true) rfl ?_)
  show wpAny _ _ (field (.ref z) 3 >>= _) _ _ s
  refine wpAny_bind (wpAny_field hz rfl (x := .ref TI) rfl (wpAny_bind (wpAny_seqItems hTI rfl ?_)))
  show wpAny _ _ (Builtin.SmallTypes.ownedTupleIsFree (.ref z) >>= _) _ _ s
  unfold Builtin.SmallTypes.ownedTupleIsFree
  refine wpAny_bind (wpAny_bind (wpAny_field hz rfl (x := .none) rfl (wpAny_pure ?_)))
  simp only [if_true]
  refine wpAny_bind (wpAny_rule (wpAny_bind (wpAny_field hz rfl (x := .ref TO) rfl (wpAny_bind (wpAny_setField_rec hz (by simp) ?_)))))
  intro g1 z1 b1
  replace z1 : ZO g1 z TI TO .ellipsis := z1
  refine wpAny_bind ?_
  simp only [List.zipIdx_cons, List.zipIdx_nil, List.forIn_cons, List.forIn_nil]
  have up1 : ∀ c o, c ≠ z → s.heap.get? c = some o → g1.get? c = some o := fun c o n e => b1.extBut _ _ n e
  refine wpAny_bind (wpAny_bind (wpAny_onRaise ?_))
  show wpAny _ _ (Builtin.SmallTypes.nextOrEnd (.ref i1)) _ _ _
  refine draw_one (s := { s with heap := g1 }) (f1.to fun o => up1 _ o D.i1z) (s1.to fun o => up1 _ o D.l1z) hx ?_
  intro g2 f12 b2
  have up2 : ∀ c o, c ≠ z → c ≠ i1 → s.heap.get? c = some o → g2.get? c = some o := fun c o n m e => b2.extBut _ _ m (up1 c o n e)
  have t2 : IsPair g2 TO a b := up2 _ _ D.TOz D.TOi1 hTO
  refine wpAny_bind (wpAny_seqItems t2 rfl (wpAny_bind (wpAny_updateSeq_pair (s := { s with heap := g2 }) t2 ?_)))
  intro g3 t3 b3
  replace t3 : IsPair g3 TO x b := t3
  have up3 : ∀ c o, c ≠ z → c ≠ i1 → c ≠ TO → s.heap.get? c = some o → g3.get? c = some o := fun c o n m k e => b3.extBut _ _ k (up2 c o n m e)
  refine wpAny_bind (wpAny_letGo (wpAny_pure (wpAny_bind (wpAny_bind (wpAny_onRaise ?_)))))
  show wpAny _ _ (Builtin.SmallTypes.nextOrEnd (.ref i2)) _ _ _
  refine draw_one (s := { s with heap := g3 }) (f2.to fun o => up3 _ o D.i2z D.i12.symm D.TOi2.symm) (s2.to fun o => up3 _ o D.l2z D.l2i1 D.l2TO) hy ?_
  intro g4 f24 b4
  have t4 : IsPair g4 TO x b := b4.extBut _ _ D.TOi2 t3
  refine wpAny_bind (wpAny_seqItems t4 rfl (wpAny_bind (wpAny_updateSeq_pair (s := { s with heap := g4 }) t4 ?_)))
  intro g5 t5 b5
  replace t5 : IsPair g5 TO x y := t5
  refine wpAny_bind (wpAny_letGo (wpAny_pure (wpAny_pure ?_)))
  have up5 : ∀ c o, c ≠ z → c ≠ TO → c ≠ i1 → c ≠ i2 → s.heap.get? c = some o → g5.get? c = some o := fun c o n1 n2 n3 n4 e => b5.extBut _ _ n2 (b4.extBut _ _ n4 (up3 c o n1 n3 n2 e))
  have z5 : ZO g5 z TI TO .ellipsis := b5.extBut _ _ D.TOz.symm (b4.extBut _ _ D.i2z.symm (b3.extBut _ _ D.TOz.symm (b2.extBut _ _ D.i1z.symm z1)))
  have f15 : ItAt ta g5 i1 l1 (k1 + 1) := f12.to fun o e => b5.extBut _ _ D.TOi1.symm (b4.extBut _ _ D.i12 (b3.extBut _ _ D.TOi1.symm e))
  have f25 : ItAt tb g5 i2 l2 (k2 + 1) := f24.to fun o e => b5.extBut _ _ D.TOi2.symm e
  have sz : g5.objs.size = s.heap.objs.size := by rw [b5.1, b4.1, b3.1, b2.1, b1.1]
  refine wpAny_bind (wpAny_seqItems t5 rfl (wpAny_bind (wpAny_newTuple ?_)))
  show wpAny _ _ (Builtin.SmallTypes.ownedTupleHandOut (.ref z) (.ref g5.objs.size) >>= _) _ _ _
  unfold Builtin.SmallTypes.ownedTupleHandOut
  have z6 : ZO (g5.push { cls := .type "tuple", data := .seq #[x, y] }) z TI TO .ellipsis := Heap.get?_push_of_some _ z5
  refine wpAny_bind (wpAny_bind (wpAny_setField_rec z6 (by simp) ?_))
  intro g7 z7 b7
  replace z7 : ZO g7 z TI TO (rawInt g5.objs.size) := z7
  refine wpAny_setField_rec z7 (by simp) ?_
  intro g8 z8 b8
  replace z8 : ZO g8 z TI TO (rawInt g5.objs.size) := z8
  have lz : z < g5.objs.size := Heap.lt_size z5
  have up8 : ∀ c o, c ≠ z → g5.get? c = some o → g8.get? c = some o := fun c o n e => b8.extBut _ _ n (b7.extBut _ _ n (Heap.get?_push_of_some _ e))
  have t8 : IsPair g8 g5.objs.size x y := b8.extBut _ _ (Nat.ne_of_gt lz) (b7.extBut _ _ (Nat.ne_of_gt lz) (Heap.get?_push_size _ rfl))
  rw [sz] at z8 t8
  refine wpAny_pure ⟨_, rfl, ?_⟩
  show Q (.ref g5.objs.size) _
  rw [sz]
  exact fin g8 z8 (up8 _ _ D.TOz t5) (f15.to fun o => up8 _ o D.i1z) (f25.to fun o => up8 _ o D.i2z) t8 fun c o n1 n2 n3 n4 e => up8 c o n1 (up5 c o n1 n2 n3 n4 e)
theorem szip_end {Q : Fin → Shared → Prop} (hh : A.handled = none) (D : ZipApart z TI TO i1 i2 l1 l2) (hz : ZO s.heap z TI TO .none) (hTI : IsPair s.heap TI (.ref i1) (.ref i2)) (hTO : IsPair s.heap TO a b)
    (f1 : ItAt ta s.heap i1 l1 k1) (f2 : ItAt tb s.heap i2 l2 k2) (s1 : SqAt ta s.heap l1 xs) (s2 : SqAt tb s.heap l2 ys) (hx : xs[k1]? = none) (hy : ys[k2]? = none)
    (fin : ∀ h' e, (∀ c o, c ≠ z → c ≠ TO → c ≠ i1 → c ≠ i2 → s.heap.get? c = some o → h'.get? c = some o) → (∃ o, h'.get? e = some o ∧ o.cls = .type "StopIteration") → E (.ref e) { s with heap := h' }) :
    wpAny (model prog w) A (Builtin.«zip.__next__» ⟨[.ref z], []⟩) Q E s := by
  show wpAny _ _ (field (.ref z) 2 >>= _) _ _ s
  refine wpAny_bind (wpAny_field hz rfl (x := .bool true) rfl ?_)
  show wpAny _ _ (field (.ref z) 3 >>= _) _ _ s
  refine wpAny_bind (wpAny_field hz rfl (x := .ref TI) rfl (wpAny_bind (wpAny_seqItems hTI rfl ?_)))
  show wpAny _ _ (Builtin.SmallTypes.ownedTupleIsFree (.ref z) >>= _) _ _ s
  unfold Builtin.SmallTypes.ownedTupleIsFree
  refine wpAny_bind (wpAny_bind (wpAny_field hz rfl (x := .none) rfl (wpAny_pure ?_)))
  simp only [if_true]
  refine wpAny_bind (wpAny_rule (wpAny_bind (wpAny_field hz rfl (x := .ref TO) rfl (wpAny_bind (wpAny_setField_rec hz (by simp) ?_)))))
  intro g1 z1 b1
  replace z1 : ZO g1 z TI TO .ellipsis := z1
  refine wpAny_bind ?_
  simp only [List.zipIdx_cons, List.zipIdx_nil, List.forIn_cons, List.forIn_nil]
  have up1 : ∀ c o, c ≠ z → s.heap.get? c = some o → g1.get? c = some o := fun c o n e => b1.extBut _ _ n e
  refine wpAny_bind (wpAny_bind (wpAny_onRaise ?_))
  show wpAny _ _ (Builtin.SmallTypes.nextOrEnd (.ref i1)) _ _ _
  refine draw_end (s := { s with heap := g1 }) hh (f1.to fun o => up1 _ o D.i1z) (s1.to fun o => up1 _ o D.l1z) hx ?_
  intro g2 b2
  have z2 : ZO g2 z TI TO .ellipsis := b2 _ _ D.i1z.symm z1
  refine wpAny_bind (wpAny_setField_rec (s := { s with heap := g2 }) z2 (by simp) ?_)
  intro g3 z3 b3
  have up3 : ∀ c o, c ≠ z → c ≠ i1 → s.heap.get? c = some o → g3.get? c = some o := fun c o n m e => b3.extBut _ _ n (b2 _ _ m (up1 c o n e))
  refine wpAny_bind (wpAny_bind ?_)
  simp only [List.drop_succ_cons, List.drop_zero, List.zipIdx_cons, List.zipIdx_nil, List.forIn_cons, List.forIn_nil]
  refine wpAny_bind (wpAny_bind ?_)
  refine draw_end (s := { s with heap := g3 }) hh (f2.to fun o => up3 _ o D.i2z D.i12.symm) (s2.to fun o => up3 _ o D.l2z D.l2i1) hy ?_
  intro g4 b4
  refine wpAny_pure (wpAny_pure (wpAny_bind (wpAny_rule ?_)))
  have up4 : ∀ c o, c ≠ z → c ≠ TO → c ≠ i1 → c ≠ i2 → s.heap.get? c = some o → g4.get? c = some o := fun c o n1 _ n3 n4 e => b4 _ _ n4 (up3 c o n1 n3 e)
  unfold Builtin.SmallTypes.stopIteration newExc
  simp only [newTuple]
  refine wpAny_bind (wpAny_bind (wpAny_newObj_type ?_ (by size_fits)))
  refine wpAny_bind (m := firstArgMember _ _) (wpAny_of_eq (a := Value.none) (by first | rfl | (simp only [firstArgMember]; rfl)) ?_)
  refine wpAny_newObj_type ?_ (by size_fits)
  simp only [raiseNew]
  refine wpAny_bind (wpAny_handled ?_)
  rw [hh]
  refine wpAny_bind (wpAny_pure (wpAny_throw ?_))
  exact fin _ _ (fun c o n1 n2 n3 n4 e => Heap.get?_push_of_some _ (Heap.get?_push_of_some _ (up4 c o n1 n2 n3 n4 e))) ⟨_, Heap.get?_push_size _ rfl, rfl⟩
theorem next_szip {Q : Option Value → Shared → Prop} (D : ZipApart z TI TO i1 i2 l1 l2) (hz : ZO s.heap z TI TO .none) (hTI : IsPair s.heap TI (.ref i1) (.ref i2)) (hTO : IsPair s.heap TO a b)
    (f1 : ItAt ta s.heap i1 l1 k1) (f2 : ItAt tb s.heap i2 l2 k2) (s1 : SqAt ta s.heap l1 xs) (s2 : SqAt tb s.heap l2 ys) (hx : xs[k1]? = some x) (hy : ys[k2]? = some y)
    (fin : ∀ h', ZO h' z TI TO (rawInt s.heap.objs.size) → IsPair h' TO x y → ItAt ta h' i1 l1 (k1 + 1) → ItAt tb h' i2 l2 (k2 + 1) → IsPair h' s.heap.objs.size x y →
      (∀ c o, c ≠ z → c ≠ TO → c ≠ i1 → c ≠ i2 → s.heap.get? c = some o → h'.get? c = some o) → Q (some (.ref s.heap.objs.size)) { s with heap := h' }) : wpAny (model prog w) A (pyNext (.ref z)) Q E s := by
  have hT : s.TypeIs (.ref z) "zip" := ⟨_, hz, rfl⟩
  unfold pyNext
  refine wpAny_bind (wpAny_attempt (wpAny_callSpecial?_slot (name := Str.ofString "__next__") hT F.slot_zip_next (wpAny_call_entry F.slot_zip_next hT F.entry_zip_next ?_ (F.args_zip_next_1 _))))
  exact szip_item D hz hTI hTO f1 f2 s1 s2 hx hy fun h' a1 a2 a3 a4 a5 a6 => wpAny_pure (fin h' a1 a2 a3 a4 a5 a6)
theorem done_szip {Q : Option Value → Shared → Prop} (hh : A.handled = none) (D : ZipApart z TI TO i1 i2 l1 l2) (hz : ZO s.heap z TI TO .none) (hTI : IsPair s.heap TI (.ref i1) (.ref i2)) (hTO : IsPair s.heap TO a b)
    (f1 : ItAt ta s.heap i1 l1 k1) (f2 : ItAt tb s.heap i2 l2 k2) (s1 : SqAt ta s.heap l1 xs) (s2 : SqAt tb s.heap l2 ys) (hx : xs[k1]? = none) (hy : ys[k2]? = none)
    (fin : ∀ h', (∀ c o, c ≠ z → c ≠ TO → c ≠ i1 → c ≠ i2 → s.heap.get? c = some o → h'.get? c = some o) → Q none { s with heap := h' }) : wpAny (model prog w) A (pyNext (.ref z)) Q E s := by
  have hT : s.TypeIs (.ref z) "zip" := ⟨_, hz, rfl⟩
  unfold pyNext
  refine wpAny_bind (wpAny_attempt (wpAny_callSpecial?_slot (name := Str.ofString "__next__") hT F.slot_zip_next (wpAny_call_entry F.slot_zip_next hT F.entry_zip_next ?_ (F.args_zip_next_1 _))))
  refine szip_end hh D hz hTI hTO f1 f2 s1 s2 hx hy ?_
  rintro h' e keep ⟨o, ho, hc⟩
  exact wpAny_bind (wpAny_isInstance (T := "StopIteration") (b := true) ⟨o, ho, hc⟩ isSubtype_stop (wpAny_pure (fin _ keep)))
theorem self_szip {f0 : Value} {Q : Value → Shared → Prop} (hz : ZO s.heap z TI TO f0) (h : Q (.ref z) s) : wpAny (model prog w) A (pyIter (.ref z)) Q E s := by
  have ty : s.TypeIs (.ref z) "zip" := ⟨_, hz, rfl⟩
  refine wpAny_pyIter_slot ty F.slot_zip_iter (wpAny_call_entry F.slot_zip_iter ty F.entry_zip_iter (show wpAny _ _ (ret (.ref z)) _ _ s from ?_) (F.args_zip_iter_1 _))
  exact wpAny_pure ⟨_, rfl, "zip", _, ty, F.slot_zip_next.lookup, h⟩
theorem go_szip {elts : List Expr} {q : Nat} {pos : Pos} {T : Addr} {Q : Unit → Shared → Prop} (hz : ZO s.heap z TI TO (rawInt T))
    (h : ∀ h', ZO h' z TI TO .none → Heap.SameBut z s.heap h' → Q () { s with heap := h' }) : wpAny (model prog w) A (letOwnedTupleGo (.Tuple elts q pos) (.ref z) (.ref T)) Q E s := by
  unfold letOwnedTupleGo
  refine wpAny_bind (wpAny_load hz ?_)
  have yes : (["enumerate", "zip", "dict_itemiterator", "dict_reverseitemiterator", "odict_iterator", "itertools.zip_longest", "itertools.pairwise"].contains "zip" && (#[rawInt T, .bool false, .bool true, .ref TI, .ref TO] : Array Value)[0]? == some (rawInt T)) = true := by simp
  refine (show wpAny _ _ (if (["enumerate", "zip", "dict_itemiterator", "dict_reverseitemiterator", "odict_iterator", "itertools.zip_longest", "itertools.pairwise"].contains "zip" && (#[rawInt T, .bool false, .bool true, .ref TI, .ref TO] : Array Value)[0]? == some (rawInt T)) = true then _ else _) Q E s from ?_)
  rw [if_pos yes]
  refine wpAny_bind (wpAny_rule (show wpAny _ _ (setField (.ref z) 0 .none) Q E s from ?_))
  exact wpAny_setField_rec hz (by simp) h
/-! the new zip -/
def itO (ta : Bool) (l : Addr) : Obj := if ta = true then { cls := .type "tuple_iterator", data := .fields #[.ref l, .int 0 0] } else { cls := .type "list_iterator", data := .fields #[.ref l, .int 0 0] }
theorem itO_at {h : Heap} {i l : Addr} (e : h.get? i = some (itO ta l)) : ItAt ta h i l 0 := by
  cases ta
  · exact (⟨_, e, rfl, rfl⟩ : h.IsListIter i l 0)
  · exact (⟨_, e, rfl, rfl⟩ : h.IsTupleIter i l 0)
theorem itO_get (h : Heap) (l : Addr) : (h.push (itO ta l)).get? h.objs.size = some (itO ta l) := by
  cases ta <;> exact Heap.get?_push_size _ rfl
theorem iter_sq {l : Addr} {vs : Array Value} {Q : Value → Shared → Prop} (x : SqAt ta s.heap l vs) (h : Q (.ref s.heap.objs.size) { s with heap := s.heap.push (itO ta l) }) : wpAny (model prog w) A (pyIter (.ref l)) Q E s := by
  cases ta
  · exact wpAny_pyIter_list x h
  · exact wpAny_pyIter_tuple x h
abbrev zA (ta : Bool) (h : Heap) (l1 : Addr) : Heap := h.push (itO ta l1)
abbrev zB (ta tb : Bool) (h : Heap) (l1 l2 : Addr) : Heap := (zA ta h l1).push (itO tb l2)
abbrev zC (ta tb : Bool) (h : Heap) (l1 l2 : Addr) : Heap := (zB ta tb h l1 l2).push { cls := .type "tuple", data := .seq #[.ref h.objs.size, .ref (zA ta h l1).objs.size] }
abbrev zD (ta tb : Bool) (h : Heap) (l1 l2 : Addr) : Heap := (zC ta tb h l1 l2).push { cls := .type "tuple", data := .seq #[.none, .none] }
abbrev zE (ta tb : Bool) (h : Heap) (l1 l2 : Addr) : Heap := (zD ta tb h l1 l2).push { cls := .type "zip", data := .fields #[.none, .bool false, .bool true, .ref (zB ta tb h l1 l2).objs.size, .ref (zC ta tb h l1 l2).objs.size] }
def kwStrict : List (Str × Value) := [(Str.ofString "strict", .bool true)]
theorem meets_szip (l1 l2 : Addr) (xs ys : Array Value) : Meets (Builtin.«zip.__new__» ⟨[.type "zip", .ref l1, .ref l2], kwStrict⟩) (fun _ R s => SqAt ta s.heap l1 xs ∧ SqAt tb s.heap l2 ys ∧
    R (.ok (.ret (.ref (zD ta tb s.heap l1 l2).objs.size))) { s with heap := zE ta tb s.heap l1 l2 }) :=
  .of_wp fun prog w A R s h => by
    obtain ⟨hp, g, d, tk, os⟩ := s
    obtain ⟨q1, q2, h⟩ := h
    have hsub := sub_zip
    have r1 : SqAt ta (Shared.heap ⟨hp, g, d, tk, os⟩) l1 xs := q1
    have r2 : SqAt tb (Shared.heap ⟨hp.push (itO ta l1), g, d, tk, os⟩) l2 ys := q2.to fun o e => Heap.get?_push_of_some _ e
    unfold kwStrict
    wp_walk using iter_sq r1, iter_sq r2
    exact ⟨_, rfl, h⟩
theorem typeCall_szip (a b : Value) : checkTypeCall "zip" ⟨[a, b], kwStrict⟩ = pure () := by kernel_rfl
theorem newCall_szip (a b : Value) : checkBuiltinCall "zip.__new__" ⟨[.type "zip", a, b], kwStrict⟩ = pure () := by kernel_rfl
theorem args_szip (o a b : Value) : argsOk "object.__init__" ⟨[o, a, b], kwStrict⟩ := by unfold argsOk; kernel_rfl
end
end DL
set_option Elab.async false
set_option linter.all false
set_option maxRecDepth 100000
set_option maxHeartbeats 2000000
/-! Dy: the strict zip as an iterable. -/
namespace DL
open PySem PySem.Spec PyProof.Rows L2
section
variable {prog : Program} {w : World} {A : Around} {E : Value → Shared → Prop} {s : Shared} {ta tb : Bool} {z TI TO i1 i2 l1 l2 : Addr} {xs ys : Array Value}
theorem call_szip {Q : Value → Shared → Prop} (s1 : SqAt ta s.heap l1 xs) (s2 : SqAt tb s.heap l2 ys)
    (h : ∀ h', ZO h' (s.heap.objs.size + 4) (s.heap.objs.size + 2) (s.heap.objs.size + 3) .none → IsPair h' (s.heap.objs.size + 2) (.ref s.heap.objs.size) (.ref (s.heap.objs.size + 1)) →
      IsPair h' (s.heap.objs.size + 3) .none .none → ItAt ta h' s.heap.objs.size l1 0 → ItAt tb h' (s.heap.objs.size + 1) l2 0 →
      (∀ c o, s.heap.get? c = some o → h'.get? c = some o) → Q (.ref (s.heap.objs.size + 4)) { s with heap := h' }) :
    wpAny (model prog w) A (call (.type "zip") [.ref l1, .ref l2] kwStrict) Q E s := by
  refine callType_newKw F.called_zip (by decide) (typeCall_szip _ _) (newCall_szip _ _) (fun o => args_szip o _ _) F.entry_zip_new (meets_szip (ta := ta) (tb := tb) l1 l2 xs ys) ⟨s1, s2, ?_⟩
  have eA : (zA ta s.heap l1).objs.size = s.heap.objs.size + 1 := by cases ta <;> exact Heap.size_push ..
  have eB : (zB ta tb s.heap l1 l2).objs.size = s.heap.objs.size + 2 := by
    have : (zB ta tb s.heap l1 l2).objs.size = (zA ta s.heap l1).objs.size + 1 := by cases tb <;> exact Heap.size_push ..
    rw [this, eA]
  have eC : (zC ta tb s.heap l1 l2).objs.size = s.heap.objs.size + 3 := by rw [Heap.size_push, eB]
  have eD : (zD ta tb s.heap l1 l2).objs.size = s.heap.objs.size + 4 := by rw [Heap.size_push, eC]
  have g5 : (zE ta tb s.heap l1 l2).get? (zD ta tb s.heap l1 l2).objs.size = some _ := Heap.get?_push_size _ rfl
  have g4 : (zE ta tb s.heap l1 l2).get? (zC ta tb s.heap l1 l2).objs.size = some _ := Heap.get?_push_of_some _ (Heap.get?_push_size _ rfl)
  have g3 : (zE ta tb s.heap l1 l2).get? (zB ta tb s.heap l1 l2).objs.size = some _ := Heap.get?_push_of_some _ (Heap.get?_push_of_some _ (Heap.get?_push_size _ rfl))
  have g2 : (zE ta tb s.heap l1 l2).get? (zA ta s.heap l1).objs.size = some (itO tb l2) := Heap.get?_push_of_some _ (Heap.get?_push_of_some _ (Heap.get?_push_of_some _ (itO_get _ _)))
  have g1 : (zE ta tb s.heap l1 l2).get? s.heap.objs.size = some (itO ta l1) := Heap.get?_push_of_some _ (Heap.get?_push_of_some _ (Heap.get?_push_of_some _ (Heap.get?_push_of_some _ (itO_get _ _))))
  have up : ∀ c o, s.heap.get? c = some o → (zE ta tb s.heap l1 l2).get? c = some o := fun c o e =>
    Heap.get?_push_of_some _ (Heap.get?_push_of_some _ (Heap.get?_push_of_some _ (Heap.get?_push_of_some _ (Heap.get?_push_of_some _ e))))
  show _ ∧ _
  rw [eB, eC, eD] at g5
  rw [eA, eB] at g3
  rw [eC] at g4
  rw [eA] at g2
  rw [eD]
  exact ⟨⟨_, g5, rfl⟩, h _ g5 g3 g4 (itO_at g1) (itO_at g2) up⟩
end
def SqB (ta : Bool) (K : PySem.W.Frag) (H : Hp) (a : Addr) (xs : List V) : Prop := if ta = true then SqT K H a xs else SqL K H a xs
theorem SqB.at {X : Cx} {pins : List (Addr × Obj)} {σ : L2.St} {H : Hp} {s : Shared} {ta : Bool} {a : Addr} {xs : List V} (I : Inv X pins σ H s) (h : SqB ta X.K H a xs) : ∃ its : List Value, Vals xs its ∧ SqAt ta s.heap a its.toArray ∧ a < s.heap.objs.size := by
  cases ta
  · obtain ⟨its, r, p, _⟩ := I.list (show SqL X.K H a xs from h)
    exact ⟨its, r, p.isList, p.lt⟩
  · obtain ⟨its, r, p, _⟩ := I.tuple (show SqT X.K H a xs from h)
    obtain ⟨o, ho, q⟩ := id p
    exact ⟨its, r, p, Heap.lt_size ho⟩
theorem SqB.inj {X : Cx} {pins : List (Addr × Obj)} {σ : L2.St} {H : Hp} {s : Shared} {ta : Bool} {a : Addr} {xs ys : List V} (I : Inv X pins σ H s) (h : SqB ta X.K H a xs) (h' : SqB ta X.K H a ys) : xs = ys := by
  cases ta
  · exact I.list_inj (show SqL X.K H a xs from h) (show SqL X.K H a ys from h')
  · exact I.tuple_inj (show SqT X.K H a xs from h) (show SqT X.K H a ys from h')
def ItzS (ta tb : Bool) (K : PySem.W.Frag) (a b : Addr) : L2.It :=
  ⟨fun i H => ∃ (xs ys : List V) (x y : V), SqB ta K H a xs ∧ SqB tb K H b ys ∧ xs[i]? = some x ∧ ys[i]? = some y,
    fun i H v H' => ∃ T x y, v = .ref T ∧ H T = none ∧ H' = upd H T (.tup [x, y]) ∧ (∀ xs, SqB ta K H a xs → xs[i]? = some x) ∧ ∀ ys, SqB tb K H b ys → ys[i]? = some y,
    fun i H => ∃ xs ys : List V, SqB ta K H a xs ∧ SqB tb K H b ys ∧ xs.length ≤ i ∧ ys.length ≤ i⟩
theorem turn_szip {P : Program} {w : World} {K : PySem.W.Frag} {elts : List Expr} {kk : Nat} {tpos : Pos} {ta tb : Bool} {a b z TI TO i1 i2 : Addr} (D : ZipApart z TI TO i1 i2 a b) :
    Turn P w K (.Tuple elts kk tpos) (ItzS ta tb K a b) [z, TI, TO, i1, i2] z (fun i h => ZO h z TI TO .none ∧ IsPair h TI (.ref i1) (.ref i2) ∧ (∃ x y, IsPair h TO x y) ∧ ItAt ta h i1 a i ∧ ItAt tb h i2 b i) where
  mem := by simp
  obj := fun i h st c hc => by
    obtain ⟨hz, hTI, ⟨x, y, hTO⟩, f1, f2⟩ := st
    simp only [List.mem_cons, List.not_mem_nil, or_false] at hc
    rcases hc with rfl | rfl | rfl | rfl | rfl
    · exact ⟨_, hz, fun v q => nomatch q⟩
    · exact ⟨_, hTI, fun v q => nomatch q⟩
    · exact ⟨_, hTO, fun v q => nomatch q⟩
    · exact f1.objAt
    · exact f2.objAt
  keep := fun i h h' st k => by
    obtain ⟨hz, hTI, ⟨x, y, hTO⟩, f1, f2⟩ := st
    exact ⟨k z (by simp) _ hz, k TI (by simp) _ hTI, ⟨x, y, k TO (by simp) _ hTO⟩, f1.to (k i1 (by simp)), f2.to (k i2 (by simp))⟩
  item := by
    intro X hP hw hK hc i pins s σ H E I hf st hg
    subst hP hw hK
    obtain ⟨hz, hTI, ⟨x0, y0, hTO⟩, f1, f2⟩ := st
    obtain ⟨xs, ys, x, y, qx, qy, ex, ey⟩ := hg
    obtain ⟨us, rx, p1, _⟩ := qx.at I
    obtain ⟨ws, ry, p2, _⟩ := qy.at I
    obtain ⟨u, hu, ru⟩ := rx.get ex
    obtain ⟨v, hv, rv⟩ := ry.get ey
    have lz : z < s.heap.objs.size := Heap.lt_size hz
    refine next_szip D hz hTI hTO f1 f2 p1 p2 (x := u) (y := v) (by simpa using hu) (by simpa using hv) ?_
    intro h' z' t' g1 g2 hT hk
    refine ⟨_, rfl, go_szip (s := { s with heap := h' }) z' ?_⟩
    intro h'' z'' sb
    have hT2 : h''.get? s.heap.objs.size = some { cls := .type "tuple", data := .seq #[u, v] } := (sb.2 _ (Nat.ne_of_gt lz)).trans hT
    have new : ObjOk X.prog X.w (upd H s.heap.objs.size (.tup [x, y])) h'' s.heap.objs.size (.tup [x, y]) := ⟨by show 2 ≤ sizeLine; decide, [u, v], .cons ru (.cons rv .nil), ⟨_, hT2, rfl, _, rfl⟩⟩
    have keep : ∀ c o, c ∉ [z, TI, TO, i1, i2] → s.heap.get? c = some o → h''.get? c = some o := fun c o n e => by
      simp only [List.mem_cons, List.not_mem_nil, or_false, not_or] at n
      exact (sb.2 c n.1).trans (hk c o n.1 n.2.2.1 n.2.2.2.1 n.2.2.2.2 e)
    have I1 : Inv X pins σ (upd H s.heap.objs.size (.tup [x, y])) { s with heap := h'' } := I.turnedNew (t' := s.toks) (ch := [z, TI, TO, i1, i2]) keep hf (Nat.le_refl _) new
    refine ⟨.ref s.heap.objs.size, _, I1, rfl, ⟨_, x, y, rfl, I.hok.fresh (Nat.le_refl _), rfl, fun l hl => by rw [hl.inj I qx]; exact ex, fun l hl => by rw [hl.inj I qy]; exact ey⟩, ⟨z'', ?_, ⟨u, v, (sb.2 _ D.TOz).trans t'⟩, g1.to fun o q => (sb.2 _ D.i1z).trans q, g2.to fun o q => (sb.2 _ D.i2z).trans q⟩, fun c hcm => ?_⟩
    · exact (sb.2 _ D.TIz).trans (hk _ _ D.TIz D.TITO D.TIi1 D.TIi2 hTI)
    · have lt : c < s.heap.objs.size := by
        have hcm' := hcm
        simp only [List.mem_cons, List.not_mem_nil, or_false] at hcm'
        rcases hcm' with rfl | rfl | rfl | rfl | rfl
        · exact lz
        · exact Heap.lt_size hTI
        · exact Heap.lt_size hTO
        · exact f1.lt
        · exact f2.lt
      rw [upd_ne (Nat.ne_of_lt lt)]
      exact (hf c hcm).1
  done := by
    intro X hP hw hK hc i pins s σ H E I hf st hg
    subst hP hw hK
    obtain ⟨hz, hTI, ⟨x0, y0, hTO⟩, f1, f2⟩ := st
    obtain ⟨xs, ys, qx, qy, n1, n2⟩ := hg
    obtain ⟨us, rx, p1, _⟩ := qx.at I
    obtain ⟨ws, ry, p2, _⟩ := qy.at I
    have e1 := rx.length
    have e2 := ry.length
    refine done_szip (I.ok.hd hc) D hz hTI hTO f1 f2 p1 p2 (by simp; omega) (by simp; omega) ?_
    intro h' hk
    refine ⟨rfl, I.turnedL (t' := s.toks) (ch := [z, TI, TO, i1, i2]) (fun c o n e => ?_) hf⟩
    simp only [List.mem_cons, List.not_mem_nil, or_false, not_or] at n
    exact hk c o n.1 n.2.2.1 n.2.2.2.1 n.2.2.2.2 e
  self := fun A i s Q E st h => self_szip st.1 h
def iZipS (K : PySem.W.Frag) (t : TA) : TI := fun σ H Rh => t σ H fun vs H1 => ∃ ta tb a b xs ys, vs = [.ref a, .ref b] ∧ SqB ta K H1 a xs ∧ SqB tb K H1 b ys ∧ Rh (ItzS ta tb K a b) H1
theorem callWith_tyKw {M : Model} {A : Around} {E : Value → Shared → Prop} {s : Shared} {env : PySem.Env} {pos : Pos} {T : String} {e : Expr} {rest : List Expr} {kws : List Keyword} {Q : Value → Shared → Prop}
    (h : wpAny M A (spliced (backTo pos (starEach (e :: rest) env))) (fun vs s1 => wpAny M A (evalAll ((backToKw pos (keywordEach kws env)).map (·.2)))
      (fun ks s2 => wpAny M A (call (.type T) vs (((backToKw pos (keywordEach kws env)).filterMap (·.1)).zip ks)) Q E s2) E s1) E s)
    (he : backTo pos (starEach (e :: rest) env) = (false, eval e env) :: backTo pos (starEach rest env)) (hpl : (backTo pos (starEach (e :: rest) env)).any (·.1) = false)
    (hall : (backToKw pos (keywordEach kws env)).all (·.1.isSome) = true) (hno : (backToKw pos (keywordEach kws env)).any (·.1.isNone) = false) :
    wpAny M A (callWith pos (.type T) [] (backTo pos (starEach (e :: rest) env)) (backToKw pos (keywordEach kws env))) Q E s := by
  have ev : wpAny M A (evalArgs (.type T) true (backTo pos (starEach (e :: rest) env)) (backToKw pos (keywordEach kws env))) (fun a s1 => wpAny M A (call (.type T) ([] ++ a.pos) a.kw) Q E s1) E s := by
    rw [he] at h ⊢
    exact evalArgs_kwB hall h
  unfold callWith
  refine wpAny_bind (wpAny_holding (wpAny_mono ev ?_ fun _ _ x => x))
  intro a s1 h1
  refine wpAny_bind (wpAny_standAt ?_)
  simp only [hpl, hno, Bool.or_false]
  refine wpAny_bind (wpAny_pure (wpAny_bind (wpAny_mono h1 ?_ fun _ _ x => x)))
  exact fun r s2 hr => wpAny_bind (wpAny_holding (wpAny_point (wpAny_pure hr)))
theorem pi_szip {X : Cx} {e e2 : Expr} {t : TA} {p pos tpos kpos cpos : Pos} {cj : Nat} {elts : List Expr} {kk : Nat} (hg : Gl X "zip") (hm : X.mg "zip" = none) (ha : PA X [e, e2] t)
    (hs : starEach [e, e2] X.env = (false, eval e X.env) :: starEach [e2] X.env) (hpl : (backTo pos (starEach [e2] X.env)).any (·.1) = false) :
    PI X (.Tuple elts kk tpos) (.Call (.Name "zip" p) [e, e2] [⟨some "strict", .Constant (.bool true) cj cpos, kpos⟩] pos) (iZipS X.K t) := by
  constructor
  intro pins s σ H Rh I h
  have hk : PK X [⟨some "strict", .Constant (.bool true) cj cpos, kpos⟩] (tCons (tC (.bl true)) tNil) := pk_cons pe_bl pk_nil
  refine wpAny_Call_Name_kw (ld_blt I hg hm PyProof.Rows.boot_zip ?_)
  refine callWith_tyKw (thn (ha.run pos pins s σ H _ I h) ?_) (by rw [hs]; rfl) (by rw [hs]; exact hpl) rfl rfl
  rintro us s1 ⟨vs, H1, I1, r1, ta, tb, a, b, xs, ys, ev, qx, qy, q⟩
  refine thn (hk.run pos pins s1 σ H1 (fun zs G => zs = [V.bl true] ∧ G = H1) I1 ⟨rfl, rfl⟩) ?_
  rintro ks s2 ⟨zs, H2, I2, r2, e2, e3⟩
  subst e2 e3 ev
  cases r1 with
  | cons z zz =>
  cases zz with
  | cons z' zz =>
  cases zz
  cases z
  cases z'
  cases r2 with
  | cons y yy =>
  cases yy
  cases y
  obtain ⟨its1, v1, p1, l1⟩ := qx.at I2
  obtain ⟨its2, v2, p2, l2⟩ := qy.at I2
  show wpAny _ _ (call (.type "zip") [.ref a, .ref b] kwStrict) _ _ s2
  refine call_szip p1 p2 ?_
  intro h' hz hTI hTO f1 f2 hk
  refine self_szip hz ?_
  have I3 : Inv X pins σ H2 { s2 with heap := h' } := I2.kept (t' := s2.toks) hk
  refine ⟨s2.heap.objs.size + 4, [s2.heap.objs.size + 4, s2.heap.objs.size + 2, s2.heap.objs.size + 3, s2.heap.objs.size, s2.heap.objs.size + 1], _, _, H2, rfl, I3, turn_szip (PySem.W.ktu_apart s2.heap.objs.size a b l1 l2), ⟨hz, hTI, ⟨_, _, hTO⟩, f1, f2⟩, ?_, q⟩
  intro c hc
  have le : s2.heap.objs.size ≤ c := by
    simp only [List.mem_cons, List.not_mem_nil, or_false] at hc
    rcases hc with rfl | rfl | rfl | rfl | rfl <;> omega
  exact I2.fpOk le (I2.hok.fresh le)
end DL
set_option Elab.async false
set_option linter.all false
set_option maxRecDepth 100000
set_option maxHeartbeats 2000000
/-! Du: enumerate of a tuple. -/
namespace DL
open PySem PySem.Spec PyProof.Rows L2
abbrev tupIt (t : Addr) : Obj := { cls := .type "tuple_iterator", data := .fields #[.ref t, .int 0 0] }
abbrev enuO (i : Addr) : Obj := { cls := .type "enumerate", data := .fields #[.none, .bool false, .ref i, rawInt 0, .none, .none] }
theorem meets_enumT (l : Addr) (items : Array Value) : Meets (Builtin.«enumerate.__new__» ⟨[.type "enumerate", .ref l], []⟩) (fun _ R s => s.heap.IsTuple l items ∧
      R (.ok (.ret (.ref (s.heap.push (tupIt l)).objs.size))) { s with heap := (s.heap.push (tupIt l)).push (enuO s.heap.objs.size) }) :=
  .of_wp fun prog w A R s h => by
    obtain ⟨hp, g, d, tk, os⟩ := s
    obtain ⟨hl, h⟩ := h
    have hsub := sub_enumerate
    wp_walk
    refine wpAny_stack_any fun st => wpAny_pure ?_
    split
    · rename_i c _ _ _ _ _
      cases (c == Value.type "enumerate")
      · wp_walk using wpAny_pyIter_tuple hl
        exact ⟨_, rfl, h⟩
      · wp_walk using wpAny_pyIter_tuple hl
        exact ⟨_, rfl, h⟩
    · wp_walk using wpAny_pyIter_tuple hl
      exact ⟨_, rfl, h⟩
theorem call_enumT {prog : Program} {w : World} {A : Around} {E : Value → Shared → Prop} {s : Shared} {l : Addr} {items : Array Value} {Q : Value → Shared → Prop} (hL : s.heap.IsTuple l items)
    (h : ∀ h', IsEnum h' (s.heap.objs.size + 1) s.heap.objs.size 0 .none → h'.IsTupleIter s.heap.objs.size l 0 → (∀ b o, s.heap.get? b = some o → h'.get? b = some o) → Q (.ref (s.heap.objs.size + 1)) { s with heap := h' }) :
    wpAny (model prog w) A (call (.type "enumerate") [.ref l]) Q E s := by
  refine callType_new F.called_enumerate (by decide) (F.typeCall_enumerate_1 _) (F.newCall_enumerate_1 _) (fun obj => F.args_object_init_2 obj _) F.entry_enumerate_new (meets_enumT l items) ⟨hL, ?_⟩
  have sz : (s.heap.push (tupIt l)).objs.size = s.heap.objs.size + 1 := Heap.size_push ..
  show _ ∧ _
  rw [sz]
  have he := Heap.get?_push_size (s.heap.push (tupIt l)) (o := enuO s.heap.objs.size) rfl
  rw [sz] at he
  refine ⟨⟨_, he, rfl⟩, h _ he ⟨_, Heap.get?_push_of_some _ (Heap.get?_push_size _ rfl), rfl, rfl⟩ fun b o x => Heap.get?_push_of_some _ (Heap.get?_push_of_some _ x)⟩
/-- the tuple at a, each item in a new pair behind its number -/
def IteT (K : PySem.W.Frag) (a : Addr) : L2.It :=
  ⟨fun i H => ∃ (xs : List V) (x : V), SqT K H a xs ∧ xs[i]? = some x,
    fun i H v H' => ∃ T x, v = .ref T ∧ H T = none ∧ H' = upd H T (.tup [.int (i : Nat), x]) ∧ ∀ xs, SqT K H a xs → xs[i]? = some x,
    fun i H => ∃ xs : List V, SqT K H a xs ∧ xs.length ≤ i⟩
theorem turn_enumT {P : Program} {w : World} {K : PySem.W.Frag} {elts : List Expr} {kk : Nat} {tpos : Pos} {a e it : Addr} (hne : e ≠ it) (ha : a ≠ it) (hae : a ≠ e) :
    Turn P w K (.Tuple elts kk tpos) (IteT K a) [e, it] e (fun i h => (∃ old, IsEnum h e it ((i : Nat) : Int) old) ∧ h.IsTupleIter it a i) where
  mem := by simp
  obj := fun i h st b hb => by
    obtain ⟨⟨old, he⟩, o, ho, hc, hd⟩ := st
    rcases List.mem_cons.mp hb with z | z
    · have he2 := he
      unfold IsEnum at he2
      rw [z]
      exact ⟨_, he2, fun v q => nomatch q⟩
    · rw [List.mem_singleton.mp z]
      exact ⟨o, ho, fun v q => by rw [hd] at q; cases q⟩
  keep := fun i h h' st k => let ⟨⟨old, he⟩, hi⟩ := st; ⟨⟨old, k e (by simp) _ he⟩, hi.at fun o q => k it (by simp) o q⟩
  item := by
    intro X hP hw hK hc i pins s σ H E I hf st hg
    subst hP hw hK
    obtain ⟨⟨old, he⟩, hit⟩ := st
    obtain ⟨xs, x, hq, hx⟩ := hg
    obtain ⟨us, rv, p, hz⟩ := I.tuple hq
    obtain ⟨u, hu, ru⟩ := rv.get hx
    have lt : i < us.toArray.size := by
      obtain ⟨z, _⟩ := List.getElem?_eq_some_iff.mp hu
      simpa using z
    have hel : e < s.heap.objs.size := Heap.lt_size he
    have hil : it < s.heap.objs.size := by obtain ⟨_, q, _⟩ := hit; exact Heap.lt_size q
    have D : Draws X.prog X.w X.A.in1 it [it, a] us.toArray.size (fun i v => us.toArray[i]? = some v) (fun i h => h.IsTupleIter it a i ∧ h.IsTuple a us.toArray) := Draws.tuple (show X.A.in1.handled = none from I.ok.hd hc) it a ha us.toArray
    refine wpAny_pyNext_enum_itemD D he ⟨hit, p⟩ lt hne ?_ ?_
    · simp only [List.mem_cons, List.not_mem_nil, or_false, not_or]
      exact ⟨hne, Ne.symm hae⟩
    intro y h' tk hy ho hst hT hsz hk
    have ey : y = u := by
      have z : us[i]? = some y := by simpa using hy
      rw [hu] at z
      exact (Option.some.inj z).symm
    subst ey
    refine ⟨_, rfl, wpAny_letOwnedTupleGo_enum (s := { s with heap := h', toks := tk + 1 }) ho fun h'' he' sb => ?_⟩
    have hT2 := (sb.2 _ (Nat.ne_of_gt hel)).trans hT
    have pair : ObjOk X.prog X.w (upd H s.heap.objs.size (.tup [.int (i : Nat), x])) h'' s.heap.objs.size (.tup [.int (i : Nat), x]) :=
      ⟨by show 2 ≤ sizeLine; rw [sizeLine_eq]; decide, [.int i tk, y], .cons ⟨_, rfl⟩ (.cons ru .nil), ⟨_, hT2, rfl, _, rfl⟩⟩
    have I1 : Inv X pins σ (upd H s.heap.objs.size (.tup [.int (i : Nat), x])) { s with heap := h'', toks := tk + 1 } := by
      refine I.turnedNew (ch := [e, it]) (fun b ob hb q => ?_) hf (Nat.le_refl _) pair
      have b1 : b ≠ e := fun z => hb (by simp [z])
      have b2 : b ≠ it := fun z => hb (by simp [z])
      exact (sb.2 b b1).trans (hk b ob b1 b2 q)
    refine ⟨.ref s.heap.objs.size, _, I1, rfl, ⟨_, x, rfl, I.hok.fresh (Nat.le_refl _), rfl, fun ys hy => by rw [I.tuple_inj hy hq]; exact hx⟩, ⟨⟨y, ?_⟩, hst.1.at fun o q => (sb.2 it (Ne.symm hne)).trans q⟩, fun b hb => ?_⟩
    · rw [show ((i + 1 : Nat) : Int) = (i : Int) + 1 by omega]
      exact he'
    · have small : b < s.heap.objs.size := by
        rcases List.mem_cons.mp hb with z | z
        · rw [z]; exact hel
        · rw [List.mem_singleton.mp z]; exact hil
      rw [upd_ne (Nat.ne_of_lt small)]
      exact (hf b hb).1
  done := by
    intro X hP hw hK hc i pins s σ H E I hf st hg
    subst hP hw hK
    obtain ⟨⟨old, he⟩, hit⟩ := st
    obtain ⟨xs, hq, hx⟩ := hg
    obtain ⟨us, rv, p, hz⟩ := I.tuple hq
    obtain ⟨f0, f1, f2, f3, f4, f5⟩ := hf it (by simp)
    have hl := rv.length
    have gone : us.toArray[i]? = none := by
      rw [Array.getElem?_eq_none]
      simp
      omega
    have fin : ∀ h', Heap.ExtBut it s.heap h' → (none : Option Value) = none ∧ Inv X pins σ H { s with heap := h' } := fun h' eb => ⟨rfl, I.turned (t' := s.toks) (fun b o hb q => eb b o hb q) f0 f1 f3 f4 f5⟩
    have hT : s.TypeIs (.ref e) "enumerate" := ⟨_, he, rfl⟩
    unfold pyNext
    refine wpAny_bind (wpAny_attempt (wpAny_callSpecial?_slot (name := Str.ofString "__next__") hT F.slot_enumerate_next (wpAny_call_entry F.slot_enumerate_next hT F.entry_enumerate_next ?_ (F.args_enumerate_next_1 _))))
    refine (show wpAny _ _ (field (.ref e) 2 >>= _) _ _ _ from wpAny_bind (wpAny_field he rfl (x := .ref it) rfl ?_))
    refine wpAny_bind (wpAny_nextOf_tuple_end (show X.A.in1.handled = none from I.ok.hd hc) hit p gone ?_)
    rintro h' x he' ⟨o, ho, hc'⟩
    refine wpAny_bind (wpAny_isInstance (T := "StopIteration") (b := true) ⟨o, ho, hc'⟩ isSubtype_stop ?_)
    exact wpAny_pure (fin _ he')
  self := fun A i s Q E st h => let ⟨⟨_, he⟩, _⟩ := st; wpAny_pyIter_enum he h
def iEnumT (K : PySem.W.Frag) (ta : TA) : TI := fun σ H R => ta σ H fun vs H1 => ∃ a xs, vs = [.ref a] ∧ ((SqL K H1 a xs ∧ R (Ite K a) H1) ∨ (SqT K H1 a xs ∧ R (IteT K a) H1))
theorem pi_enumT {X : Cx} {e : Expr} {ta : TA} {p pos tpos : Pos} {elts : List Expr} {kk : Nat} (hg : Gl X "enumerate") (hm : X.mg "enumerate" = none) (ha : PA X [e] ta) (hs : starEach [e] X.env = [(false, eval e X.env)]) :
    PI X (.Tuple elts kk tpos) (.Call (.Name "enumerate" p) [e] [] pos) (iEnumT X.K ta) := by
  constructor
  intro pins s σ H R I h
  refine Call_ (ld_blt I hg hm boot_enumerate (PyProof.Rows.callWith_type1 (thn (ha.run pos pins s σ H _ I h) ?_) hs rfl))
  rintro ws s1 ⟨vs, H1, I1, r1, a, xs, rfl, q⟩
  obtain ⟨u, rfl, r⟩ := vals1 r1
  cases r
  have two : ∀ b ∈ [s1.heap.objs.size + 1, s1.heap.objs.size], FpOk X pins H1 b := fun b hb => by
    have le : s1.heap.objs.size ≤ b := by
      rcases List.mem_cons.mp hb with z | z
      · omega
      · rw [List.mem_singleton.mp z]; exact Nat.le_refl _
    exact I1.fpOk le (I1.hok.fresh le)
  rcases q with ⟨hq, q⟩ | ⟨hq, q⟩
  · obtain ⟨us, rv, p', hz⟩ := I1.list hq
    refine call_enumerate_list p'.isList fun h' he hit hsz hk => wpAny_pyIter_enum he ?_
    exact ⟨s1.heap.objs.size + 1, [s1.heap.objs.size + 1, s1.heap.objs.size], _, _, H1, rfl, I1.kept (t' := s1.toks) hk, turn_enum a (s1.heap.objs.size + 1) s1.heap.objs.size, ⟨⟨.none, he⟩, hit, Nat.succ_ne_self _⟩, two, q⟩
  · obtain ⟨us, rv, p', hz⟩ := I1.tuple hq
    have lt : a < s1.heap.objs.size := p'.lt
    refine call_enumT p' fun h' he hit hk => wpAny_pyIter_enum he ?_
    exact ⟨s1.heap.objs.size + 1, [s1.heap.objs.size + 1, s1.heap.objs.size], _, _, H1, rfl, I1.kept (t' := s1.toks) hk, turn_enumT (Nat.succ_ne_self _) (Nat.ne_of_lt lt) (Nat.ne_of_lt (Nat.lt_succ_of_lt lt)), ⟨⟨.none, he⟩, hit⟩, two, q⟩
end DL
set_option Elab.async false
set_option linter.all false
set_option maxRecDepth 100000
set_option maxHeartbeats 2000000
/-! Dx: zip(a, b) of two lists or tuples, mixed. -/
namespace DL
open PySem PySem.Spec PyProof.Rows L2
open PySem.Sem (wp)
/-- the zip's own object -/
abbrev ZM (h : Heap) (z TI TO : Addr) (f0 : Value) : Prop := h.get? z = some { cls := .type "zip", dict := none, data := .fields #[f0, .bool false, .bool false, .ref TI, .ref TO], slots := #[] }
section
variable {prog : Program} {w : World} {A : Around} {E : Value → Shared → Prop} {s : Shared} {ta tb : Bool} {z TI TO i1 i2 l1 l2 : Addr} {k1 k2 : Nat} {xs ys : Array Value} {x y a b : Value}
theorem take_one {i l : Addr} {vs : Array Value} {k : Nat} {x : Value} {Q : Value → Shared → Prop} (f : ItAt ta s.heap i l k) (hl : SqAt ta s.heap l vs) (hx : vs[k]? = some x)
    (h : ∀ h', ItAt ta h' i l (k + 1) → Heap.SameBut i s.heap h' → Q x { s with heap := h' }) : wpAny (model prog w) A (Builtin.SmallTypes.nextOf (.ref i)) Q E s := by
  cases ta
  · exact wpAny_nextOf_list_item f hl hx fun h' f' sb => h h' f' sb
  · exact RZ.nextOf_tuple_item f hl hx fun h' f' sb => h h' f' sb
theorem take_end {i l : Addr} {vs : Array Value} {k : Nat} {Q : Value → Shared → Prop} (hh : A.handled = none) (f : ItAt ta s.heap i l k) (hl : SqAt ta s.heap l vs) (hx : vs[k]? = none)
    (h : ∀ h' e, Heap.ExtBut i s.heap h' → (∃ o, h'.get? e = some o ∧ o.cls = .type "StopIteration") → E (.ref e) { s with heap := h' }) : wpAny (model prog w) A (Builtin.SmallTypes.nextOf (.ref i)) Q E s := by
  cases ta
  · exact wpAny_nextOf_list_end hh f hl hx h
  · exact RZ.nextOf_tuple_end hh f hl hx h
theorem mzip_item {Q : Value → Shared → Prop} (D : ZipApart z TI TO i1 i2 l1 l2) (hz : ZM s.heap z TI TO .none) (hTI : IsPair s.heap TI (.ref i1) (.ref i2)) (hTO : IsPair s.heap TO a b)
    (f1 : ItAt ta s.heap i1 l1 k1) (f2 : ItAt tb s.heap i2 l2 k2) (s1 : SqAt ta s.heap l1 xs) (s2 : SqAt tb s.heap l2 ys) (hx : xs[k1]? = some x) (hy : ys[k2]? = some y)
    (fin : ∀ h', ZM h' z TI TO (rawInt s.heap.objs.size) → IsPair h' TO x y → ItAt ta h' i1 l1 (k1 + 1) → ItAt tb h' i2 l2 (k2 + 1) → IsPair h' s.heap.objs.size x y →
      (∀ c o, c ≠ z → c ≠ TO → c ≠ i1 → c ≠ i2 → s.heap.get? c = some o → h'.get? c = some o) → Q (.ref s.heap.objs.size) { s with heap := h' }) :
    wpAny (model prog w) A (Builtin.«zip.__next__» ⟨[.ref z], []⟩) (fun out t => ∃ v, out = .done (.ret v) ∧ Q v t) E s := by
  show wpAny _ _ (field (.ref z) 2 >>= _) _ _ s
  refine wpAny_bind (wpAny_field hz rfl (x := .bool false) rfl ?_)
  show wpAny _ _ (field (.ref z) 3 >>= _) _ _ s
  refine wpAny_bind (wpAny_field hz rfl (x := .ref TI) rfl (wpAny_bind (wpAny_seqItems hTI rfl ?_)))
  show wpAny _ _ (Builtin.SmallTypes.ownedTupleIsFree (.ref z) >>= _) _ _ s
  unfold Builtin.SmallTypes.ownedTupleIsFree
  refine wpAny_bind (wpAny_bind (wpAny_field hz rfl (x := .none) rfl (wpAny_pure ?_)))
  simp only [if_true]
  refine wpAny_bind (wpAny_rule (wpAny_bind (wpAny_field hz rfl (x := .ref TO) rfl (wpAny_bind (wpAny_setField_rec hz (by simp) ?_)))))
  intro g1 z1 b1
  replace z1 : ZM g1 z TI TO .ellipsis := z1
  refine wpAny_bind ?_
  simp only [List.zipIdx_cons, List.zipIdx_nil, List.forIn_cons, List.forIn_nil]
  have up1 : ∀ c o, c ≠ z → s.heap.get? c = some o → g1.get? c = some o := fun c o n e => b1.extBut _ _ n e
  refine wpAny_bind (wpAny_bind (wpAny_onRaise ?_))
  show wpAny _ _ (Builtin.SmallTypes.nextOf (.ref i1) >>= _) _ _ _
  refine wpAny_bind (take_one (s := { s with heap := g1 }) (f1.to fun o => up1 _ o D.i1z) (s1.to fun o => up1 _ o D.l1z) hx fun g2 f12 b2 => wpAny_pure ?_)
  have up2 : ∀ c o, c ≠ z → c ≠ i1 → s.heap.get? c = some o → g2.get? c = some o := fun c o n m e => b2.extBut _ _ m (up1 c o n e)
  have t2 : IsPair g2 TO a b := up2 _ _ D.TOz D.TOi1 hTO
  refine wpAny_bind (wpAny_seqItems t2 rfl (wpAny_bind (wpAny_updateSeq_pair (s := { s with heap := g2 }) t2 ?_)))
  intro g3 t3 b3
  replace t3 : IsPair g3 TO x b := t3
  have up3 : ∀ c o, c ≠ z → c ≠ i1 → c ≠ TO → s.heap.get? c = some o → g3.get? c = some o := fun c o n m k e => b3.extBut _ _ k (up2 c o n m e)
  refine wpAny_bind (wpAny_letGo (wpAny_pure (wpAny_bind (wpAny_bind (wpAny_onRaise ?_)))))
  show wpAny _ _ (Builtin.SmallTypes.nextOf (.ref i2) >>= _) _ _ _
  refine wpAny_bind (take_one (s := { s with heap := g3 }) (f2.to fun o => up3 _ o D.i2z D.i12.symm D.TOi2.symm) (s2.to fun o => up3 _ o D.l2z D.l2i1 D.l2TO) hy fun g4 f24 b4 => wpAny_pure ?_)
  have t4 : IsPair g4 TO x b := b4.extBut _ _ D.TOi2 t3
  refine wpAny_bind (wpAny_seqItems t4 rfl (wpAny_bind (wpAny_updateSeq_pair (s := { s with heap := g4 }) t4 ?_)))
  intro g5 t5 b5
  replace t5 : IsPair g5 TO x y := t5
  refine wpAny_bind (wpAny_letGo (wpAny_pure (wpAny_pure ?_)))
  have up5 : ∀ c o, c ≠ z → c ≠ TO → c ≠ i1 → c ≠ i2 → s.heap.get? c = some o → g5.get? c = some o := fun c o n1 n2 n3 n4 e => b5.extBut _ _ n2 (b4.extBut _ _ n4 (up3 c o n1 n3 n2 e))
  have z5 : ZM g5 z TI TO .ellipsis := b5.extBut _ _ D.TOz.symm (b4.extBut _ _ D.i2z.symm (b3.extBut _ _ D.TOz.symm (b2.extBut _ _ D.i1z.symm z1)))
  have f15 : ItAt ta g5 i1 l1 (k1 + 1) := f12.to fun o e => b5.extBut _ _ D.TOi1.symm (b4.extBut _ _ D.i12 (b3.extBut _ _ D.TOi1.symm e))
  have f25 : ItAt tb g5 i2 l2 (k2 + 1) := f24.to fun o e => b5.extBut _ _ D.TOi2.symm e
  have sz : g5.objs.size = s.heap.objs.size := by rw [b5.1, b4.1, b3.1, b2.1, b1.1]
  refine wpAny_bind (wpAny_seqItems t5 rfl (wpAny_bind (wpAny_newTuple ?_)))
  show wpAny _ _ (Builtin.SmallTypes.ownedTupleHandOut (.ref z) (.ref g5.objs.size) >>= _) _ _ _
  unfold Builtin.SmallTypes.ownedTupleHandOut
  have z6 : ZM (g5.push { cls := .type "tuple", data := .seq #[x, y] }) z TI TO .ellipsis := Heap.get?_push_of_some _ z5
  refine wpAny_bind (wpAny_bind (wpAny_setField_rec z6 (by simp) ?_))
  intro g7 z7 b7
  replace z7 : ZM g7 z TI TO (rawInt g5.objs.size) := z7
  refine wpAny_setField_rec z7 (by simp) ?_
  intro g8 z8 b8
  replace z8 : ZM g8 z TI TO (rawInt g5.objs.size) := z8
  have lz : z < g5.objs.size := Heap.lt_size z5
  have up8 : ∀ c o, c ≠ z → g5.get? c = some o → g8.get? c = some o := fun c o n e => b8.extBut _ _ n (b7.extBut _ _ n (Heap.get?_push_of_some _ e))
  have t8 : IsPair g8 g5.objs.size x y := b8.extBut _ _ (Nat.ne_of_gt lz) (b7.extBut _ _ (Nat.ne_of_gt lz) (Heap.get?_push_size _ rfl))
  rw [sz] at z8 t8
  refine wpAny_pure ⟨_, rfl, ?_⟩
  show Q (.ref g5.objs.size) _
  rw [sz]
  exact fin g8 z8 (up8 _ _ D.TOz t5) (f15.to fun o => up8 _ o D.i1z) (f25.to fun o => up8 _ o D.i2z) t8 fun c o n1 n2 n3 n4 e => up8 c o n1 (up5 c o n1 n2 n3 n4 e)
theorem mzip_end {Q : Fin → Shared → Prop} (hh : A.handled = none) (D : ZipApart z TI TO i1 i2 l1 l2) (hz : ZM s.heap z TI TO .none) (hTI : IsPair s.heap TI (.ref i1) (.ref i2)) (hTO : IsPair s.heap TO a b)
    (f1 : ItAt ta s.heap i1 l1 k1) (f2 : ItAt tb s.heap i2 l2 k2) (s1 : SqAt ta s.heap l1 xs) (s2 : SqAt tb s.heap l2 ys) (hend : xs[k1]? = none ∨ ys[k2]? = none)
    (fin : ∀ h' e, (∀ c o, c ≠ z → c ≠ TO → c ≠ i1 → c ≠ i2 → s.heap.get? c = some o → h'.get? c = some o) → (∃ o, h'.get? e = some o ∧ o.cls = .type "StopIteration") → E (.ref e) { s with heap := h' }) :
    wpAny (model prog w) A (Builtin.«zip.__next__» ⟨[.ref z], []⟩) Q E s := by
  show wpAny _ _ (field (.ref z) 2 >>= _) _ _ s
  refine wpAny_bind (wpAny_field hz rfl (x := .bool false) rfl ?_)
  show wpAny _ _ (field (.ref z) 3 >>= _) _ _ s
  refine wpAny_bind (wpAny_field hz rfl (x := .ref TI) rfl (wpAny_bind (wpAny_seqItems hTI rfl ?_)))
  show wpAny _ _ (Builtin.SmallTypes.ownedTupleIsFree (.ref z) >>= _) _ _ s
  unfold Builtin.SmallTypes.ownedTupleIsFree
  refine wpAny_bind (wpAny_bind (wpAny_field hz rfl (x := .none) rfl (wpAny_pure ?_)))
  simp only [if_true]
  refine wpAny_bind (wpAny_rule (wpAny_bind (wpAny_field hz rfl (x := .ref TO) rfl (wpAny_bind (wpAny_setField_rec hz (by simp) ?_)))))
  intro g1 z1 b1
  replace z1 : ZM g1 z TI TO .ellipsis := z1
  refine wpAny_bind ?_
  simp only [List.zipIdx_cons, List.zipIdx_nil, List.forIn_cons, List.forIn_nil]
  have up1 : ∀ c o, c ≠ z → s.heap.get? c = some o → g1.get? c = some o := fun c o n e => b1.extBut _ _ n e
  refine wpAny_bind (wpAny_bind (wpAny_onRaise ?_))
  show wpAny _ _ (Builtin.SmallTypes.nextOf (.ref i1) >>= _) _ _ _
  cases hx : xs[k1]? with
  | none =>
    refine wpAny_bind (take_end (s := { s with heap := g1 }) hh (f1.to fun o => up1 _ o D.i1z) (s1.to fun o => up1 _ o D.l1z) hx ?_)
    rintro g2 e b2 ⟨oe, q1, q2⟩
    have z2 : ZM g2 z TI TO .ellipsis := b2 _ _ D.i1z.symm z1
    have ez : e ≠ z := fun q => by subst q; rw [z2] at q1; cases q1; simp at q2
    refine wpAny_setField_rec (s := { s with heap := g2 }) z2 (by simp) ?_
    intro g3 _ b3
    exact fin g3 e (fun c o n1 _ n3 _ q => b3.extBut _ _ n1 (b2 _ _ n3 (up1 c o n1 q))) ⟨oe, b3.extBut _ _ ez q1, q2⟩
  | some x =>
    have hy : ys[k2]? = none := by
      rcases hend with q | q
      · rw [hx] at q; cases q
      · exact q
    refine wpAny_bind (take_one (s := { s with heap := g1 }) (f1.to fun o => up1 _ o D.i1z) (s1.to fun o => up1 _ o D.l1z) hx fun g2 f12 b2 => wpAny_pure ?_)
    have up2 : ∀ c o, c ≠ z → c ≠ i1 → s.heap.get? c = some o → g2.get? c = some o := fun c o n m e => b2.extBut _ _ m (up1 c o n e)
    have t2 : IsPair g2 TO a b := up2 _ _ D.TOz D.TOi1 hTO
    refine wpAny_bind (wpAny_seqItems t2 rfl (wpAny_bind (wpAny_updateSeq_pair (s := { s with heap := g2 }) t2 ?_)))
    intro g3 t3 b3
    have up3 : ∀ c o, c ≠ z → c ≠ i1 → c ≠ TO → s.heap.get? c = some o → g3.get? c = some o := fun c o n m k e => b3.extBut _ _ k (up2 c o n m e)
    refine wpAny_bind (wpAny_letGo (wpAny_pure (wpAny_bind (wpAny_bind (wpAny_onRaise ?_)))))
    show wpAny _ _ (Builtin.SmallTypes.nextOf (.ref i2) >>= _) _ _ _
    refine wpAny_bind (take_end (s := { s with heap := g3 }) hh (f2.to fun o => up3 _ o D.i2z D.i12.symm D.TOi2.symm) (s2.to fun o => up3 _ o D.l2z D.l2i1 D.l2TO) hy ?_)
    rintro g4 e b4 ⟨oe, q1, q2⟩
    have z4 : ZM g4 z TI TO .ellipsis := b4 _ _ D.i2z.symm (b3.extBut _ _ D.TOz.symm (b2.extBut _ _ D.i1z.symm z1))
    have ez : e ≠ z := fun q => by subst q; rw [z4] at q1; cases q1; simp at q2
    refine wpAny_setField_rec (s := { s with heap := g4 }) z4 (by simp) ?_
    intro g5 _ b5
    exact fin g5 e (fun c o n1 n2 n3 n4 q => b5.extBut _ _ n1 (b4 _ _ n4 (up3 c o n1 n3 n2 q))) ⟨oe, b5.extBut _ _ ez q1, q2⟩
theorem next_mzip {Q : Option Value → Shared → Prop} (D : ZipApart z TI TO i1 i2 l1 l2) (hz : ZM s.heap z TI TO .none) (hTI : IsPair s.heap TI (.ref i1) (.ref i2)) (hTO : IsPair s.heap TO a b)
    (f1 : ItAt ta s.heap i1 l1 k1) (f2 : ItAt tb s.heap i2 l2 k2) (s1 : SqAt ta s.heap l1 xs) (s2 : SqAt tb s.heap l2 ys) (hx : xs[k1]? = some x) (hy : ys[k2]? = some y)
    (fin : ∀ h', ZM h' z TI TO (rawInt s.heap.objs.size) → IsPair h' TO x y → ItAt ta h' i1 l1 (k1 + 1) → ItAt tb h' i2 l2 (k2 + 1) → IsPair h' s.heap.objs.size x y →
      (∀ c o, c ≠ z → c ≠ TO → c ≠ i1 → c ≠ i2 → s.heap.get? c = some o → h'.get? c = some o) → Q (some (.ref s.heap.objs.size)) { s with heap := h' }) : wpAny (model prog w) A (pyNext (.ref z)) Q E s := by
  have hT : s.TypeIs (.ref z) "zip" := ⟨_, hz, rfl⟩
  unfold pyNext
  refine wpAny_bind (wpAny_attempt (wpAny_callSpecial?_slot (name := Str.ofString "__next__") hT F.slot_zip_next (wpAny_call_entry F.slot_zip_next hT F.entry_zip_next ?_ (F.args_zip_next_1 _))))
  exact mzip_item D hz hTI hTO f1 f2 s1 s2 hx hy fun h' a1 a2 a3 a4 a5 a6 => wpAny_pure (fin h' a1 a2 a3 a4 a5 a6)
theorem done_mzip {Q : Option Value → Shared → Prop} (hh : A.handled = none) (D : ZipApart z TI TO i1 i2 l1 l2) (hz : ZM s.heap z TI TO .none) (hTI : IsPair s.heap TI (.ref i1) (.ref i2)) (hTO : IsPair s.heap TO a b)
    (f1 : ItAt ta s.heap i1 l1 k1) (f2 : ItAt tb s.heap i2 l2 k2) (s1 : SqAt ta s.heap l1 xs) (s2 : SqAt tb s.heap l2 ys) (hend : xs[k1]? = none ∨ ys[k2]? = none)
    (fin : ∀ h', (∀ c o, c ≠ z → c ≠ TO → c ≠ i1 → c ≠ i2 → s.heap.get? c = some o → h'.get? c = some o) → Q none { s with heap := h' }) : wpAny (model prog w) A (pyNext (.ref z)) Q E s := by
  have hT : s.TypeIs (.ref z) "zip" := ⟨_, hz, rfl⟩
  unfold pyNext
  refine wpAny_bind (wpAny_attempt (wpAny_callSpecial?_slot (name := Str.ofString "__next__") hT F.slot_zip_next (wpAny_call_entry F.slot_zip_next hT F.entry_zip_next ?_ (F.args_zip_next_1 _))))
  refine mzip_end hh D hz hTI hTO f1 f2 s1 s2 hend ?_
  rintro h' e keep ⟨o, ho, hc⟩
  exact wpAny_bind (wpAny_isInstance (T := "StopIteration") (b := true) ⟨o, ho, hc⟩ isSubtype_stop (wpAny_pure (fin _ keep)))
theorem self_mzip {f0 : Value} {Q : Value → Shared → Prop} (hz : ZM s.heap z TI TO f0) (h : Q (.ref z) s) : wpAny (model prog w) A (pyIter (.ref z)) Q E s := by
  have ty : s.TypeIs (.ref z) "zip" := ⟨_, hz, rfl⟩
  refine wpAny_pyIter_slot ty F.slot_zip_iter (wpAny_call_entry F.slot_zip_iter ty F.entry_zip_iter (show wpAny _ _ (ret (.ref z)) _ _ s from ?_) (F.args_zip_iter_1 _))
  exact wpAny_pure ⟨_, rfl, "zip", _, ty, F.slot_zip_next.lookup, h⟩
theorem go_mzip {elts : List Expr} {q : Nat} {pos : Pos} {T : Addr} {Q : Unit → Shared → Prop} (hz : ZM s.heap z TI TO (rawInt T))
    (h : ∀ h', ZM h' z TI TO .none → Heap.SameBut z s.heap h' → Q () { s with heap := h' }) : wpAny (model prog w) A (letOwnedTupleGo (.Tuple elts q pos) (.ref z) (.ref T)) Q E s := by
  unfold letOwnedTupleGo
  refine wpAny_bind (wpAny_load hz ?_)
  have yes : (["enumerate", "zip", "dict_itemiterator", "dict_reverseitemiterator", "odict_iterator", "itertools.zip_longest", "itertools.pairwise"].contains "zip" && (#[rawInt T, .bool false, .bool false, .ref TI, .ref TO] : Array Value)[0]? == some (rawInt T)) = true := by simp
  refine (show wpAny _ _ (if (["enumerate", "zip", "dict_itemiterator", "dict_reverseitemiterator", "odict_iterator", "itertools.zip_longest", "itertools.pairwise"].contains "zip" && (#[rawInt T, .bool false, .bool false, .ref TI, .ref TO] : Array Value)[0]? == some (rawInt T)) = true then _ else _) Q E s from ?_)
  rw [if_pos yes]
  refine wpAny_bind (wpAny_rule (show wpAny _ _ (setField (.ref z) 0 .none) Q E s from ?_))
  exact wpAny_setField_rec hz (by simp) h
abbrev zM (ta tb : Bool) (h : Heap) (l1 l2 : Addr) : Heap := (zD ta tb h l1 l2).push { cls := .type "zip", data := .fields #[.none, .bool false, .bool false, .ref (zB ta tb h l1 l2).objs.size, .ref (zC ta tb h l1 l2).objs.size] }
theorem meets_mzip (l1 l2 : Addr) (xs ys : Array Value) : Meets (Builtin.«zip.__new__» ⟨[.type "zip", .ref l1, .ref l2], []⟩) (fun _ R s => SqAt ta s.heap l1 xs ∧ SqAt tb s.heap l2 ys ∧
    R (.ok (.ret (.ref (zD ta tb s.heap l1 l2).objs.size))) { s with heap := zM ta tb s.heap l1 l2 }) :=
  .of_wp fun prog w A R s h => by
    obtain ⟨hp, g, d, tk, os⟩ := s
    obtain ⟨q1, q2, h⟩ := h
    have hsub := sub_zip
    have r1 : SqAt ta (Shared.heap ⟨hp, g, d, tk, os⟩) l1 xs := q1
    have r2 : SqAt tb (Shared.heap ⟨hp.push (itO ta l1), g, d, tk, os⟩) l2 ys := q2.to fun o e => Heap.get?_push_of_some _ e
    wp_walk using iter_sq r1, iter_sq r2
    exact ⟨_, rfl, h⟩
theorem call_mzip {Q : Value → Shared → Prop} (s1 : SqAt ta s.heap l1 xs) (s2 : SqAt tb s.heap l2 ys)
    (h : ∀ h', ZM h' (s.heap.objs.size + 4) (s.heap.objs.size + 2) (s.heap.objs.size + 3) .none → IsPair h' (s.heap.objs.size + 2) (.ref s.heap.objs.size) (.ref (s.heap.objs.size + 1)) →
      IsPair h' (s.heap.objs.size + 3) .none .none → ItAt ta h' s.heap.objs.size l1 0 → ItAt tb h' (s.heap.objs.size + 1) l2 0 →
      (∀ c o, s.heap.get? c = some o → h'.get? c = some o) → Q (.ref (s.heap.objs.size + 4)) { s with heap := h' }) :
    wpAny (model prog w) A (call (.type "zip") [.ref l1, .ref l2]) Q E s := by
  refine callType_new F.called_zip (by decide) (F.typeCall_zip_2 _ _) (F.newCall_zip_2 _ _) (fun o => F.args_object_init_3 o _ _) F.entry_zip_new (meets_mzip (ta := ta) (tb := tb) l1 l2 xs ys) ⟨s1, s2, ?_⟩
  have eA : (zA ta s.heap l1).objs.size = s.heap.objs.size + 1 := by cases ta <;> exact Heap.size_push ..
  have eB : (zB ta tb s.heap l1 l2).objs.size = s.heap.objs.size + 2 := by
    have : (zB ta tb s.heap l1 l2).objs.size = (zA ta s.heap l1).objs.size + 1 := by cases tb <;> exact Heap.size_push ..
    rw [this, eA]
  have eC : (zC ta tb s.heap l1 l2).objs.size = s.heap.objs.size + 3 := by rw [Heap.size_push, eB]
  have eD : (zD ta tb s.heap l1 l2).objs.size = s.heap.objs.size + 4 := by rw [Heap.size_push, eC]
  have g5 : (zM ta tb s.heap l1 l2).get? (zD ta tb s.heap l1 l2).objs.size = some _ := Heap.get?_push_size _ rfl
  have g4 : (zM ta tb s.heap l1 l2).get? (zC ta tb s.heap l1 l2).objs.size = some _ := Heap.get?_push_of_some _ (Heap.get?_push_size _ rfl)
  have g3 : (zM ta tb s.heap l1 l2).get? (zB ta tb s.heap l1 l2).objs.size = some _ := Heap.get?_push_of_some _ (Heap.get?_push_of_some _ (Heap.get?_push_size _ rfl))
  have g2 : (zM ta tb s.heap l1 l2).get? (zA ta s.heap l1).objs.size = some (itO tb l2) := Heap.get?_push_of_some _ (Heap.get?_push_of_some _ (Heap.get?_push_of_some _ (itO_get _ _)))
  have g1 : (zM ta tb s.heap l1 l2).get? s.heap.objs.size = some (itO ta l1) := Heap.get?_push_of_some _ (Heap.get?_push_of_some _ (Heap.get?_push_of_some _ (Heap.get?_push_of_some _ (itO_get _ _))))
  have up : ∀ c o, s.heap.get? c = some o → (zM ta tb s.heap l1 l2).get? c = some o := fun c o e =>
    Heap.get?_push_of_some _ (Heap.get?_push_of_some _ (Heap.get?_push_of_some _ (Heap.get?_push_of_some _ (Heap.get?_push_of_some _ e))))
  show _ ∧ _
  rw [eB, eC, eD] at g5
  rw [eA, eB] at g3
  rw [eC] at g4
  rw [eA] at g2
  rw [eD]
  exact ⟨⟨_, g5, rfl⟩, h _ g5 g3 g4 (itO_at g1) (itO_at g2) up⟩
end
def ItzM (ta tb : Bool) (K : PySem.W.Frag) (a b : Addr) : L2.It :=
  ⟨fun i H => ∃ (xs ys : List V) (x y : V), SqB ta K H a xs ∧ SqB tb K H b ys ∧ xs[i]? = some x ∧ ys[i]? = some y,
    fun i H v H' => ∃ T x y, v = .ref T ∧ H T = none ∧ H' = upd H T (.tup [x, y]) ∧ (∀ xs, SqB ta K H a xs → xs[i]? = some x) ∧ ∀ ys, SqB tb K H b ys → ys[i]? = some y,
    fun i H => ∃ xs ys : List V, SqB ta K H a xs ∧ SqB tb K H b ys ∧ (xs.length ≤ i ∨ ys.length ≤ i)⟩
theorem turn_mzip {P : Program} {w : World} {K : PySem.W.Frag} {elts : List Expr} {kk : Nat} {tpos : Pos} {ta tb : Bool} {a b z TI TO i1 i2 : Addr} (D : ZipApart z TI TO i1 i2 a b) :
    Turn P w K (.Tuple elts kk tpos) (ItzM ta tb K a b) [z, TI, TO, i1, i2] z (fun i h => ZM h z TI TO .none ∧ IsPair h TI (.ref i1) (.ref i2) ∧ (∃ x y, IsPair h TO x y) ∧ ItAt ta h i1 a i ∧ ItAt tb h i2 b i) where
  mem := by simp
  obj := fun i h st c hc => by
    obtain ⟨hz, hTI, ⟨x, y, hTO⟩, f1, f2⟩ := st
    simp only [List.mem_cons, List.not_mem_nil, or_false] at hc
    rcases hc with rfl | rfl | rfl | rfl | rfl
    · exact ⟨_, hz, fun v q => nomatch q⟩
    · exact ⟨_, hTI, fun v q => nomatch q⟩
    · exact ⟨_, hTO, fun v q => nomatch q⟩
    · exact f1.objAt
    · exact f2.objAt
  keep := fun i h h' st k => by
    obtain ⟨hz, hTI, ⟨x, y, hTO⟩, f1, f2⟩ := st
    exact ⟨k z (by simp) _ hz, k TI (by simp) _ hTI, ⟨x, y, k TO (by simp) _ hTO⟩, f1.to (k i1 (by simp)), f2.to (k i2 (by simp))⟩
  item := by
    intro X hP hw hK hc i pins s σ H E I hf st hg
    subst hP hw hK
    obtain ⟨hz, hTI, ⟨x0, y0, hTO⟩, f1, f2⟩ := st
    obtain ⟨xs, ys, x, y, qx, qy, ex, ey⟩ := hg
    obtain ⟨us, rx, p1, _⟩ := qx.at I
    obtain ⟨ws, ry, p2, _⟩ := qy.at I
    obtain ⟨u, hu, ru⟩ := rx.get ex
    obtain ⟨v, hv, rv⟩ := ry.get ey
    have lz : z < s.heap.objs.size := Heap.lt_size hz
    refine next_mzip D hz hTI hTO f1 f2 p1 p2 (x := u) (y := v) (by simpa using hu) (by simpa using hv) ?_
    intro h' z' t' g1 g2 hT hk
    refine ⟨_, rfl, go_mzip (s := { s with heap := h' }) z' ?_⟩
    intro h'' z'' sb
    have hT2 : h''.get? s.heap.objs.size = some { cls := .type "tuple", data := .seq #[u, v] } := (sb.2 _ (Nat.ne_of_gt lz)).trans hT
    have new : ObjOk X.prog X.w (upd H s.heap.objs.size (.tup [x, y])) h'' s.heap.objs.size (.tup [x, y]) := ⟨by show 2 ≤ sizeLine; decide, [u, v], .cons ru (.cons rv .nil), ⟨_, hT2, rfl, _, rfl⟩⟩
    have keep : ∀ c o, c ∉ [z, TI, TO, i1, i2] → s.heap.get? c = some o → h''.get? c = some o := fun c o n e => by
      simp only [List.mem_cons, List.not_mem_nil, or_false, not_or] at n
      exact (sb.2 c n.1).trans (hk c o n.1 n.2.2.1 n.2.2.2.1 n.2.2.2.2 e)
    have I1 : Inv X pins σ (upd H s.heap.objs.size (.tup [x, y])) { s with heap := h'' } := I.turnedNew (t' := s.toks) (ch := [z, TI, TO, i1, i2]) keep hf (Nat.le_refl _) new
    refine ⟨.ref s.heap.objs.size, _, I1, rfl, ⟨_, x, y, rfl, I.hok.fresh (Nat.le_refl _), rfl, fun l hl => by rw [hl.inj I qx]; exact ex, fun l hl => by rw [hl.inj I qy]; exact ey⟩, ⟨z'', ?_, ⟨u, v, (sb.2 _ D.TOz).trans t'⟩, g1.to fun o q => (sb.2 _ D.i1z).trans q, g2.to fun o q => (sb.2 _ D.i2z).trans q⟩, fun c hcm => ?_⟩
    · exact (sb.2 _ D.TIz).trans (hk _ _ D.TIz D.TITO D.TIi1 D.TIi2 hTI)
    · have lt : c < s.heap.objs.size := by
        have hcm' := hcm
        simp only [List.mem_cons, List.not_mem_nil, or_false] at hcm'
        rcases hcm' with rfl | rfl | rfl | rfl | rfl
        · exact lz
        · exact Heap.lt_size hTI
        · exact Heap.lt_size hTO
        · exact f1.lt
        · exact f2.lt
      rw [upd_ne (Nat.ne_of_lt lt)]
      exact (hf c hcm).1
  done := by
    intro X hP hw hK hc i pins s σ H E I hf st hg
    subst hP hw hK
    obtain ⟨hz, hTI, ⟨x0, y0, hTO⟩, f1, f2⟩ := st
    obtain ⟨xs, ys, qx, qy, n1⟩ := hg
    obtain ⟨us, rx, p1, _⟩ := qx.at I
    obtain ⟨ws, ry, p2, _⟩ := qy.at I
    have e1 := rx.length
    have e2 := ry.length
    refine done_mzip (I.ok.hd hc) D hz hTI hTO f1 f2 p1 p2 (n1.imp (fun q => by simp; omega) (fun q => by simp; omega)) ?_
    intro h' hk
    refine ⟨rfl, I.turnedL (t' := s.toks) (ch := [z, TI, TO, i1, i2]) (fun c o n e => ?_) hf⟩
    simp only [List.mem_cons, List.not_mem_nil, or_false, not_or] at n
    exact hk c o n.1 n.2.2.1 n.2.2.2.1 n.2.2.2.2 e
  self := fun A i s Q E st h => self_mzip st.1 h
def iZipM (K : PySem.W.Frag) (t : TA) : TI := fun σ H Rh => t σ H fun vs H1 => ∃ ta tb a b xs ys, vs = [.ref a, .ref b] ∧ SqB ta K H1 a xs ∧ SqB tb K H1 b ys ∧ Rh (ItzM ta tb K a b) H1
theorem pi_mzip {X : Cx} {e e2 : Expr} {t : TA} {p pos tpos : Pos} {elts : List Expr} {kk : Nat} (hg : Gl X "zip") (hm : X.mg "zip" = none) (ha : PA X [e, e2] t)
    (hs : starEach [e, e2] X.env = (false, eval e X.env) :: starEach [e2] X.env) (hpl : (backTo pos (starEach [e2] X.env)).any (·.1) = false) :
    PI X (.Tuple elts kk tpos) (.Call (.Name "zip" p) [e, e2] [] pos) (iZipM X.K t) := by
  constructor
  intro pins s σ H Rh I h
  refine Call_ (ld_blt I hg hm PyProof.Rows.boot_zip (PyProof.Rows.callWith_type1 (thn (ha.run pos pins s σ H _ I h) ?_) hs hpl))
  rintro us s2 ⟨vs, H2, I2, r1, ta, tb, a, b, xs, ys, ev, qx, qy, q⟩
  subst ev
  cases r1 with
  | cons z zz =>
  cases zz with
  | cons z' zz =>
  cases zz
  cases z
  cases z'
  obtain ⟨its1, v1, p1, l1⟩ := qx.at I2
  obtain ⟨its2, v2, p2, l2⟩ := qy.at I2
  refine call_mzip p1 p2 ?_
  intro h' hz hTI hTO f1 f2 hk
  refine self_mzip hz ?_
  have I3 : Inv X pins σ H2 { s2 with heap := h' } := I2.kept (t' := s2.toks) hk
  refine ⟨s2.heap.objs.size + 4, [s2.heap.objs.size + 4, s2.heap.objs.size + 2, s2.heap.objs.size + 3, s2.heap.objs.size, s2.heap.objs.size + 1], _, _, H2, rfl, I3, turn_mzip (PySem.W.ktu_apart s2.heap.objs.size a b l1 l2), ⟨hz, hTI, ⟨_, _, hTO⟩, f1, f2⟩, ?_, q⟩
  intro c hc
  have le : s2.heap.objs.size ≤ c := by
    simp only [List.mem_cons, List.not_mem_nil, or_false] at hc
    rcases hc with rfl | rfl | rfl | rfl | rfl <;> omega
  exact I2.fpOk le (I2.hok.fresh le)
end DL
set_option Elab.async false
set_option linter.all false
set_option maxRecDepth 100000
set_option maxHeartbeats 2000000
/-! Dc: the data built-ins, zip and enumerate, as parts of the reading. -/
namespace DL
open PySem PySem.Spec PyProof.Rows L2
section
variable {X : Cx} {C : Nat → Fs} {E : XK} {S : Sx} {G H G' H' : Hp} {σ : L2.St} {env : Env} {vs : List Nat} {Ep : Str → Prop} {Q : Bool → PyData → Prop} {Qh : VK}
variable {x : Str} {e : Expr} {es : List Expr} {xs : Exs} {p pos : Pos}
theorem sd_max (sy : SysD X.base) (hc : X.calm = true) (hu : X.A.units + 65 < cLine) (hx : x = "max") (hg : Gl X x) (hm : X.mg x = none) (ha : PA X (e :: es) (tA X C E xs)) (ns : ∀ v p, e ≠ .Starred v p) (hpl : (backTo pos (starEach es X.env)).any (·.1) = false) : PE X (.Call (.Name x p) (e :: es) [] pos) (tE X C E (.bi .max xs)) := by
  subst hx
  refine sd_bi0 (pe_callB (CallR.or (call_max2 hc) (call_maxD sy hc hu)) hg hm (by decide +kernel) ha (by decide) (by decide) (star_of ns) hpl) fun {S G H σ env vs Ep Q Qh ws ds} p r0 h => ?_
  match ds, h, r0 with
  | [.int i, .int j], h, r0 =>
    obtain ⟨v, w, rfl, r, r'⟩ := r0.two'
    rw [r.int', r'.int']
    exact .inl ⟨i, j, rfl, p.done (.int _) h⟩
  | [.list (y :: ys)], ⟨k, h⟩, r0 =>
    obtain ⟨v, rfl, r⟩ := r0.one'
    exact .inr ⟨G, v, y, ys, p.sub, .inl r, k, rfl, fun u ru => p.done ru h⟩
  | [.tuple (y :: ys)], ⟨k, h⟩, r0 =>
    obtain ⟨v, rfl, r⟩ := r0.one'
    exact .inr ⟨G, v, y, ys, p.sub, .inr r, k, rfl, fun u ru => p.done ru h⟩
theorem sd_min (sy : SysD X.base) (hc : X.calm = true) (hu : X.A.units + 65 < cLine) (hx : x = "min") (hg : Gl X x) (hm : X.mg x = none) (ha : PA X (e :: es) (tA X C E xs)) (ns : ∀ v p, e ≠ .Starred v p) (hpl : (backTo pos (starEach es X.env)).any (·.1) = false) : PE X (.Call (.Name x p) (e :: es) [] pos) (tE X C E (.bi .min xs)) := by
  subst hx
  refine sd_bi0 (pe_callB (CallR.or (call_min2 hc) (call_minD sy hc hu)) hg hm (by decide +kernel) ha (by decide) (by decide) (star_of ns) hpl) fun {S G H σ env vs Ep Q Qh ws ds} p r0 h => ?_
  match ds, h, r0 with
  | [.int i, .int j], h, r0 =>
    obtain ⟨v, w, rfl, r, r'⟩ := r0.two'
    rw [r.int', r'.int']
    exact .inl ⟨i, j, rfl, p.done (.int _) h⟩
  | [.list (y :: ys)], ⟨k, h⟩, r0 =>
    obtain ⟨v, rfl, r⟩ := r0.one'
    exact .inr ⟨G, v, y, ys, p.sub, .inl r, k, rfl, fun u ru => p.done ru h⟩
  | [.tuple (y :: ys)], ⟨k, h⟩, r0 =>
    obtain ⟨v, rfl, r⟩ := r0.one'
    exact .inr ⟨G, v, y, ys, p.sub, .inr r, k, rfl, fun u ru => p.done ru h⟩
theorem sd_repr (sy : SysD X.base) (hcl : Calm X.A) (hu : X.A.units + 65 < cLine) (hx : x = "repr") (hg : Gl X x) (hm : X.mg x = none) (ha : PA X (e :: es) (tA X C E xs)) (ns : ∀ v p, e ≠ .Starred v p) (hpl : (backTo pos (starEach es X.env)).any (·.1) = false) : PE X (.Call (.Name x p) (e :: es) [] pos) (tE X C E (.bi .repr xs)) := by
  subst hx
  refine sd_bi0 (pe_callB (call_reprD sy hcl hu) hg hm (by decide +kernel) ha (by decide) (by decide) (star_of ns) hpl) fun {S G H σ env vs Ep Q Qh ws ds} p r0 h => ?_
  match ds, h, r0 with
  | [d], ⟨k, h⟩, r0 =>
    obtain ⟨v, rfl, r⟩ := r0.one'
    exact ⟨G, v, d, p.sub, r, k, rfl, p.done (.str _) h⟩
theorem sd_sorted (sy : SysD X.base) (hu : X.A.units + 65 < cLine) (hx : x = "sorted") (hg : Gl X x) (hm : X.mg x = none) (ha : PA X (e :: es) (tA X C E xs)) (ns : ∀ v p, e ≠ .Starred v p) (hpl : (backTo pos (starEach es X.env)).any (·.1) = false) : PE X (.Call (.Name x p) (e :: es) [] pos) (tE X C E (.bi .sorted xs)) := by
  subst hx
  refine sd_bi0 (pe_callB (call_sortD sy hu) hg hm (by decide +kernel) ha (by decide) (by decide) (star_of ns) hpl) fun {S G H σ env vs Ep Q Qh ws ds} p r0 h => ?_
  match ds, h, r0 with
  | [.list l], ⟨k, k2, h⟩, r0 =>
    obtain ⟨v, rfl, r⟩ := r0.one'
    exact ⟨G, v, l, p.sub, r, k, k2, rfl, fun q ys n rr => p.newL n rr h⟩
theorem allBools_eq : ∀ {ds : List PyData} {ns : List Bool}, allBools ds = some ns → ds = ns.map PyData.bool
  | [], ns, h => by cases h; rfl
  | .bool i :: r, ns, h => by
    simp only [allBools, Option.map_eq_some_iff] at h
    obtain ⟨ms, h1, rfl⟩ := h
    rw [allBools_eq h1]; rfl
  | .none :: r, ns, h => by cases h
  | .int _ :: r, ns, h => by cases h
  | .str _ :: r, ns, h => by cases h
  | .list _ :: r, ns, h => by cases h
  | .tuple _ :: r, ns, h => by cases h
  | .dict _ :: r, ns, h => by cases h
theorem sd_all (hc : X.calm = true) (hx : x = "all") (hg : Gl X x) (hm : X.mg x = none) (ha : PA X (e :: es) (tA X C E xs)) (ns : ∀ v p, e ≠ .Starred v p) (hpl : (backTo pos (starEach es X.env)).any (·.1) = false) : PE X (.Call (.Name x p) (e :: es) [] pos) (tE X C E (.bi .all xs)) := by
  subst hx
  refine sd_bi0 (pe_callB (cr_all hc) hg hm (by decide +kernel) ha (by decide) (by decide) (star_of ns) hpl) fun {S G H σ env vs Ep Q Qh ws ds} p r0 h => ?_
  match ds, h, r0 with
  | [.list l], ⟨ns, hn, h⟩, r0 =>
    obtain ⟨v, rfl, r⟩ := r0.one'
    obtain ⟨a, ys, rfl, h1, q1⟩ := r.lst'
    have e := allBools_eq hn
    subst e
    rw [q1.bools] at h1
    exact ⟨a, ns, rfl, SqL.of (p.sub _ _ h1), p.done (.bl _) h⟩
theorem sd_any (hc : X.calm = true) (hx : x = "any") (hg : Gl X x) (hm : X.mg x = none) (ha : PA X (e :: es) (tA X C E xs)) (ns : ∀ v p, e ≠ .Starred v p) (hpl : (backTo pos (starEach es X.env)).any (·.1) = false) : PE X (.Call (.Name x p) (e :: es) [] pos) (tE X C E (.bi .any xs)) := by
  subst hx
  refine sd_bi0 (pe_callB (cr_any hc) hg hm (by decide +kernel) ha (by decide) (by decide) (star_of ns) hpl) fun {S G H σ env vs Ep Q Qh ws ds} p r0 h => ?_
  match ds, h, r0 with
  | [.list l], ⟨ns, hn, h⟩, r0 =>
    obtain ⟨v, rfl, r⟩ := r0.one'
    obtain ⟨a, ys, rfl, h1, q1⟩ := r.lst'
    have e := allBools_eq hn
    subst e
    rw [q1.bools] at h1
    exact ⟨a, ns, rfl, SqL.of (p.sub _ _ h1), p.done (.bl _) h⟩
theorem sd_isa (sy : SysD X.base) {y : Ex} {T : Ty} {f : Str} {q : Pos} (hf : f = (Str.ofString (tyN T))) (hx : x = "isinstance") (hg : Gl X x) (hm : X.mg x = none) (hgf : Gl X f) (hmf : X.mg f = none) (he : PE X e (tE X C E y)) (ns : ∀ v p, e ≠ .Starred v p) :
    PE X (.Call (.Name x p) [e, .Name f q] [] pos) (tE X C E (.isa y T)) := by
  subst hx
  have hty : PE X (.Name f q) (tC (.ty (tyN T))) := by
    subst hf
    cases T <;> exact pe_bltn hgf hmf (u := .type _) (by decide +kernel) rfl (by decide) (by decide)
  have hA : PA X [e, .Name f q] (tCons (tE X C E y) (tCons (tC (.ty (tyN T))) tNil)) := pa_cons he (pa_cons hty pa_nil (by rfl)) (star_of ns)
  refine PE.imp (pe_callB (call_isaD sy T) hg hm (by decide +kernel) hA (by decide) (by decide) (star_of ns) (by rfl)) fun σ H Qh ⟨S, G, env, Ep, Q, p, h⟩ => ?_
  refine p.use (a := y) (fun i hi => by simpa [Ex.vs] using hi) (by simpa only [Ex.rd] using h) fun v G1 H1 f x p1 x1 r1 h1 => ?_
  exact ⟨G1, v, x, p1.sub, r1, rfl, p1.done (.bl _) h1⟩
theorem Sub.gnone {p : Addr} (s : Sub G H) (n : H p = none) : G p = none := by
  cases z : G p with
  | none => rfl
  | some u => rw [s _ _ z] at n; cases n
theorem sd_dic0 : PE X (.Dict [] [] pos) (tE X C E .dic0) :=
  PE.imp pe_dnewK fun σ H Qh ⟨S, G, env, Ep, Q, p, h⟩ q n => by
    refine p.fin _ _ ⟨G, true, .dict [], .newO p.st.sub p.st.src n, ?_, by simpa only [Ex.rd] using h⟩
    simp only [RF, if_true]
    exact ⟨⟨q, .dK [], [], rfl, upd_same, ⟨[], rfl, rfl⟩, p.sub.gnone n, .nil⟩, fun a e => by cases e; exact n⟩
/-! ### zip, enumerate -/
theorem zip_get {xs ys : List PyData} {i : Nat} {d : PyData} (h : (zipD xs ys)[i]? = some d) : ∃ x y, xs[i]? = some x ∧ ys[i]? = some y ∧ d = .tuple [x, y] := by
  unfold zipD at h
  rw [List.getElem?_zipWith] at h
  cases hx : xs[i]? with
  | none => rw [hx] at h; simp at h
  | some x =>
    cases hy : ys[i]? with
    | none => rw [hx, hy] at h; simp at h
    | some y => rw [hx, hy] at h; simp at h; exact ⟨x, y, rfl, rfl, h.symm⟩
theorem zip_len {xs ys : List PyData} : (zipD xs ys).length = min xs.length ys.length := by simp [zipD]
theorem pair_new {K : PySem.W.Frag} {G2 H2 : Hp} {T : Addr} {x y : V} {dx dy : PyData} (s2 : Sub G2 H2) (so : SrcOk S G2 H2) (n : H2 T = none) (rx : R K G2 x dx) (ry : R K G2 y dy) :
    ∃ G3, Ext S G2 H2 G3 (upd H2 T (.tup [x, y])) ∧ RW true K G3 (.ref T) (.tuple [dx, dy]) := by
  have e : Ext S G2 H2 (upd G2 T (.tup [x, y])) (upd H2 T (.tup [x, y])) := .new s2 so n
  exact ⟨_, e, .inr ⟨rfl, T, _, _, rfl, rfl, SqT.of upd_same, .cons (rx.mono e.gg) (.cons (ry.mono e.gg) .nil)⟩⟩
theorem walks_zl {K : PySem.W.Frag} {a b : Addr} {us ws : List V} {xs ys : List PyData} (h : G a = some (.lst us)) (r : RAll K G us xs) (h' : G b = some (.lst ws)) (r' : RAll K G ws ys) : Walks true K S (Itz K a b) (zipD xs ys) G := fun G2 H2 s1 s2 so => by
  have l1 : SqL K H2 a us := SqL.of (s2 _ _ (s1 _ _ h))
  have l2 : SqL K H2 b ws := SqL.of (s2 _ _ (s1 _ _ h'))
  refine ⟨fun i d e => ?_, ⟨us, ws, l1, l2, by rw [zip_len, r.length, r'.length]; omega⟩⟩
  obtain ⟨dx, dy, ex, ey, rfl⟩ := zip_get e
  obtain ⟨x, ex', rx⟩ := r.get i ex
  obtain ⟨y, ey', ry⟩ := r'.get i ey
  refine ⟨⟨us, ws, x, y, l1, l2, ex', ey'⟩, ?_⟩
  rintro v H3 ⟨T, x2, y2, rfl, n, rfl, k1, k2⟩
  have q1 := k1 us l1
  have q2 := k2 ws l2
  rw [ex'] at q1
  rw [ey'] at q2
  cases q1
  cases q2
  exact pair_new s2 so n (rx.mono s1) (ry.mono s1)
theorem walks_zt {K : PySem.W.Frag} {a b : Addr} {us ws : List V} {xs ys : List PyData} (h : SqT K G a us) (r : RAll K G us xs) (h' : SqT K G b ws) (r' : RAll K G ws ys) : Walks true K S (RZ.ItzT K a b) (zipD xs ys) G := fun G2 H2 s1 s2 so => by
  have l1 : SqT K H2 a us := s2.t (s1.t h)
  have l2 : SqT K H2 b ws := s2.t (s1.t h')
  refine ⟨fun i d e => ?_, ⟨us, ws, l1, l2, by rw [zip_len, r.length, r'.length]; omega⟩⟩
  obtain ⟨dx, dy, ex, ey, rfl⟩ := zip_get e
  obtain ⟨x, ex', rx⟩ := r.get i ex
  obtain ⟨y, ey', ry⟩ := r'.get i ey
  refine ⟨⟨us, ws, x, y, l1, l2, ex', ey'⟩, ?_⟩
  rintro v H3 ⟨T, x2, y2, rfl, n, rfl, k1, k2⟩
  have q1 := k1 us l1
  have q2 := k2 ws l2
  rw [ex'] at q1
  rw [ey'] at q2
  cases q1
  cases q2
  exact pair_new s2 so n (rx.mono s1) (ry.mono s1)
theorem walks_zs {K : PySem.W.Frag} {ta tb : Bool} {a b : Addr} {us ws : List V} {xs ys : List PyData} (h : SqB ta K G a us) (r : RAll K G us xs) (h' : SqB tb K G b ws) (r' : RAll K G ws ys) (el : xs.length = ys.length)
    (up : ∀ {t : Bool} {G2 : Hp} {c : Addr} {zs : List V}, Sub G G2 → SqB t K G c zs → SqB t K G2 c zs) : Walks true K S (ItzS ta tb K a b) (zipD xs ys) G := fun G2 H2 s1 s2 so => by
  have l1 : SqB ta K H2 a us := up (s1.trans s2) h
  have l2 : SqB tb K H2 b ws := up (s1.trans s2) h'
  refine ⟨fun i d e => ?_, ⟨us, ws, l1, l2, by rw [zip_len, r.length]; omega, by rw [zip_len, r'.length]; omega⟩⟩
  obtain ⟨dx, dy, ex, ey, rfl⟩ := zip_get e
  obtain ⟨x, ex', rx⟩ := r.get i ex
  obtain ⟨y, ey', ry⟩ := r'.get i ey
  refine ⟨⟨us, ws, x, y, l1, l2, ex', ey'⟩, ?_⟩
  rintro v H3 ⟨T, x2, y2, rfl, n, rfl, k1, k2⟩
  have q1 := k1 us l1
  have q2 := k2 ws l2
  rw [ex'] at q1
  rw [ey'] at q2
  cases q1
  cases q2
  exact pair_new s2 so n (rx.mono s1) (ry.mono s1)
theorem sqB_up {K : PySem.W.Frag} {t : Bool} {G2 : Hp} {c : Addr} {zs : List V} (s : Sub G G2) (h : SqB t K G c zs) : SqB t K G2 c zs := by
  cases t
  · exact s.l (show SqL K G c zs from h)
  · exact s.t (show SqT K G c zs from h)
theorem sqB_of {K : PySem.W.Frag} {v : V} {d : PyData} {xs : List PyData} (r : R K G v d) (h : d = .list xs ∨ d = .tuple xs) : ∃ t a us, v = .ref a ∧ SqB t K G a us ∧ RAll K G us xs := by
  rcases h with rfl | rfl
  · obtain ⟨a, us, rfl, h, q⟩ := r.lst'
    exact ⟨false, a, us, rfl, (SqL.of h : SqL K G a us), q⟩
  · obtain ⟨a, us, rfl, h, q⟩ := r.tup'
    exact ⟨true, a, us, rfl, h, q⟩
theorem walks_only {W : Hp → Prop} (h : W G') : ∀ G'', (G'' = G' ∨ (false = true ∧ Thin G G' G'')) → W G'' := by
  rintro _ (rfl | ⟨z, _⟩)
  · exact h
  · cases z
theorem isLst_iff {d : PyData} {Q : List PyData → Prop} (h : isLst d Q) : ∃ xs, d = .list xs ∧ Q xs := by
  cases d <;> first | exact ⟨_, rfl, h⟩ | cases h
theorem walks_zm {K : PySem.W.Frag} {ta tb : Bool} {a b : Addr} {us ws : List V} {xs ys : List PyData} (h : SqB ta K G a us) (r : RAll K G us xs) (h' : SqB tb K G b ws) (r' : RAll K G ws ys)
    (up : ∀ {t : Bool} {G2 : Hp} {c : Addr} {zs : List V}, Sub G G2 → SqB t K G c zs → SqB t K G2 c zs) : Walks true K S (ItzM ta tb K a b) (zipD xs ys) G := fun G2 H2 s1 s2 so => by
  have l1 : SqB ta K H2 a us := up (s1.trans s2) h
  have l2 : SqB tb K H2 b ws := up (s1.trans s2) h'
  refine ⟨fun i d e => ?_, ⟨us, ws, l1, l2, by rw [zip_len, r.length, r'.length]; omega⟩⟩
  obtain ⟨dx, dy, ex, ey, rfl⟩ := zip_get e
  obtain ⟨x, ex', rx⟩ := r.get i ex
  obtain ⟨y, ey', ry⟩ := r'.get i ey
  refine ⟨⟨us, ws, x, y, l1, l2, ex', ey'⟩, ?_⟩
  rintro v H3 ⟨T, x2, y2, rfl, n, rfl, k1, k2⟩
  have q1 := k1 us l1
  have q2 := k2 ws l2
  rw [ex'] at q1
  rw [ey'] at q2
  cases q1
  cases q2
  exact pair_new s2 so n (rx.mono s1) (ry.mono s1)
theorem two_seq {d d' : PyData} {Q : List PyData → List PyData → Prop} (h : two d d' Q) : ∃ xs ys, (d = .list xs ∨ d = .tuple xs) ∧ (d' = .list ys ∨ d' = .tuple ys) ∧ Q xs ys := by
  cases d <;> cases d' <;> first
    | exact h.elim
    | exact ⟨_, _, .inl rfl, .inl rfl, h⟩
    | exact ⟨_, _, .inr rfl, .inr rfl, h⟩
    | exact ⟨_, _, .inl rfl, .inr rfl, h⟩
    | exact ⟨_, _, .inr rfl, .inl rfl, h⟩
theorem si_zip {a b : Expr} {y z : Ex} {elts : List Expr} {kk : Nat} {tpos : Pos} (hg : Gl X "zip") (hm : X.mg "zip" = none) (ha : PE X a (tE X C E y)) (hb : PE X b (tE X C E z)) (ns : ∀ v p, a ≠ .Starred v p) (ns2 : ∀ v p, b ≠ .Starred v p) :
    PI X (.Tuple elts kk tpos) (.Call (.Name "zip" p) [a, b] [] pos) (tI X C E (.zip y z)) :=
  PI.imp (pi_mzip hg hm (sa_cons ha (sa_cons hb sa_nil ns2) ns) (star_of ns) (by rw [star_of ns2]; rfl)) fun σ H Rh ⟨S, G, env, Ep, Q, st, rz, h, k⟩ => by
    refine ⟨S, G, env, Ep, fun ds => match ds with
      | [d, d'] => two d d' fun xs ys => Q false (zipD xs ys)
      | _ => False, st.less (fun i hi => by simpa [It.vs, Exs.vs] using hi), rz, by simp only [Exs.rd]; simpa only [It.rd] using h, fun ws G' H' ds x r0 q => ?_⟩
    match ds, r0, q with
    | [d, d'], r0, q =>
      obtain ⟨xs, ys, hd, hd', q⟩ := two_seq (d := d) (d' := d') q
      obtain ⟨v, w, rfl, r, r'⟩ := r0.two'
      obtain ⟨ta, a1, us, rfl, h1, q1⟩ := sqB_of r hd
      obtain ⟨tb, a2, ws, rfl, h2, q2⟩ := sqB_of r' hd'
      exact ⟨ta, tb, a1, a2, us, ws, rfl, sqB_up x.gh h1, sqB_up x.gh h2, k _ _ _ _ _ x (walks_only (walks_zm h1 q1 h2 q2 (fun s h => sqB_up s h))) q⟩
theorem si_zips {a b : Expr} {y z : Ex} {elts : List Expr} {kk cj : Nat} {tpos kpos cpos : Pos} (hg : Gl X "zip") (hm : X.mg "zip" = none) (ha : PE X a (tE X C E y)) (hb : PE X b (tE X C E z)) (ns : ∀ v p, a ≠ .Starred v p) (ns2 : ∀ v p, b ≠ .Starred v p) :
    PI X (.Tuple elts kk tpos) (.Call (.Name "zip" p) [a, b] [⟨some "strict", .Constant (.bool true) cj cpos, kpos⟩] pos) (tI X C E (.zips y z)) :=
  PI.imp (pi_szip hg hm (sa_cons ha (sa_cons hb sa_nil ns2) ns) (star_of ns) (by rw [star_of ns2]; rfl)) fun σ H Rh ⟨S, G, env, Ep, Q, st, rz, h, k⟩ => by
    refine ⟨S, G, env, Ep, fun ds => match ds with
      | [d, d'] => isSeq d fun xs => isSeq d' fun ys => xs.length = ys.length ∧ Q false (zipD xs ys)
      | _ => False, st.less (fun i hi => by simpa [It.vs, Exs.vs] using hi), rz, by simp only [Exs.rd]; simpa only [It.rd] using h, fun ws G' H' ds x r0 q => ?_⟩
    match ds, r0, q with
    | [d, d'], r0, q =>
      obtain ⟨xs, hd, q⟩ := isSeq_iff (d := d) q
      obtain ⟨ys, hd', el, q⟩ := isSeq_iff (d := d') q
      obtain ⟨v, w, rfl, r, r'⟩ := r0.two'
      obtain ⟨ta, a1, us, rfl, h1, q1⟩ := sqB_of r hd
      obtain ⟨tb, a2, ws, rfl, h2, q2⟩ := sqB_of r' hd'
      exact ⟨ta, tb, a1, a2, us, ws, rfl, sqB_up x.gh h1, sqB_up x.gh h2, k _ _ _ _ _ x (walks_only (walks_zs h1 q1 h2 q2 el (fun s h => sqB_up s h))) q⟩
theorem si_enum {a : Expr} {y : Ex} {elts : List Expr} {kk : Nat} {tpos : Pos} (hg : Gl X "enumerate") (hm : X.mg "enumerate" = none) (ha : PE X a (tE X C E y)) (ns : ∀ v p, a ≠ .Starred v p) :
    PI X (.Tuple elts kk tpos) (.Call (.Name "enumerate" p) [a] [] pos) (tI X C E (.enum y)) :=
  PI.imp (pi_enumT hg hm (sa_cons ha sa_nil ns) (star_of ns)) fun σ H Rh ⟨S, G, env, Ep, Q, st, rz, h, k⟩ => by
    refine ⟨S, G, env, Ep, fun ds => match ds with
      | [d] => isSeq d fun xs => Q false (enumD xs)
      | _ => False, st.less (fun i hi => by simpa [It.vs, Exs.vs] using hi), rz, by simp only [Exs.rd]; simpa only [It.rd] using h, fun ws G' H' ds x r0 q => ?_⟩
    match ds, r0, q with
    | [d], r0, q =>
      obtain ⟨xs, hd, q⟩ := isSeq_iff (d := d) q
      obtain ⟨v, rfl, r⟩ := r0.one'
      rcases hd with rfl | rfl
      · obtain ⟨a1, us, rfl, h1, q1⟩ := r.lst'
        refine ⟨a1, us, rfl, .inl ⟨SqL.of (x.gh _ _ h1), k _ _ _ _ _ x (walks_only ?_) q⟩⟩
        intro G2 H2 s1 s2 so
        have l1 : SqL X.K H2 a1 us := SqL.of (s2 _ _ (s1 _ _ h1))
        refine ⟨fun i d e => ?_, ⟨us, l1, by simp [enumD, q1.length]⟩⟩
        simp only [enumD, List.getElem?_map, List.getElem?_zipIdx, Option.map_eq_some_iff, Option.map_map] at e
        obtain ⟨dx, ex, rfl⟩ := e
        obtain ⟨x1, ex', rx⟩ := q1.get i ex
        refine ⟨⟨us, x1, l1, ex'⟩, ?_⟩
        rintro v H3 ⟨T, x2, rfl, n, rfl, k1⟩
        have q2 := k1 us l1
        rw [ex'] at q2
        cases q2
        have z := pair_new s2 so n (.int (i : Nat)) (rx.mono s1)
        simpa [It.wk] using z
      · obtain ⟨a1, us, rfl, h1, q1⟩ := r.tup'
        refine ⟨a1, us, rfl, .inr ⟨x.gh.t h1, k _ _ _ _ _ x (walks_only ?_) q⟩⟩
        intro G2 H2 s1 s2 so
        have l1 : SqT X.K H2 a1 us := s2.t (s1.t h1)
        refine ⟨fun i d e => ?_, ⟨us, l1, by simp [enumD, q1.length]⟩⟩
        simp only [enumD, List.getElem?_map, List.getElem?_zipIdx, Option.map_eq_some_iff, Option.map_map] at e
        obtain ⟨dx, ex, rfl⟩ := e
        obtain ⟨x1, ex', rx⟩ := q1.get i ex
        refine ⟨⟨us, x1, l1, ex'⟩, ?_⟩
        rintro v H3 ⟨T, x2, rfl, n, rfl, k1⟩
        have q2 := k1 us l1
        rw [ex'] at q2
        cases q2
        have z := pair_new s2 so n (.int (i : Nat)) (rx.mono s1)
        simpa [It.wk] using z
end
end DL
set_option Elab.async false
set_option linter.all false
set_option maxRecDepth 100000
set_option maxHeartbeats 2000000
/-! De: methods of lists, tuples, dicts, by what their receiver is. -/
namespace DL
open PySem PySem.Spec PyProof.Rows L2
section
variable {X : Cx}
/-- x is of the built-in type T, without a dict of its own -/
def TyAt (X : Cx) (T : String) (x : V) (H : Hp) : Prop := ∀ (pins : List (Addr × Obj)) (σ : L2.St) (s : Shared) (u : Value), Inv X pins σ H s → RelV x u → s.TypeIs u T ∧ ∀ a, u = .ref a → ∃ ob, s.heap.get? a = some ob ∧ ob.dict = none
theorem tyAt_list {H : Hp} {a : Addr} {xs : List V} (h : SqL X.K H a xs) : TyAt X "list" (.ref a) H := fun pins σ s u I r => tyV_is I r (.inl ⟨rfl, xs, h⟩)
theorem tyAt_tup {H : Hp} {a : Addr} {o : Obj} {xs : List V} (h : H a = some (.frz o (.tup xs))) (hd : o.dict = none) : TyAt X "tuple" (.ref a) H := fun pins σ s u I r => by
  cases r
  obtain ⟨g, _, us, _, o', ho, hc, _⟩ := I.hok a _ h
  rw [g] at ho
  cases ho
  exact ⟨⟨o, g, hc⟩, fun b e => by cases e; exact ⟨o, g, hd⟩⟩
theorem tyAt_dict {H : Hp} {a : Addr} (h : IsD H a) : TyAt X "dict" (.ref a) H := fun pins σ s u I r => by
  cases r
  exact ⟨(isD_at I h).1, (isD_at I h).2.1⟩
/-- the type T has the method under this name -/
def MAlt (X : Cx) (name : Str) (T id : String) (r : V → List V → Hp → VK → Prop) : Prop := PlainAttrs T ∧ Slot T name id ∧ typeOf (.builtin id) = pure (.type "method_descriptor") ∧ MtR X id r
def tMG (X : Cx) (name : Str) (to : TE) (t : TA) : TE := fun σ H Q => to σ H fun x H1 => ∃ T id r, MAlt X name T id r ∧ TyAt X T x H1 ∧ t σ H1 fun xs H2 => r x xs H2 Q
theorem all_of_any {l : List (Bool × Sem Value)} (h : l.any (·.1) = false) : l.all (fun x => !x.1) = true := by
  rw [List.all_eq_true]
  intro x hx
  have := List.any_eq_false.mp h x hx
  simpa using this
theorem pe_mthG {o e : Expr} {es : List Expr} {to : TE} {t : TA} {name : Str} {apos cpos : Pos} (ho : PE X o to) (ha : PA X (e :: es) t) (hbase : attributeBase o name X.env (eval o X.env) = eval o X.env)
    (hline : (apos.endLine == cpos.line) = true) (hlen : (e :: es).length < 20) (hs : starEach (e :: es) X.env = (false, eval e X.env) :: starEach es X.env) (hany : (backTo cpos (starEach (e :: es) X.env)).any (·.1) = false) (hplain : (backTo cpos (starEach es X.env)).any (·.1) = false) :
    PE X (.Call (.Attribute o name apos) (e :: es) [] cpos) (tMG X name to t) := by
  constructor
  intro pins s σ H Q I h
  have few : ((backTo cpos (starEach (e :: es) X.env)).all (fun x => !x.1) && (backToKw cpos (keywordEach [] X.env)).all (fun x => x.1.isSome)
      && decide ((e :: es).length + ([] : List Keyword).length + (if ([] : List Keyword).isEmpty then 0 else 1) < 30)) = true := by
    rw [all_of_any hany]
    have z : (backToKw cpos (keywordEach [] X.env)).all (fun x => x.1.isSome) = true := by rfl
    rw [z, Bool.true_and, Bool.true_and]
    simp only [List.length_nil, List.isEmpty_nil, if_true, decide_eq_true_eq]
    omega
  refine wpAny_Call_method_late hbase few hline rfl (thn (ho.run pins s σ H _ I h) ?_)
  rintro v s1 ⟨x, H1, I1, r1, T, id, r, ⟨pa, slot, hty, hm⟩, ty, q1⟩
  obtain ⟨h1, h2⟩ := ty pins σ s1 v I1 r1
  refine ⟨T, id, pa, slot, hty, h1, h2, ?_⟩
  have hA := ha.run cpos pins s1 σ H1 _ I1 q1
  rw [hs] at hA ⊢
  refine Calls.callWith_builtin ?_ (Calls.evalArgs_plain (thn hA ?_))
  · show (false || (backTo cpos (starEach es X.env)).any (·.1)) = false
    rw [hplain]
    rfl
  · rintro us s2 ⟨vs, H2, I2, r2, q2⟩
    exact hm pins s2 σ H2 x vs v us Q I2 r1 r2 q2

/-! ### t.index(x) of data -/
def rIdxT (K : PySem.W.Frag) : V → List V → Hp → VK → Prop := fun x xs H Q => ∃ (a : Addr) (y : V) (d : PyData) (ds : List PyData) (ys : List V) (j : Nat) (z : PyData), x = V.ref a ∧ xs = [y] ∧ SqT K H a ys ∧ DpAll K H ys ds ∧ Dp K H y d ∧
  SeqAt.shaped (.list ds) = true ∧ SeqAt.shaped d = true ∧ ds[j]? = some z ∧ PyData.eqv z d = true ∧ (∀ (m : Nat) (z' : PyData), m < j → ds[m]? = some z' → PyData.eqv z' d = false) ∧ Q (.int (j : Nat)) H
theorem mt_tupIdx (hu : X.A.units + 65 < cLine) : MtR X "tuple.index" (rIdxT X.K) := by
  rintro pins s σ H x xs v us Q I rx rxs ⟨a, y, d, ds, ys, j, z, rfl, rfl, hs, ha, hy, sl, sd, hz, hzj, hno, q⟩
  cases rx
  obtain ⟨uy, rfl, ry⟩ := vals1 rxs
  obtain ⟨as, r1⟩ := Dp.reads I d y uy hy ry
  have lay : PyData.canLayAll0 ds = true := SeqAt.canLay_of_shaped sl
  obtain ⟨its, rv, ⟨⟨cls, dd, data, sls⟩, ho, hc, n, hdt⟩, _⟩ := I.tuple hs
  simp only at hc hdt
  subst hc hdt
  obtain ⟨bs, h4⟩ := Dp.readsAll I ds _ its ha rv
  have hn : its.length = ds.length := SeqAt.ReadsAll.length ds its bs h4
  have hmap : its.map (SeqAt.readOf s.heap) = ds := SeqAt.readsAll_map ds its bs lay h4
  obtain ⟨hjd, _⟩ := List.getElem?_eq_some_iff.mp hz
  have hj : j < its.toArray.size := by
    simp only [List.size_toArray]
    omega
  have at_ : ∀ (m : Nat) (hm : m < its.toArray.size) (z' : PyData), ds[m]? = some z' → SeqAt.readOf s.heap its.toArray[m] = z' := by
    intro m hm z' hz'
    have hml : m < its.length := by simpa using hm
    rw [← hmap, List.getElem?_map, List.getElem?_eq_getElem hml] at hz'
    simpa using hz'
  refine call_meets PySem.F.slot_tuple_index ⟨_, ho, rfl⟩ PySem.F.entry_tuple_index (PySem.F.args_tuple_index_2 _ _)
    (_root_.TI.tuple_indexAt a its.toArray n dd sls uy (fun u => PyData.eqv (SeqAt.readOf s.heap u) d) j hj ?_ ?_) ⟨ho, ?_, ?_⟩
  · show PyData.eqv (SeqAt.readOf s.heap its.toArray[j]) d = true
    rw [at_ j hj z hz]
    exact hzj
  · intro m hm hmj
    have hmd : m < ds.length := by omega
    have e : ds[m]? = some ds[m] := List.getElem?_eq_getElem hmd
    show PyData.eqv (SeqAt.readOf s.heap its.toArray[m]) d = false
    rw [at_ m hm _ e]
    exact hno m _ hmj e
  · exact SeqAt.items_eqAt (vs := its.toArray) (show ReadsAll s.heap its.toArray.toList ds bs from h4) r1 lay (SeqAt.canLay_of_shaped sd) (room_in_shaped sd hu)
  · exact ⟨.int (j : Nat), H, I.tok _, ⟨_, rfl⟩, q⟩
theorem idx_some {ds : List PyData} {x : PyData} {n : Nat} (h : idxD ds x = some n) : ∃ z, ds[n]? = some z ∧ PyData.eqv z x = true ∧ ∀ (m : Nat) (z' : PyData), m < n → ds[m]? = some z' → PyData.eqv z' x = false := by
  unfold idxD at h
  obtain ⟨hl, h1, h2⟩ := List.findIdx?_eq_some_iff_getElem.mp h
  refine ⟨ds[n], List.getElem?_eq_getElem hl, h1, fun m z' hm e => ?_⟩
  obtain ⟨hm', e'⟩ := List.getElem?_eq_some_iff.mp e
  have := h2 m hm
  rw [e'] at this
  simpa using this
def rGetD : V → List V → Hp → VK → Prop := fun x xs H Q => ∃ (a : Addr) (y : V) (o : Option V), x = V.ref a ∧ DGet H a y o ∧ ((xs = [y] ∧ Q (o.getD .non) H) ∨ ∃ d, xs = [y, d] ∧ Q (o.getD d) H)
theorem mt_getD (hu : X.A.units + 65 < cLine) : MtR X "dict.get" rGetD := by
  rintro pins s σ H x xs v us Q I rx rxs ⟨a, y, o, rfl, g, h⟩
  cases rx
  rcases h with ⟨rfl, q⟩ | ⟨d, rfl, q⟩
  · obtain ⟨u, rfl, ry⟩ := vals1 rxs
    exact d_get1 (by omega) I g ry fun w' s' I' rw' => ⟨_, H, I', rw', q⟩
  · cases rxs with
    | cons ry rt =>
      obtain ⟨u, rfl, rd⟩ := vals1 rt
      exact d_get2 (by omega) I g ry rd fun w' s' I' rw' => ⟨_, H, I', rw', q⟩
/-- the methods' names -/
def mtName : Mt → Str
  | .bits => "bit_length" | .index => "index" | .get => "get" | .items => "items" | .keys => "keys" | .values => "values" | .count => "count"
end
section
variable {X : Cx} {C : Nat → Fs} {E : XK} {S : Sx} {G H G' H' : Hp} {σ : L2.St} {env : Env} {vs : List Nat} {Ep : Str → Prop} {Q : Bool → PyData → Prop} {Qh : VK}
/-- the rule of a method by its receiver, read -/
theorem alt_of (hu : X.A.units + 65 < cLine) {m : Mt} {x : PyData} {v : V} (s : Sub G H) (r : R X.K G v x) (h : mtT m x = true) (hm : m ≠ .bits) :
    ∃ T id rr, MAlt X (mtName m) T id rr ∧ TyAt X T v H ∧ ∀ {S : Sx} {G1 H1 : Hp} {σ : L2.St} {env : Env} {vs : List Nat} {Ep : Str → Prop} {Q : Bool → PyData → Prop} {Qh : VK} {ws : List V} {ds : List PyData}, Pt X E S G1 H1 σ env vs Ep Q Qh → R X.K G1 v x → RAll X.K G1 ws ds → MtP m x ds Q → rr v ws H1 Qh := by
  cases m with
  | bits => exact absurd rfl hm
  | index =>
    cases x with
    | list xs =>
      obtain ⟨a, us, rfl, h1, q1⟩ := r.lst'
      refine ⟨"list", "list.index", _, ⟨PySem.F.plainAttrs_list, PySem.F.slot_list_index, PySem.F.type_list_index, mt_indexD hu⟩, tyAt_list (SqL.of (s _ _ h1)), fun {S G1 H1 σ env vs Ep Q Qh ws ds} p r1 rw q => ?_⟩
      match ds, rw, q with
      | [y], rw, q =>
        obtain ⟨o1, o2, n, hn, q⟩ := q
        obtain ⟨w, rfl, rz⟩ := rw.one'
        obtain ⟨z, e1, e2, e3⟩ := idx_some hn
        exact ⟨a, w, y, xs, n, z, rfl, rfl, r1.dp' p.sub o2, rz.dp' p.sub o1, o2, o1, e1, e2, e3, p.done (.int _) q⟩
    | tuple xs =>
      obtain ⟨a, o, us, rfl, h1, hd, q1⟩ := r.tupS
      refine ⟨"tuple", "tuple.index", _, ⟨PySem.F.plainAttrs_tuple, PySem.F.slot_tuple_index, PySem.F.type_tuple_index, mt_tupIdx hu⟩, tyAt_tup (s _ _ h1) hd, fun {S G1 H1 σ env vs Ep Q Qh ws ds} p r1 rw q => ?_⟩
      match ds, rw, q with
      | [y], rw, q =>
        obtain ⟨o1, o2, n, hn, q⟩ := q
        obtain ⟨w, rfl, rz⟩ := rw.one'
        obtain ⟨z, e1, e2, e3⟩ := idx_some hn
        obtain ⟨a', us', e, h1', q1'⟩ := r1.tup'
        cases e
        have nd : PyData.hasDictAll xs = false := by
          have := shaped_noDict o2
          simpa [PyData.hasDict] using this
        exact ⟨a, w, y, xs, us', n, z, rfl, rfl, p.sub.t h1', RAll.dp p.sub q1' nd, rz.dp' p.sub o1, o2, o1, e1, e2, e3, p.done (.int _) q⟩
    | _ => cases h
  | get =>
    cases x with
    | dict kvs =>
      have hi : ∃ a, v = .ref a ∧ IsD H a := by
        cases r with
        | dic h1 dp q =>
          obtain ⟨kvs0, rfl, rfl⟩ := dp
          exact ⟨_, rfl, .inl ⟨kvs0, s.rd h1⟩⟩
      obtain ⟨a, rfl, hi⟩ := hi
      refine ⟨"dict", "dict.get", _, ⟨PySem.F.plainAttrs_dict, PySem.F.slot_dict_get, PySem.F.type_dict_get, mt_getD hu⟩, tyAt_dict hi, fun {S G1 H1 σ env vs Ep Q Qh ws ds} p r1 rw q => ?_⟩
      match ds, rw, q with
      | [y], rw, q =>
        obtain ⟨hk, q⟩ := q
        obtain ⟨w, rfl, rz⟩ := rw.one'
        obtain ⟨a', o, e, g, m⟩ := dic_get p.sub r1 rz hk
        cases e
        refine ⟨a, w, o, rfl, g, .inl ⟨rfl, ?_⟩⟩
        cases o with
        | none =>
          rw [show lookD kvs y = none from m] at q
          exact p.done .non q
        | some u =>
          obtain ⟨d, e, ru⟩ := m
          rw [e] at q
          exact p.done ru q
      | [y, d0], rw, q =>
        obtain ⟨hk, q⟩ := q
        obtain ⟨w, w2, rfl, rz, rw2⟩ := rw.two'
        obtain ⟨a', o, e, g, m⟩ := dic_get p.sub r1 rz hk
        cases e
        refine ⟨a, w, o, rfl, g, .inr ⟨w2, rfl, ?_⟩⟩
        cases o with
        | none =>
          rw [show lookD kvs y = none from m] at q
          exact p.done rw2 q
        | some u =>
          obtain ⟨d, e, ru⟩ := m
          rw [e] at q
          exact p.done ru q
    | _ => cases h
  | items => cases x <;> cases h
  | keys => cases x <;> cases h
  | values => cases x <;> cases h
  | count => cases x <;> cases h
theorem sd_mth {m : Mt} {o e : Expr} {es : List Expr} {eo : Ex} {xs : Exs} {apos pos : Pos} (hu : X.A.units + 65 < cLine) (hm : m ≠ .bits) (ho : PE X o (tE X C E eo)) (ha : PA X (e :: es) (tA X C E xs)) (hb : attributeBase o (mtName m) X.env (eval o X.env) = eval o X.env)
    (hl : (apos.endLine == pos.line) = true) (hlen : (e :: es).length < 20) (ns : ∀ v p, e ≠ .Starred v p) (hany : (backTo pos (starEach (e :: es) X.env)).any (·.1) = false) (hpl : (backTo pos (starEach es X.env)).any (·.1) = false) :
    PE X (.Call (.Attribute o (mtName m) apos) (e :: es) [] pos) (tE X C E (.mth m eo xs)) :=
  PE.imp (pe_mthG ho ha hb hl hlen (star_of ns) hany hpl) fun σ H Qh ⟨S, G, env, Ep, Q, p, h⟩ =>
    p.use (fun i hi => by simp [Ex.vs]; exact .inl hi) (by simpa only [Ex.rd] using h) fun v G1 H1 f x p1 x1 r1 h1 => by
      obtain ⟨hT, h1⟩ := h1
      obtain ⟨T, id, rr, al, ty, fin⟩ := alt_of (E := E) hu p1.sub r1 hT hm
      exact ⟨T, id, rr, al, ty, S, G1, env, Ep, _, p1.st.less (fun i hi => by simp [Ex.vs]; exact .inr hi), p1.rz, h1, fun ws G2 H2 ds x2 r2 q2 => fin (p1.go x2) (r1.mono x2.gg) r2 q2⟩
end
end DL
set_option Elab.async false
set_option linter.all false
set_option maxRecDepth 100000
set_option maxHeartbeats 2000000
/-! Dr: x[::-1] of a list or a tuple. -/
namespace DL
open PySem PySem.Spec PyProof.Rows L2
theorem rev_pick (xs : Array Value) : ((List.range xs.size).filterMap fun (k : Nat) => xs[(((xs.size : Int) - 1) + (k : Int) * (-1)).toNat]?).toArray = xs.toList.reverse.toArray := by
  apply congrArg
  obtain ⟨l⟩ := xs
  simp only [List.size_toArray, List.getElem?_toArray]
  have h : ∀ (n : Nat) (k : Nat), k ≤ n → n = l.length → (List.range k).filterMap (fun (j : Nat) => l[(((n : Int) - 1) + (j : Int) * (-1)).toNat]?) = l.reverse.take k := by
    intro n k hk hn
    induction k with
    | zero => simp
    | succ k ih =>
      rw [List.range_succ, List.filterMap_append, ih (by omega)]
      have e : (((n : Int) - 1) + (k : Int) * (-1)).toNat = l.length - 1 - k := by omega
      have lt : k < l.length := by omega
      simp only [List.filterMap_cons, List.filterMap_nil, e]
      rw [List.getElem?_eq_getElem (by omega)]
      rw [List.take_succ, List.getElem?_reverse (by omega), List.getElem?_eq_getElem (by omega)]
      rfl
  rw [h l.length l.length (Nat.le_refl _) rfl]
  rw [List.take_of_length_le (by simp)]
section
variable {prog : Program} {w : World} {A : Around} {E : Value → Shared → Prop} {s : Shared}
theorem rev_parts {sl : Addr} {vl vu vs : Value} {n : Nat} {Q : Int × Int × Nat → Shared → Prop} (hs : s.heap.IsSliceOf sl vl vu vs) (pl : IsPart vl none) (pu : IsPart vu none) (ps : IsPart vs (some (-1)))
    (h : Q ((n : Int) - 1, -1, n) s) : wpAny (model prog w) A (Builtin.Slice.sliceApplied (.ref sl) (pure (n : Int))) Q E s := by
  obtain ⟨os, hos, -, hds⟩ := id hs
  unfold Builtin.Slice.sliceApplied Builtin.Slice.sliceFields
  refine wpAny_bind (wpAny_bind (wpAny_field hos hds (x := vl) rfl (wpAny_bind (wpAny_field hos hds (x := vu) rfl (wpAny_bind (wpAny_field hos hds (x := vs) rfl (wpAny_pure ?_)))))))
  refine wpAny_bind (HT.slicePart_ ps ?_)
  refine (show wpAny _ _ (if ((-1 : Int) == 0) = true then _ else _) _ _ s from ?_)
  rw [if_neg (by decide)]
  refine wpAny_bind (HT.slicePart_ pl (wpAny_bind (HT.slicePart_ pu (wpAny_bind (wpAny_pure ?_)))))
  have e : Builtin.Slice.slicePlaces ((n : Int) - 1) (-1) (-1) = n := by
    unfold Builtin.Slice.slicePlaces
    rw [if_neg (by decide)]
    have q : ((n : Int) - 1 - -1 - 1) / (- -1) = (n : Int) - 1 := by rw [Int.neg_neg, Int.ediv_one]; omega
    split <;> omega
  refine (show wpAny _ _ (pure (((n : Int) - 1), (-1 : Int), Builtin.Slice.slicePlaces ((n : Int) - 1) (-1) (-1))) _ _ s from ?_)
  rw [e]
  exact wpAny_pure h
theorem rev_tuple {t sl : Addr} {items : Array Value} {vl vu vs : Value} {Q : Value → Shared → Prop} (ht : IsTup s.heap t items) (hs : s.heap.IsSliceOf sl vl vu vs) (pl : IsPart vl none) (pu : IsPart vu none) (ps : IsPart vs (some (-1)))
    (h : Q (.ref s.heap.objs.size) { s with heap := s.heap.push { cls := .type "tuple", data := .seq items.toList.reverse.toArray } }) (hsz : items.size ≤ sizeLine) : wpAny (model prog w) A (getItem (.ref t) (.ref sl)) Q E s := by
  have small : sizeOk (.seq items.toList.reverse.toArray) := by
    show items.toList.reverse.toArray.size ≤ sizeLine
    rw [List.size_toArray, List.length_reverse, Array.length_toList]
    exact hsz
  obtain ⟨os, hos, hcs, hds⟩ := id hs
  have ty : s.TypeIs (.ref sl) "slice" := ⟨os, hos, hcs⟩
  unfold getItem
  try with_reducible refine wpAny_holding ?_
  first | refine wpAny_bind (wpAny_pure ?_) | skip
  refine wpAny_bind (wpAny_sequenceKey ht.typeIs (by decide) ?_)
  refine wpAny_bind (wpAny_callSpecial?_slot (name := Str.ofString "__getitem__") ht.typeIs PyProof.Rows.slot_tuple_getitem
    (wpAny_call_entry PyProof.Rows.slot_tuple_getitem ht.typeIs entry_tuple_getitem ?_ (args_tuple_getitem _ _)))
  refine (show wpAny _ _ (Builtin.Tuple.tupleItemsOf (.ref t) >>= _) _ _ s from wpAny_bind (tupleItemsOf_ ht ?_))
  refine wpAny_bind (wpAny_typeOf ty ?_)
  rw [if_pos (by decide)]
  refine wpAny_bind (rev_parts hs pl pu ps ?_)
  have no : ¬ ((((items.size : Int) - 1) == 0 && (-1 : Int) == 1 && items.size == items.size) = true) := by simp
  refine (show wpAny _ _ (if (((items.size : Int) - 1) == 0 && (-1 : Int) == 1 && items.size == items.size) = true then _ else _) _ _ s from ?_)
  rw [if_neg no, rev_pick]
  first
    | exact wpAny_bind (m := Builtin.Tuple.tupleExact _) (wpAny_newObj_type (wpAny_pure ⟨_, rfl, wpAny_pure h⟩) small)
    | exact wpAny_bind (m := Builtin.Tuple.tupleExact _) (wpAny_newObj_type (wpAny_bind (wpAny_pure (wpAny_pure ⟨_, rfl, wpAny_pure h⟩))) small)
    | exact wpAny_bind (wpAny_bind (m := Builtin.Tuple.tupleExact _) (wpAny_newObj_type (wpAny_pure (wpAny_pure ⟨_, rfl, wpAny_pure h⟩)) small))
    | exact wpAny_bind (wpAny_bind (m := Builtin.Tuple.tupleExact _) (wpAny_newObj_type (wpAny_pure ⟨_, rfl, wpAny_pure h⟩) small))
end
def tRevA (K : PySem.W.Frag) (te : TE) : TE := fun σ H Q => te σ H fun x H1 => ∃ a xs, x = .ref a ∧ ((SqL K H1 a xs ∧ ∀ p, H1 p = none → Q (.ref p) (upd H1 p (.lst xs.reverse))) ∨ (SqT K H1 a xs ∧ ∀ p o, H1 p = none → o.dict = none → Q (.ref p) (upd H1 p (.frz o (.tup xs.reverse)))))
theorem pe_revA {X : Cx} {e : Expr} {te : TE} {k : Nat} {p1 p2 p3 pos : Pos} (he : PE X e te) : PE X (.Subscript e (.Slice none none (some (.UnaryOp .USub (.Constant (.int 1) k p1) p2)) p3) pos) (tRevA X.K te) := by
  constructor
  intro pins s σ H Q I h
  refine Subscript_ (thn (he.run pins s σ H _ I h) ?_)
  rintro v s1 ⟨x, H1, I1, r1, a, xs, rfl, q⟩
  cases r1
  have step : PO X (some (.UnaryOp .USub (.Constant (.int 1) k p1) p2)) (tPart (tUn (rU fun i => .int (-i)) (tC (.int 1)))) := po_some (pe_un un_neg pe_int)
  refine wpAny_Slice (thn (po_none.run pins s1 σ H1 (fun o G => o = none ∧ G = H1) I1 ⟨rfl, rfl⟩) ?_)
  rintro vl s2 ⟨l, H2, I2, pl, rfl, rfl⟩
  refine thn (po_none.run pins s2 σ H2 (fun o G => o = none ∧ G = H2) I2 ⟨rfl, rfl⟩) ?_
  rintro vu s3 ⟨u, H3, I3, pu, rfl, rfl⟩
  refine thn (step.run pins s3 σ H3 (fun o G => o = some (-1) ∧ G = H3) I3 ⟨1, rfl, -1, rfl, rfl, rfl⟩) ?_
  rintro vs s4 ⟨o, H4, I4, ps, rfl, rfl⟩
  have I5 : Inv X pins σ H4 { s4 with heap := s4.heap.push { cls := .type "slice", data := .fields #[vl, vu, vs] } } := I4.kept (t' := s4.toks) fun b ob q => Heap.get?_push_of_some _ q
  show wpAny (model X.prog X.w) X.A (subscriptTail e (.Slice none none (some (.UnaryOp .USub (.Constant (.int 1) k p1) p2)) p3) (.ref a) (.ref s4.heap.objs.size)) (EP X pins σ Q) X.xe _
  rcases q with ⟨hx, q⟩ | ⟨hx, q⟩
  · obtain ⟨its, r, ht, hz⟩ := I5.list hx
    have el := r.length
    refine tail_any (ops := [.ref a, .ref s4.heap.objs.size]) ht.isList.typeIs (PySem.slot_list_getitem.lookup) ?_ (by with_unfolding_all rfl)
    refine wpAny_getItem_list_slice ht.isList (Heap.IsSliceOf.new _ vl vu vs) pl pu ps (by decide) ?_ (by rw [List.size_toArray]; omega)
    rw [PySem.W.krv_pick]
    refine ⟨.ref _, _, I5.laid (t' := s4.toks) (o := .lst xs.reverse) (fun b ob q => Heap.get?_push_of_some _ q) (Nat.le_refl _) ⟨by rw [List.length_reverse]; exact hz, _, 0, r.reverse, Heap.get?_push_size _ rfl⟩, rfl, q _ (I5.hok.fresh (Nat.le_refl _))⟩
  · obtain ⟨its, r, ht, hz⟩ := I5.tuple hx
    have el := r.length
    refine tail_any (ops := [.ref a, .ref s4.heap.objs.size]) ht.typeIs (PyProof.Rows.slot_tuple_getitem.lookup) ?_ (by with_unfolding_all rfl)
    refine rev_tuple ht (Heap.IsSliceOf.new _ vl vu vs) pl pu ps ?_ (by rw [List.size_toArray]; omega)
    exact lay_tup I5 r.reverse (by rw [List.length_reverse]; exact hz) q
end DL
set_option Elab.async false
set_option linter.all false
set_option maxRecDepth 100000
set_option maxHeartbeats 2000000
/-! D6: targets, comprehensions. -/
namespace DL
open PySem PySem.Spec PyProof.Rows L2

mutual
def Tg.sl : Tg → List Nat
  | .nm i => [i] | .tp ts => ts.sl
def Tgs.sl : Tgs → List Nat
  | .nil => [] | .cons t r => t.sl ++ r.sl
end
def Tgs.len : Tgs → Nat
  | .nil => 0 | .cons _ r => r.len + 1
mutual
def tgR (K : PySem.W.Frag) : Tg → TG
  | .nm i => gName i | .tp ts => gTup K ts.len (tgsR K ts)
def tgsR (K : PySem.W.Frag) : Tgs → TGs
  | .nil => gNil | .cons t r => gCons (tgR K t) (tgsR K r)
end
mutual
theorem tg_ok {K : PySem.W.Frag} {G H : Hp} (P : L2.St → Env → Prop) (s : Sub G H) : ∀ (t : Tg) (hP : ∀ i ∈ t.sl, ∀ σ env v d, R K G v d → P σ env → P (σ.set i (some v)) (env.set i (.sh d))) {d : PyData} {v : V} {σ : L2.St} {env : Env} {k : Env → Prop} {Q : L2.St → Hp → Prop},
    R K G v d → P σ env → t.bnd d env k → (∀ σ' env', P σ' env' → k env' → Q σ' H) → tgR K t v σ H Q
  | .nm i, hP, d, v, σ, env, k, Q, r, p, h, q => q _ _ (hP i (by simp [Tg.sl]) _ _ _ _ r p) (by simpa only [Tg.bnd] using h)
  | .tp ts, hP, .tuple ds, v, σ, env, k, Q, r, p, h, q => by
    obtain ⟨a, xs, rfl, h1, q1⟩ := r.tup'
    have h' : ts.bnd ds env k := by simpa only [Tg.bnd] using h
    refine ⟨a, xs, rfl, s.t h1, ?_, tgs_ok P s ts (fun i hi => hP i (by simpa [Tg.sl] using hi)) q1 p h' q⟩
    rw [q1.length]
    exact tgs_len h'
  | .tp ts, hP, .none, v, σ, env, k, Q, r, p, h, q => by simp only [Tg.bnd] at h
  | .tp ts, hP, .bool _, v, σ, env, k, Q, r, p, h, q => by simp only [Tg.bnd] at h
  | .tp ts, hP, .int _, v, σ, env, k, Q, r, p, h, q => by simp only [Tg.bnd] at h
  | .tp ts, hP, .str _, v, σ, env, k, Q, r, p, h, q => by simp only [Tg.bnd] at h
  | .tp ts, hP, .list _, v, σ, env, k, Q, r, p, h, q => by simp only [Tg.bnd] at h
  | .tp ts, hP, .dict _, v, σ, env, k, Q, r, p, h, q => by simp only [Tg.bnd] at h
theorem tgs_ok {K : PySem.W.Frag} {G H : Hp} (P : L2.St → Env → Prop) (s : Sub G H) : ∀ (ts : Tgs) (hP : ∀ i ∈ ts.sl, ∀ σ env v d, R K G v d → P σ env → P (σ.set i (some v)) (env.set i (.sh d))) {ds : List PyData} {vs : List V} {σ : L2.St} {env : Env} {k : Env → Prop} {Q : L2.St → Hp → Prop},
    RAll K G vs ds → P σ env → ts.bnd ds env k → (∀ σ' env', P σ' env' → k env' → Q σ' H) → tgsR K ts vs σ H Q
  | .nil, hP, [], vs, σ, env, k, Q, r, p, h, q => by
    cases r
    exact ⟨rfl, q _ _ p (by simpa only [Tgs.bnd] using h)⟩
  | .nil, hP, _ :: _, vs, σ, env, k, Q, r, p, h, q => by simp only [Tgs.bnd] at h
  | .cons t r, hP, [], vs, σ, env, k, Q, ra, p, h, q => by simp only [Tgs.bnd] at h
  | .cons t r, hP, d :: ds, _, σ, env, k, Q, .cons r1 r2, p, h, q => by
    have h' : t.bnd d env fun env' => r.bnd ds env' k := by simpa only [Tgs.bnd] using h
    exact ⟨_, _, rfl, tg_ok P s t (fun i hi => hP i (by simp [Tgs.sl]; exact .inl hi)) r1 p h' fun σ' env' p' h2 => tgs_ok P s r (fun i hi => hP i (by simp [Tgs.sl]; exact .inr hi)) r2 p' h2 q⟩
theorem tgs_len : ∀ {ts : Tgs} {ds : List PyData} {env : Env} {k : Env → Prop}, ts.bnd ds env k → ds.length = ts.len
  | .nil, [], env, k, h => rfl
  | .nil, _ :: _, env, k, h => by simp only [Tgs.bnd] at h
  | .cons t r, [], env, k, h => by simp only [Tgs.bnd] at h
  | .cons t r, d :: ds, env, k, h => by
    have h' : t.bnd d env fun env' => r.bnd ds env' k := by simpa only [Tgs.bnd] using h
    obtain ⟨env', h2⟩ := tg_some h'
    rw [List.length_cons, tgs_len h2, Tgs.len]
theorem tg_some : ∀ {t : Tg} {d : PyData} {env : Env} {k : Env → Prop}, t.bnd d env k → ∃ env', k env'
  | .nm i, d, env, k, h => ⟨_, by simpa only [Tg.bnd] using h⟩
  | .tp ts, .tuple ds, env, k, h => tgs_some (by simpa only [Tg.bnd] using h)
  | .tp ts, .none, env, k, h => by simp only [Tg.bnd] at h
  | .tp ts, .bool _, env, k, h => by simp only [Tg.bnd] at h
  | .tp ts, .int _, env, k, h => by simp only [Tg.bnd] at h
  | .tp ts, .str _, env, k, h => by simp only [Tg.bnd] at h
  | .tp ts, .list _, env, k, h => by simp only [Tg.bnd] at h
  | .tp ts, .dict _, env, k, h => by simp only [Tg.bnd] at h
theorem tgs_some : ∀ {ts : Tgs} {ds : List PyData} {env : Env} {k : Env → Prop}, ts.bnd ds env k → ∃ env', k env'
  | .nil, [], env, k, h => ⟨_, by simpa only [Tgs.bnd] using h⟩
  | .nil, _ :: _, env, k, h => by simp only [Tgs.bnd] at h
  | .cons t r, [], env, k, h => by simp only [Tgs.bnd] at h
  | .cons t r, d :: ds, env, k, h => by
    have h' : t.bnd d env fun env' => r.bnd ds env' k := by simpa only [Tgs.bnd] using h
    obtain ⟨env', h2⟩ := tg_some h'
    exact tgs_some h2
end

/-! ### a comprehension -/
theorem wipe_get {σ : L2.St} : ∀ {vs : List Nat} {i : Nat}, i ∉ vs → (wipe σ vs)[i]? = σ[i]?
  | [], i, h => rfl
  | v :: vs, i, h => by
    simp only [List.mem_cons, not_or] at h
    unfold wipe
    rw [List.getElem?_set_ne (fun e => h.1 e.symm)]
    exact wipe_get h.2
theorem wipeE_get {env : Env} : ∀ {vs : List Nat} {i : Nat}, i ∉ vs → (wipeE env vs)[i]? = env[i]?
  | [], i, h => rfl
  | v :: vs, i, h => by
    simp only [List.mem_cons, not_or] at h
    unfold wipeE
    rw [List.getElem?_set_ne (fun e => h.1 e.symm)]
    exact wipeE_get h.2
theorem wipeE_length {env : Env} : ∀ vs : List Nat, (wipeE env vs).length = env.length
  | [] => rfl
  | v :: vs => by unfold wipeE; rw [List.length_set, wipeE_length vs]
theorem wipeE_un {env : Env} : ∀ {vs : List Nat} {i : Nat} {s : Sl}, i ∈ vs → (wipeE env vs)[i]? = some s → s = .un
  | v :: vs, i, s, h, e => by
    unfold wipeE at e
    by_cases hi : v = i
    · subst hi
      by_cases hl : v < (wipeE env vs).length
      · rw [List.getElem?_set_self hl] at e; cases e; rfl
      · rw [List.getElem?_eq_none (by simpa using hl)] at e; cases e
    · rw [List.getElem?_set_ne hi] at e
      exact wipeE_un ((List.mem_cons.mp h).resolve_left fun z => hi z.symm) e
theorem wipe_set {σ : L2.St} {o : Option V} : ∀ {vs : List Nat} {i : Nat}, i ∈ vs → wipe (σ.set i o) vs = wipe σ vs
  | v :: vs, i, h => by
    unfold wipe
    by_cases hi : i ∈ vs
    · rw [wipe_set hi]
    · have e : i = v := (List.mem_cons.mp h).resolve_right hi
      subst e
      refine List.ext_getElem? fun j => ?_
      by_cases hj : i = j
      · subst hj
        by_cases hl : i < σ.length
        · rw [List.getElem?_set_self (by rw [wipe_length, List.length_set]; exact hl), List.getElem?_set_self (by rw [wipe_length]; exact hl)]
        · rw [List.getElem?_eq_none (by rw [List.length_set, wipe_length, List.length_set]; omega), List.getElem?_eq_none (by rw [List.length_set, wipe_length]; omega)]
      · rw [List.getElem?_set_ne hj, List.getElem?_set_ne hj]
        exact wipe_set_ne hj vs
where
  wipe_set_ne {σ : L2.St} {o : Option V} {i j : Nat} (hj : i ≠ j) : ∀ vs : List Nat, (wipe (σ.set i o) vs)[j]? = (wipe σ vs)[j]?
    | [] => by unfold wipe; rw [List.getElem?_set_ne hj]
    | w :: ws => by
      unfold wipe
      by_cases hw : w = j
      · subst hw
        by_cases hl : w < σ.length
        · rw [List.getElem?_set_self (by rw [wipe_length, List.length_set]; exact hl), List.getElem?_set_self (by rw [wipe_length]; exact hl)]
        · rw [List.getElem?_eq_none (by rw [List.length_set, wipe_length, List.length_set]; omega), List.getElem?_eq_none (by rw [List.length_set, wipe_length]; omega)]
      · rw [List.getElem?_set_ne hw, List.getElem?_set_ne hw]
        exact wipe_set_ne hj ws
theorem wipe_wipe {σ : L2.St} : ∀ {vs ws : List Nat}, (∀ i ∈ ws, i ∈ vs) → wipe (wipe σ ws) vs = wipe σ vs
  | vs, [], _ => rfl
  | vs, w :: ws, h => by
    show wipe ((wipe σ ws).set w none) vs = _
    rw [wipe_set (h w List.mem_cons_self)]
    exact wipe_wipe fun i hi => h i (List.mem_cons_of_mem _ hi)

theorem sd_rev {X : Cx} {C : Nat → Fs} {E : XK} {e : Expr} {y : Ex} {k : Nat} {p1 p2 p3 pos : Pos} (he : PE X e (tE X C E y)) : PE X (.Subscript e (.Slice none none (some (.UnaryOp .USub (.Constant (.int 1) k p1) p2)) p3) pos) (tE X C E (.rev y)) :=
  PE.imp (pe_revA he) fun σ H Qh ⟨S, G, env, Ep, Q, p, h⟩ =>
    p.use (a := y) (fun i hi => by simpa [Ex.vs] using hi) (by simpa only [Ex.rd] using h) fun v G1 H1 f x p1 x1 r1 h1 => by
      cases x with
      | list xs =>
        obtain ⟨a, us, rfl, h2, q⟩ := r1.lst'
        exact ⟨a, us, rfl, .inl ⟨SqL.of (p1.sub _ _ h2), fun b n => p1.newL n q.reverse h1⟩⟩
      | tuple xs =>
        obtain ⟨a, us, rfl, h2, q⟩ := r1.tup'
        exact ⟨a, us, rfl, .inr ⟨p1.sub.t h2, fun b o n hd => p1.newT n hd q.reverse h1⟩⟩
      | none => exact False.elim h1
      | bool b => exact False.elim h1
      | int i => exact False.elim h1
      | str x => exact False.elim h1
      | dict x => exact False.elim h1
def Tg.isTp : Tg → Bool
  | .tp _ => true | .nm _ => false
/-- an item that may be a tuple that only its target sees -/
theorem tg_okW {K : PySem.W.Frag} {G H : Hp} (P : L2.St → Env → Prop) (s : Sub G H) (t : Tg) (hP : ∀ i ∈ t.sl, ∀ σ env v d, R K G v d → P σ env → P (σ.set i (some v)) (env.set i (.sh d))) {wk : Bool} (hw : wk = true → t.isTp = true) {d : PyData} {v : V} {σ : L2.St} {env : Env} {k : Env → Prop} {Q : L2.St → Hp → Prop}
    (r : RW wk K G v d) (p : P σ env) (h : t.bnd d env k) (q : ∀ σ' env', P σ' env' → k env' → Q σ' H) : tgR K t v σ H Q := by
  rcases r with r | ⟨e, a, xs, ds, rfl, rfl, h1, q1⟩
  · exact tg_ok P s t hP r p h q
  · cases t with
    | nm i => cases hw e
    | tp ts =>
      have h' : ts.bnd ds env k := by simpa only [Tg.bnd] using h
      refine ⟨a, xs, rfl, s.t h1, ?_, tgs_ok P s ts (fun i hi => hP i (by simpa [Tg.sl] using hi)) q1 p h' q⟩
      rw [q1.length]
      exact tgs_len h'
section
variable {X : Cx} {C : Nat → Fs} {E : XK} {S : Sx} {G H G' H' : Hp} {σ : L2.St} {env : Env} {vs : List Nat} {Ep : Str → Prop} {Q : Bool → PyData → Prop} {Qh : VK}

theorem StE.wipe (st : StE X.K S G H σ env vs) (own : List Nat) : StE X.K S G H (wipe σ own) (wipeE env own) vs := by
  refine ⟨st.sub, st.src, fun i hi s e => ?_, by rw [wipe_length, wipeE_length]; exact st.len⟩
  by_cases h : i ∈ own
  · rw [wipeE_un h e]; trivial
  · rw [wipe_get h]
    exact st.at_ i hi s (by rw [← wipeE_get h]; exact e)
theorem StE.set (st : StE X.K S G H σ env vs) {i : Nat} {v : V} {d : PyData} (r : R X.K G v d) : StE X.K S G H (σ.set i (some v)) (env.set i (.sh d)) vs := by
  refine ⟨st.sub, st.src, fun j hj s e => ?_, by rw [List.length_set, List.length_set]; exact st.len⟩
  by_cases h : i = j
  · subst h
    by_cases hl : i < env.length
    · rw [List.getElem?_set_self hl] at e
      cases e
      exact ⟨v, by rw [List.getElem?_set_self (by rw [st.len]; exact hl)], r⟩
    · rw [List.getElem?_eq_none (by simpa using hl)] at e; cases e
  · rw [List.getElem?_set_ne h] at e ⊢
    exact st.at_ j hj s e
theorem nsrc_fresh (so : SrcOk S G H) {a : Addr} (h : H a = none) : nsrc S a := fun sa ca e => by
  obtain ⟨_, _, _, ns, l, m, t, h1, h2, _⟩ := so sa ca e
  exact ⟨(by rintro rfl; rw [h1] at h; cases h), (by rintro rfl; rw [h2] at h; cases h)⟩
/-- the same with a change of what is not of it -/
theorem Ext.but (x : Ext S G H G' H') (so : SrcOk S G H) {a : Addr} {o : HO} (n : H a = none) (g : G' a = none) : Ext S G H G' (upd H' a o) :=
  ⟨x.gg, x.gh.upr g, fun b u e ns => by rw [upd_ne (ne_of_none e n)]; exact x.kp b u e ns, x.nw, fun sa ca e => by
    obtain ⟨g1, g2, ne, ns, l, m, t, h1, h2, r⟩ := x.src sa ca e
    obtain ⟨_, _, _, ns0, l0, m0, t0, k1, k2, _⟩ := so sa ca e
    exact ⟨g1, g2, ne, ns, l, m, t, by rw [upd_ne (ne_of_none k1 n)]; exact h1, by rw [upd_ne (ne_of_none k2 n)]; exact h2, r⟩⟩

/-- a clause's tests -/
def tTs (X : Cx) (C : Nat → Fs) (E : XK) : Exs → TT
  | .nil => tYes
  | .cons e _ => tT X C E e
abbrev stpC (C : Nat → Fs) (t : Tg) (own : List Nat) (cs : Exs) (e : Ex) (env : Env) : PyData → List PyData → (List PyData → Prop) → Prop := fun x acc k => t.bnd x (wipeE env own) fun env' => cs.rdt C (fun _ => False) env' fun b =>
  if b = true then e.rd C (fun _ => False) env' fun _ d => k (acc ++ [d]) else k acc
theorem foldC_cons {step : PyData → List PyData → (List PyData → Prop) → Prop} {x : PyData} {xs acc : List PyData} {Q : List PyData → Prop} (h : foldC step (x :: xs) acc Q) : step x acc fun acc' => foldC step xs acc' Q := h
theorem sd_comp {tg elt iter : Expr} {ifs : List Expr} {scope : Scope} {own : List (Str × Nat)} {pos : Pos} {t : Tg} {it : It} {cs : Exs} {e : Ex} (hc : X.calm = true) (hN : X.N.Nodup) (ok : BlkOk X.N X.env.scope scope own) (hsl : ∀ i ∈ t.sl, i ∈ own.map (·.2)) (hwk : it.wk = true → t.isTp = true) (hcs : cs = .nil ∨ ∃ c, cs = .cons c .nil)
    (hi : PI X tg iter (tI X C E it))
    (hg : ∀ (s : Shared) (H : Hp) (C' : Addr) (cl : List (Str × Addr)) (fp : List Addr), PG (X.blk s H scope (compEnvC scope cl C' X.env) fp) tg (tgR X.K t))
    (ht : ∀ (s : Shared) (H : Hp) (C' : Addr) (cl : List (Str × Addr)) (fp : List Addr), PTs (X.blk s H scope (compEnvC scope cl C' X.env) fp) ifs (tTs X C E0 cs))
    (he : ∀ (s : Shared) (H : Hp) (C' : Addr) (cl : List (Str × Addr)) (fp : List Addr), PE (X.blk s H scope (compEnvC scope cl C' X.env) fp) elt (tE X C E0 e))
    (hs : ∀ x, foldedSetIterable iter X.env x = pure x) :
    (∀ {σ H Q}, tE X C E (.comp e t it cs (own.map (·.2))) σ H Q → tLc (tI X C E it) (tgR X.K t) (tTs X C E0 cs) (tE X C E0 e) (own.map (·.2)) σ H Q) := by
  intro σ H Qh ⟨S, G, env, Ep, Q, p, h⟩
  refine ⟨S, G, env, Ep, _, p.st.less (fun i hi => by simp [Ex.vs]; exact .inl hi), p.rz, by simpa only [Ex.rd] using h, fun J lf xs G1 H1 x1 wk hq D hD => ?_⟩
  obtain ⟨hlen, hf⟩ := hq
  have p1 := p.go x1
  have gD : G1 D = none := by
    cases z : G1 D with
    | none => rfl
    | some u => rw [x1.gh _ _ z] at hD; cases hD
  have nD : nsrc S D := nsrc_fresh x1.src hD
  refine ⟨fun i m Hi => m + i = xs.length ∧ ∃ G2 ws acc, Ext S G1 H1 G2 Hi ∧ Hi D = some (.lst ws) ∧ G2 D = none ∧ RAll X.K G2 ws acc ∧ acc.length ≤ i ∧ foldC (stpC C t (own.map (·.2)) cs e env) (xs.drop i) acc fun L => Q true (.list L), ⟨xs.length, by simp, G1, [], [], .newO x1.gh x1.src hD, upd_same, gD, .nil, Nat.le_refl _, hf⟩, ?_⟩
  rintro i m Hi ⟨hm, G2, ws, acc, x2, hDi, gD2, ra, hacc, hfold⟩
  have p2 := p1.go x2
  obtain ⟨wgo, wstop⟩ := wk G1 (.inl rfl) G2 Hi x2.gg x2.gh x2.src
  by_cases hi : i < xs.length
  · have ex : xs[i]? = some xs[i] := List.getElem?_eq_getElem hi
    obtain ⟨go, yld⟩ := wgo i _ ex
    refine .inr ⟨go, fun H5 => ∃ G5 ws5 acc5, Ext S G1 H1 G5 H5 ∧ H5 D = some (.lst ws5) ∧ G5 D = none ∧ RAll X.K G5 ws5 acc5 ∧ acc5.length ≤ i + 1 ∧ foldC (stpC C t (own.map (·.2)) cs e env) (xs.drop (i + 1)) acc5 fun L => Q true (.list L), fun H5 n5 => ⟨m - 1, by omega, by omega, n5⟩, fun v H3 y => ?_⟩
    obtain ⟨G3, x3, rv⟩ := yld v H3 y
    rw [List.drop_eq_getElem_cons hi] at hfold
    have hst := foldC_cons hfold
    have p3 := p2.go x3
    have hD3 : H3 D = some (.lst ws) := x3.kp _ _ hDi nD
    have gD3 : G3 D = none := (x3.nw D (by rw [hDi]; rfl)).trans gD2
    have x13 : Ext S G1 H1 G3 H3 := x2.trans x1.src x3
    refine tg_okW (K := X.K) (G := G3) (H := H3) (fun σ' env' => StE X.K S G3 H3 σ' env' (Ex.comp e t it cs (own.map (·.2))).vs ∧ L2.wipe σ' (own.map (·.2)) = L2.wipe σ (own.map (·.2))) x3.gh t
      (fun j hj σ' env' v' d' r' hp => ⟨hp.1.set r', by rw [wipe_set (hsl j hj)]; exact hp.2⟩) hwk rv ⟨p3.st.wipe _, wipe_wipe fun _ h => h⟩ hst fun σ4 env4 hp4 hst4 => ?_
    obtain ⟨st4, hw4⟩ := hp4
    refine ⟨hw4, ?_⟩
    -- behind the test
    have after : ∀ (b : Bool) (G5 : Hp) (H5 : Hp), Ext S G3 H3 G5 H5 → (if b = true then e.rd C (fun _ => False) env4 fun _ d => (foldC (stpC C t (own.map (·.2)) cs e env) (xs.drop (i + 1)) (acc ++ [d]) fun L => Q true (.list L)) else (foldC (stpC C t (own.map (·.2)) cs e env) (xs.drop (i + 1)) acc fun L => Q true (.list L))) →
        (if b = true then tE X C E0 e σ4 H5 fun y H6 => ∃ acc', H6 D = some (.lst acc') ∧ acc'.length < sizeLine ∧ ∃ G5 ws5 acc5, Ext S G1 H1 G5 (upd H6 D (.lst (acc' ++ [y]))) ∧ (upd H6 D (.lst (acc' ++ [y]))) D = some (.lst ws5) ∧ G5 D = none ∧ RAll X.K G5 ws5 acc5 ∧ acc5.length ≤ i + 1 ∧ foldC (stpC C t (own.map (·.2)) cs e env) (xs.drop (i + 1)) acc5 fun L => Q true (.list L)
          else ∃ G6 ws5 acc5, Ext S G1 H1 G6 H5 ∧ H5 D = some (.lst ws5) ∧ G6 D = none ∧ RAll X.K G6 ws5 acc5 ∧ acc5.length ≤ i + 1 ∧ foldC (stpC C t (own.map (·.2)) cs e env) (xs.drop (i + 1)) acc5 fun L => Q true (.list L)) := fun b G5 H5 x5 hb => by
      have hD5 : H5 D = some (.lst ws) := x5.kp _ _ hD3 nD
      have gD5 : G5 D = none := (x5.nw D (by rw [hD3]; rfl)).trans gD3
      have x15 : Ext S G1 H1 G5 H5 := x13.trans x1.src x5
      cases b with
      | false =>
        rw [if_neg Bool.false_ne_true] at hb ⊢
        exact ⟨G5, ws, acc, x15, hD5, gD5, ra.mono (x3.gg.trans x5.gg), by omega, hb⟩
      | true =>
        rw [if_pos rfl] at hb ⊢
        refine ⟨S, G5, env4, fun _ => False, _, ⟨(st4.ext x5).less fun j hj => by simp [Ex.vs]; exact .inr (.inr hj), fun _ _ _ _ _ z => z.elim, fun y H6 pp => ?_⟩, hb⟩
        obtain ⟨G6, fr, d, x6, r6, q6⟩ := pp.frz x5.src
        have hD6 : H6 D = some (.lst ws) := x6.kp _ _ hD5 nD
        have gD6 : G6 D = none := (x6.nw D (by rw [hD5]; rfl)).trans gD5
        refine ⟨ws, hD6, by rw [ra.length]; exact lim_lt (by omega), G6, ws ++ [y], acc ++ [d], (x15.trans x1.src x6).but x1.src hD gD6, upd_same, gD6, (ra.mono ((x3.gg.trans x5.gg).trans x6.gg)).append (.one r6), by rw [List.length_append]; simp; omega, q6⟩
    rcases hcs with rfl | ⟨c, rfl⟩
    · simp only [Exs.rdt, if_true] at hst4
      exact after true G3 H3 (.refl x3.gh x3.src) (by rw [if_pos rfl]; exact hst4)
    · simp only [Exs.rdt] at hst4
      refine ⟨S, G3, env4, fun _ => False, _, st4.less (fun j hj => by simp [Ex.vs, Exs.vs]; exact .inr (.inl hj)), fun _ _ _ _ _ z => z.elim, hst4, fun fr d G5 H5 x5 q5 => ?_⟩
      obtain ⟨c', hc', q5⟩ := q5
      refine ⟨c', hc', after c' G5 H5 x5 ?_⟩
      cases c' with
      | true => simpa using q5
      | false => simpa using q5
  · have e0 : i = xs.length := by omega
    subst e0
    rw [List.drop_length] at hfold
    refine .inl ⟨wstop, p1.fin _ _ ⟨G2, true, .list acc, x2, ?_, hfold⟩⟩
    simp only [RF, if_true]
    exact ⟨⟨D, ws, rfl, hDi, gD2, ra⟩, fun a e => by cases e; exact hD⟩
end
end DL
set_option Elab.async false
set_option linter.all false
set_option maxRecDepth 100000
set_option maxHeartbeats 2000000
/-! D7: statements. -/
namespace DL
open PySem PySem.Spec PyProof.Rows L2

def SlotS (K : PySem.W.Frag) (S : Sx) (H0 G H : Hp) (x : Option (Option V)) : Sl → Prop
  | .un => True
  | .sh d => ∃ v, x = some (some v) ∧ R K G v d
  | .ow d => ∃ v, x = some (some v) ∧ Own K G H v d ∧ ∀ a, v = .ref a → H0 a = none
  | .src => ∃ sa ca, S = some (sa, ca) ∧ x = some (some (.ref sa))
/-- the state of a def's body -/
structure StS (K : PySem.W.Frag) (S : Sx) (G0 H0 G H : Hp) (σ : L2.St) (env : Env) : Prop where
  x : Ext S G0 H0 G H
  so : SrcOk S G0 H0
  at_ : ∀ (i : Nat) (s : Sl), env[i]? = some s → SlotS K S H0 G H σ[i]? s
  ap : ∀ (i j : Nat) (d d' : PyData) (v : V), i ≠ j → env[i]? = some (.ow d) → env[j]? = some (.ow d') → σ[i]? = some (some v) → σ[j]? = some (some v) → False
  len : σ.length = env.length

section
variable {K : PySem.W.Frag} {S : Sx} {G0 H0 G H G' H' : Hp} {σ : L2.St} {env : Env}
/-- the address of a list or dict of one's own that vs name -/
def OwnA (σ : L2.St) (env : Env) (vs : List Nat) (b : Addr) : Prop := ∃ i ∈ vs, ∃ d, env[i]? = some (.ow d) ∧ σ[i]? = some (some (.ref b))
theorem StS.own (st : StS K S G0 H0 G H σ env) {vs : List Nat} {b : Addr} (h : OwnA σ env vs b) : H0 b = none ∧ G b = none ∧ nsrc S b ∧ ∃ o, H b = some o ∧ LD o := by
  obtain ⟨i, _, d, e, e2⟩ := h
  obtain ⟨v, e3, o, n⟩ := st.at_ i _ e
  rw [e2] at e3
  cases e3
  refine ⟨n b rfl, ?_, nsrc_fresh st.so (n b rfl), ?_⟩
  · obtain ⟨a, o', ea, _, g, _⟩ := o.at
    cases ea
    exact g
  · cases d with
    | list ds =>
      obtain ⟨a, xs, ea, h1, _⟩ := o
      cases ea
      exact ⟨_, h1, .inl ⟨_, rfl⟩⟩
    | dict kvs =>
      obtain ⟨a, o', ps, ea, h1, h3, _⟩ := o
      cases ea
      exact ⟨_, h1, .inr ⟨_, h3⟩⟩
    | none => cases o
    | bool b => cases o
    | int i => cases o
    | str x => cases o
    | tuple xs => cases o
open Classical in
/-- with what vs name read as well -/
noncomputable def frG (σ : L2.St) (env : Env) (vs : List Nat) (G H : Hp) : Hp := fun b => if OwnA σ env vs b then H b else G b
open Classical in
/-- without it -/
noncomputable def unG (σ : L2.St) (env : Env) (vs : List Nat) (G : Hp) : Hp := fun b => if OwnA σ env vs b then none else G b
theorem StS.frG_ext (st : StS K S G0 H0 G H σ env) (vs : List Nat) : Sub G (frG σ env vs G H) ∧ Ext S G0 H0 (frG σ env vs G H) H := by
  have s1 : Sub G (frG σ env vs G H) := fun b o e => by
    unfold frG
    split
    · exact st.x.gh b o e
    · exact e
  refine ⟨s1, st.x.gg.trans s1, fun b o e => ?_, st.x.kp, fun b e => ?_, fun sa ca e => ?_⟩
  · unfold frG at e
    split at e
    · exact e
    · exact st.x.gh b o e
  · unfold frG
    split
    · rename_i h
      rw [(st.own h).1] at e; cases e
    · exact st.x.nw b e
  · obtain ⟨g1, g2, w⟩ := st.x.src sa ca e
    obtain ⟨_, _, _, ns, l, m, t, k1, k2, _⟩ := st.so sa ca e
    refine ⟨?_, ?_, w⟩
    · unfold frG
      rw [if_neg (fun h => by rw [(st.own h).1] at k1; cases k1)]
      exact g1
    · unfold frG
      rw [if_neg (fun h => by rw [(st.own h).1] at k2; cases k2)]
      exact g2
theorem StS.ste (st : StS K S G0 H0 G H σ env) (vs : List Nat) : StE K S (frG σ env vs G H) H σ env vs := by
  obtain ⟨s1, x1⟩ := st.frG_ext vs
  refine ⟨x1.gh, x1.src, fun i hi s e => ?_, st.len⟩
  have h := st.at_ i s e
  cases s with
  | un => trivial
  | src => exact h
  | sh d => obtain ⟨v, e1, r⟩ := h; exact ⟨v, e1, r.mono s1⟩
  | ow d =>
    obtain ⟨v, e1, o, n⟩ := h
    obtain ⟨a, o', ea, h1, g, k⟩ := o.at
    subst ea
    refine ⟨_, e1, k _ s1 ?_⟩
    unfold frG
    rw [if_pos ⟨i, hi, d, e, e1⟩]
    exact h1
theorem frz_get {vs : List Nat} {i : Nat} {s : Sl} (h : (frz vs env)[i]? = some s) : ∃ s0, env[i]? = some s0 ∧ s = frz1 vs i s0 := by
  unfold frz at h
  rw [List.getElem?_mapIdx] at h
  cases e : env[i]? with
  | none => rw [e] at h; cases h
  | some s0 => rw [e] at h; cases h; exact ⟨s0, rfl, rfl⟩
theorem frz_length {vs : List Nat} : (frz vs env).length = env.length := by simp [frz]
theorem frz1_ow {vs : List Nat} {i : Nat} {s : Sl} {d : PyData} (h : frz1 vs i s = .ow d) : s = .ow d ∧ i ∉ vs := by
  cases s with
  | ow d' =>
    unfold frz1 at h
    simp only at h
    split at h
    · cases h
    · cases h; exact ⟨rfl, by assumption⟩
  | un => cases h
  | sh d' => cases h
  | src => cases h
/-- frozen for good -/
theorem StS.frozen (st : StS K S G0 H0 G H σ env) {vs : List Nat} (y : Ext S (frG σ env vs G H) H G' H') : StS K S G0 H0 G' H' σ (frz vs env) := by
  obtain ⟨s1, x1⟩ := st.frG_ext vs
  refine ⟨x1.trans st.so y, st.so, fun i s e => ?_, fun i j d d' v hij ei ej vi vj => ?_, by rw [frz_length]; exact st.len⟩
  · obtain ⟨s0, e0, rfl⟩ := frz_get e
    have h := st.at_ i s0 e0
    cases s0 with
    | un => trivial
    | src => exact h
    | sh d => obtain ⟨v, e1, r⟩ := h; exact ⟨v, e1, r.mono (s1.trans y.gg)⟩
    | ow d =>
      obtain ⟨v, e1, o, n⟩ := h
      by_cases hi : i ∈ vs
      · have z : frz1 vs i (.ow d) = .sh d := by simp [frz1, hi]
        rw [z]
        obtain ⟨a, o', ea, h1, g, k⟩ := o.at
        subst ea
        refine ⟨_, e1, k _ (s1.trans y.gg) (y.gg _ _ ?_)⟩
        unfold frG
        rw [if_pos ⟨i, hi, d, e0, e1⟩]
        exact h1
      · have z : frz1 vs i (.ow d) = .ow d := by simp [frz1, hi]
        rw [z]
        refine ⟨v, e1, o.move (s1.trans y.gg) (fun a u ea hu => ?_) (fun a ea ga => ?_), n⟩
        · exact y.kp a u hu (nsrc_fresh st.so (n a ea))
        · have hne : ¬ OwnA σ env vs a := fun ⟨j, hj, d', ej, e2⟩ => by
            subst ea
            exact st.ap i j d d' _ (fun z => hi (z ▸ hj)) e0 ej e1 e2
          obtain ⟨a', o', ea', h1, _⟩ := o.at
          rw [ea] at ea'; cases ea'
          rw [y.nw a (by rw [h1]; rfl)]
          unfold frG
          rw [if_neg hne]
          exact ga
  · obtain ⟨s0, e0, z⟩ := frz_get ei
    obtain ⟨s0', e0', z'⟩ := frz_get ej
    obtain ⟨rfl, _⟩ := frz1_ow z.symm
    obtain ⟨rfl, _⟩ := frz1_ow z'.symm
    exact st.ap i j d d' v hij e0 e0' vi vj
/-- given back -/
theorem StS.back (st : StS K S G0 H0 G H σ env) {vs : List Nat} (y : Ext S (frG σ env vs G H) H G' H') : StS K S G0 H0 (unG σ env vs G') H' σ env ∧ Thin (frG σ env vs G H) G' (unG σ env vs G') ∧ Sub G (unG σ env vs G') := by
  obtain ⟨s1, x1⟩ := st.frG_ext vs
  have su : Sub (unG σ env vs G') G' := fun b o e => by
    unfold unG at e
    split at e
    · cases e
    · exact e
  have sg : Sub G (unG σ env vs G') := fun b o e => by
    unfold unG
    rw [if_neg (fun h => by rw [(st.own h).2.1] at e; cases e)]
    exact y.gg _ _ (s1 _ _ e)
  have xx : Ext S G0 H0 G' H' := x1.trans st.so y
  have x2 : Ext S G0 H0 (unG σ env vs G') H' := by
    refine ⟨st.x.gg.trans sg, su.trans y.gh, xx.kp, fun b e => ?_, fun sa ca e => ?_⟩
    · unfold unG
      split
      · rename_i h
        rw [(st.own h).1] at e; cases e
      · exact xx.nw b e
    · obtain ⟨g1, g2, w⟩ := xx.src sa ca e
      refine ⟨?_, ?_, w⟩ <;> (unfold unG; split <;> first | rfl | assumption)
  refine ⟨⟨x2, st.so, fun i s e => ?_, st.ap, st.len⟩, ⟨su, fun b o e => ?_⟩, sg⟩
  · have h := st.at_ i s e
    cases s with
    | un => trivial
    | src => exact h
    | sh d => obtain ⟨v, e1, r⟩ := h; exact ⟨v, e1, r.mono sg⟩
    | ow d =>
      obtain ⟨v, e1, o, n⟩ := h
      refine ⟨v, e1, o.move sg (fun a u ea hu => y.kp a u hu (nsrc_fresh st.so (n a ea))) (fun a ea ga => ?_), n⟩
      unfold unG
      split
      · rfl
      · rename_i hne
        obtain ⟨a', o', ea', h1, _⟩ := o.at
        rw [ea] at ea'; cases ea'
        rw [y.nw a (by rw [h1]; rfl)]
        unfold frG
        rw [if_neg hne]
        exact ga
  · by_cases h : OwnA σ env vs b
    · refine .inr ?_
      obtain ⟨_, _, _, o', ho, ld⟩ := st.own h
      have e2 : frG σ env vs G H b = some o' := by unfold frG; rw [if_pos h]; exact ho
      have e3 := y.gg _ _ e2
      rw [e] at e3; cases e3
      exact ⟨ld, e2⟩
    · refine .inl ?_
      unfold unG
      rw [if_neg h]
      exact e
/-- what a value is behind an expression: new, or read off G -/
def RS (K : PySem.W.Frag) (σ : L2.St) (env : Env) (H0 G H : Hp) (fr : Bool) (v : V) (d : PyData) : Prop :=
  if fr = true then Own K G H v d ∧ (∀ a, v = .ref a → H0 a = none ∧ ∀ i : Nat, ∀ d', env[i]? = some (Sl.ow d') → σ[i]? ≠ some (some v)) else R K G v d
/-- what an expression leaves as it is -/
structure Stp (S : Sx) (σ : L2.St) (env : Env) (G H G' H' : Hp) (fr : Bool) (v : V) : Prop where
  sub : Sub G G'
  kp : ∀ a o, H a = some o → nsrc S a → H' a = some o
  nw : ∀ a, (H a).isSome = true → G a = none → (∀ (i : Nat) (d : PyData), env[i]? = some (Sl.ow d) → σ[i]? ≠ some (some (.ref a))) → G' a = none
  new : fr = true → ∀ a, v = .ref a → H a = none
theorem StS.evald (st : StS K S G0 H0 G H σ env) {vs : List Nat} {fr : Bool} {v : V} {d : PyData} (y : Ext S (frG σ env vs G H) H G' H') (r : RF K G' H H' fr v d) :
    ∃ G2, StS K S G0 H0 G2 H' σ (aft vs fr d env) ∧ RS K σ (aft vs fr d env) H0 G2 H' fr v d ∧ Stp S σ env G H G2 H' fr v := by
  obtain ⟨s1, x1⟩ := st.frG_ext vs
  have hn : fr = true → ∀ a, v = .ref a → H a = none := fun hf => by
    subst hf
    simp only [RF, if_true] at r
    exact r.2
  have g1 : ∀ a, (H a).isSome = true → G a = none → (∀ (i : Nat) (d : PyData), env[i]? = some (Sl.ow d) → σ[i]? ≠ some (some (.ref a))) → G' a = none ∧ ¬ OwnA σ env vs a := fun a hs ga no => by
    have ho : ¬ OwnA σ env vs a := fun ⟨i, _, d, e1, e2⟩ => no i d e1 e2
    refine ⟨?_, ho⟩
    rw [y.nw a hs]
    unfold frG
    rw [if_neg ho]
    exact ga
  have new : fr = true → ∀ a, v = .ref a → H0 a = none ∧ ∀ (e' : Env), (∀ i d', e'[i]? = some (Sl.ow d') → env[i]? = some (Sl.ow d')) → ∀ i : Nat, ∀ d', e'[i]? = some (Sl.ow d') → σ[i]? ≠ some (some v) := fun hf a ea => by
    subst hf
    simp only [RF, if_true] at r
    have n := r.2 a ea
    refine ⟨st.x.fresh st.so n, fun e' he i d' e1 e2 => ?_⟩
    obtain ⟨v', e3, o, _⟩ := st.at_ i _ (he i d' e1)
    rw [e2] at e3; cases e3
    obtain ⟨a', o', ea', h1, _⟩ := o.at
    rw [ea] at ea'; cases ea'
    rw [n] at h1; cases h1
  unfold aft
  by_cases lf : leafy fr d = true
  · rw [if_pos lf]
    obtain ⟨st2, th, sg⟩ := st.back y
    refine ⟨_, st2, ?_, sg, y.kp, fun a hs ga no => by unfold unG; rw [if_neg (g1 a hs ga no).2]; exact (g1 a hs ga no).1, hn⟩
    cases fr with
    | false =>
      simp only [RS, RF, Bool.false_eq_true, if_false] at r ⊢
      exact R.thin th r (by simpa [leafy] using lf)
    | true =>
      have nn := new rfl
      simp only [RS, RF, if_true] at r ⊢
      refine ⟨?_, fun a ea => ⟨(nn a ea).1, (nn a ea).2 env fun _ _ h => h⟩⟩
      cases d with
      | list ds =>
        obtain ⟨⟨a, xs, ea, h1, g, ra⟩, n⟩ := r
        refine ⟨a, xs, ea, h1, ?_, RAll.thin th ra (by simpa [leafy, flat] using lf)⟩
        unfold unG
        split
        · rfl
        · exact g
      | dict kvs => simp [leafy, flat] at lf
      | none => cases r.1
      | bool b => cases r.1
      | int i => cases r.1
      | str x => cases r.1
      | tuple xs => cases r.1
  · rw [if_neg lf]
    refine ⟨_, st.frozen y, ?_, s1.trans y.gg, y.kp, fun a hs ga no => (g1 a hs ga no).1, hn⟩
    cases fr with
    | false => simpa only [RS, RF, Bool.false_eq_true, if_false] using r
    | true =>
      have nn := new rfl
      simp only [RS, RF, if_true] at r ⊢
      refine ⟨r.1, fun a ea => ⟨(nn a ea).1, (nn a ea).2 _ fun i d' e => ?_⟩⟩
      obtain ⟨s0, e0, z⟩ := frz_get e
      obtain ⟨rfl, _⟩ := frz1_ow z.symm
      exact e0
/-- without the value -/
theorem StS.tested (st : StS K S G0 H0 G H σ env) {vs : List Nat} {fr : Bool} {d : PyData} (y : Ext S (frG σ env vs G H) H G' H') : ∃ G2, StS K S G0 H0 G2 H' σ (aft vs fr d env) ∧ Sub G G2 := by
  unfold aft
  by_cases lf : leafy fr d = true
  · rw [if_pos lf]; exact ⟨_, (st.back y).1, (st.back y).2.2⟩
  · rw [if_neg lf]; exact ⟨_, st.frozen y, (st.frG_ext vs).1.trans y.gg⟩
/-- a slot is stored: data to be read -/
theorem StS.setR (st : StS K S G0 H0 G H σ env) {i : Nat} {v : V} {d : PyData} (r : R K G v d) : StS K S G0 H0 G H (σ.set i (some v)) (env.set i (.sh d)) := by
  refine ⟨st.x, st.so, fun j s e => ?_, fun j k d1 d2 u hjk ej ek vj vk => ?_, by rw [List.length_set, List.length_set]; exact st.len⟩
  · by_cases h : i = j
    · subst h
      by_cases hl : i < env.length
      · rw [List.getElem?_set_self hl] at e
        cases e
        exact ⟨v, by rw [List.getElem?_set_self (by rw [st.len]; exact hl)], r⟩
      · rw [List.getElem?_eq_none (by simpa using hl)] at e; cases e
    · rw [List.getElem?_set_ne h] at e ⊢
      exact st.at_ j s e
  · have hj : i ≠ j := by
      rintro rfl
      by_cases hl : i < env.length
      · rw [List.getElem?_set_self hl] at ej; cases ej
      · rw [List.getElem?_eq_none (by simpa using hl)] at ej; cases ej
    have hk : i ≠ k := by
      rintro rfl
      by_cases hl : i < env.length
      · rw [List.getElem?_set_self hl] at ek; cases ek
      · rw [List.getElem?_eq_none (by simpa using hl)] at ek; cases ek
    rw [List.getElem?_set_ne hj] at ej vj
    rw [List.getElem?_set_ne hk] at ek vk
    exact st.ap j k d1 d2 u hjk ej ek vj vk
/-- .. one's own -/
theorem StS.setO (st : StS K S G0 H0 G H σ env) {i : Nat} {v : V} {d : PyData} (r : Own K G H v d) (n : ∀ a, v = .ref a → H0 a = none) (ap : ∀ j : Nat, ∀ d', env[j]? = some (Sl.ow d') → j ≠ i → σ[j]? ≠ some (some v)) : StS K S G0 H0 G H (σ.set i (some v)) (env.set i (.ow d)) := by
  refine ⟨st.x, st.so, fun j s e => ?_, fun j k d1 d2 u hjk ej ek vj vk => ?_, by rw [List.length_set, List.length_set]; exact st.len⟩
  · by_cases h : i = j
    · subst h
      by_cases hl : i < env.length
      · rw [List.getElem?_set_self hl] at e
        cases e
        exact ⟨v, by rw [List.getElem?_set_self (by rw [st.len]; exact hl)], r, n⟩
      · rw [List.getElem?_eq_none (by simpa using hl)] at e; cases e
    · rw [List.getElem?_set_ne h] at e ⊢
      exact st.at_ j s e
  · by_cases hj : i = j
    · subst hj
      have hl : i < env.length := by
        by_cases hl : i < env.length
        · exact hl
        · rw [List.getElem?_eq_none (by simpa using hl)] at ej; cases ej
      rw [List.getElem?_set_self (by rw [st.len]; exact hl)] at vj
      cases vj
      rw [List.getElem?_set_ne hjk] at ek vk
      exact ap k d2 ek (fun z => hjk z.symm) vk
    · rw [List.getElem?_set_ne hj] at ej vj
      by_cases hk : i = k
      · subst hk
        have hl : i < env.length := by
          by_cases hl : i < env.length
          · exact hl
          · rw [List.getElem?_eq_none (by simpa using hl)] at ek; cases ek
        rw [List.getElem?_set_self (by rw [st.len]; exact hl)] at vk
        cases vk
        exact ap j d1 ej hjk vj
      · rw [List.getElem?_set_ne hk] at ek vk
        exact st.ap j k d1 d2 u hjk ej ek vj vk
theorem StS.put (st : StS K S G0 H0 G H σ env) {i : Nat} {v : V} {d : PyData} {fr : Bool} (r : RS K σ env H0 G H fr v d) : StS K S G0 H0 G H (σ.set i (some v)) (env.set i (put fr d)) := by
  cases fr with
  | false => simp only [RS, DL.put, Bool.false_eq_true, if_false] at r ⊢; exact st.setR r
  | true =>
    simp only [RS, DL.put, if_true] at r ⊢
    obtain ⟨r, n⟩ := r
    obtain ⟨a, o, ea, _⟩ := r.at
    exact st.setO r (fun b eb => (n b eb).1) fun j d' e _ => (n a ea).2 j d' e
/-- a list of one's own is changed -/
theorem StS.change (st : StS K S G0 H0 G H σ env) {i : Nat} {a : Addr} {ds es : List PyData} {ys : List V} (e : env[i]? = some (.ow (.list ds))) (ev : σ[i]? = some (some (.ref a))) (r : RAll K G ys es) : StS K S G0 H0 G (upd H a (.lst ys)) σ (env.set i (.ow (.list es))) := by
  obtain ⟨v, ev', o, n⟩ := st.at_ i _ e
  rw [ev] at ev'; cases ev'
  have n0 := n a rfl
  obtain ⟨a', xs, ea, h1, g, _⟩ := o
  cases ea
  have x2 : Ext S G0 H0 G (upd H a (.lst ys)) := st.x.but st.so n0 g
  have hl : i < env.length := (List.getElem?_eq_some_iff.mp e).1
  refine ⟨x2, st.so, fun j s ej => ?_, fun j k d1 d2 u hjk ej ek vj vk => ?_, by rw [List.length_set]; exact st.len⟩
  · by_cases h : i = j
    · subst h
      rw [List.getElem?_set_self hl] at ej
      cases ej
      exact ⟨_, ev, ⟨a, ys, rfl, upd_same, g, r⟩, n⟩
    · rw [List.getElem?_set_ne h] at ej
      have hs := st.at_ j s ej
      cases s with
      | un => trivial
      | src => exact hs
      | sh d => exact hs
      | ow d =>
        obtain ⟨v, e1, o, n⟩ := hs
        refine ⟨v, e1, o.move (.refl G) (fun b u eb hu => ?_) (fun _ _ g => g), n⟩
        rw [upd_ne]
        · exact hu
        · rintro rfl
          subst eb
          exact st.ap i j _ d _ h e ej ev e1
  · have toi : ∀ (j : Nat) (d' : PyData), (env.set i (Sl.ow (.list es)))[j]? = some (Sl.ow d') → ∃ d'', env[j]? = some (Sl.ow d'') := fun j d' ej => by
      by_cases h : i = j
      · subst h; exact ⟨_, e⟩
      · rw [List.getElem?_set_ne h] at ej; exact ⟨_, ej⟩
    obtain ⟨_, f1⟩ := toi j d1 ej
    obtain ⟨_, f2⟩ := toi k d2 ek
    exact st.ap j k _ _ u hjk f1 f2 vj vk
theorem StS.changeO (st : StS K S G0 H0 G H σ env) {i : Nat} {a : Addr} {d0 d' : PyData} {o' : HO} (e : env[i]? = some (.ow d0)) (ev : σ[i]? = some (some (.ref a))) (r : G a = none → Own K G (upd H a o') (.ref a) d') : StS K S G0 H0 G (upd H a o') σ (env.set i (.ow d')) := by
  obtain ⟨v, ev', o, n⟩ := st.at_ i _ e
  rw [ev] at ev'; cases ev'
  have n0 := n a rfl
  obtain ⟨a', u0, ea, h1, g, _⟩ := o.at
  cases ea
  have x2 : Ext S G0 H0 G (upd H a o') := st.x.but st.so n0 g
  have hl : i < env.length := (List.getElem?_eq_some_iff.mp e).1
  refine ⟨x2, st.so, fun j s ej => ?_, fun j k d1 d2 u hjk ej ek vj vk => ?_, by rw [List.length_set]; exact st.len⟩
  · by_cases h : i = j
    · subst h
      rw [List.getElem?_set_self hl] at ej
      cases ej
      exact ⟨_, ev, r g, n⟩
    · rw [List.getElem?_set_ne h] at ej
      have hs := st.at_ j s ej
      cases s with
      | un => trivial
      | src => exact hs
      | sh d => exact hs
      | ow d =>
        obtain ⟨v, e1, o, n⟩ := hs
        refine ⟨v, e1, o.move (.refl G) (fun b u eb hu => ?_) (fun _ _ g => g), n⟩
        rw [upd_ne]
        · exact hu
        · rintro rfl
          subst eb
          exact st.ap i j _ d _ h e ej ev e1
  · have toi : ∀ (j : Nat) (d2 : PyData), (env.set i (Sl.ow d'))[j]? = some (Sl.ow d2) → ∃ d'', env[j]? = some (Sl.ow d'') := fun j d2 ej => by
      by_cases h : i = j
      · subst h; exact ⟨_, e⟩
      · rw [List.getElem?_set_ne h] at ej; exact ⟨_, ej⟩
    obtain ⟨_, f1⟩ := toi j d1 ej
    obtain ⟨_, f2⟩ := toi k d2 ek
    exact st.ap j k _ _ u hjk f1 f2 vj vk
/-- a new value of one's own is given to be read -/
theorem StS.give (st : StS K S G0 H0 G H σ env) {v : V} {d : PyData} {fr : Bool} (r : RS K σ env H0 G H fr v d) : ∃ G2, StS K S G0 H0 G2 H σ env ∧ R K G2 v d ∧ Sub G G2 := by
  cases fr with
  | false => exact ⟨G, st, by simpa only [RS, Bool.false_eq_true, if_false] using r, .refl G⟩
  | true =>
    simp only [RS, if_true] at r
    obtain ⟨r, n⟩ := r
    obtain ⟨a, o, ea, ho, hg, k⟩ := r.at
    obtain ⟨n0, ap⟩ := n a ea
    have s1 : Sub G (upd G a o) := .nw hg
    refine ⟨upd G a o, ⟨st.x.freeze st.so n0 ho hg, st.so, fun i s e => ?_, st.ap, st.len⟩, k _ s1 upd_same, s1⟩
    have h := st.at_ i s e
    cases s with
    | un => trivial
    | src => exact h
    | sh d => obtain ⟨v, e1, r⟩ := h; exact ⟨v, e1, r.mono s1⟩
    | ow d' =>
      obtain ⟨w, e1, o', n'⟩ := h
      refine ⟨w, e1, o'.move s1 (fun _ _ _ h => h) (fun b eb gb => ?_), n'⟩
      rw [upd_ne]
      · exact gb
      · rintro rfl
        exact ap i d' e (by rw [e1, eb, ea])
/-- with more that is read -/
theorem StS.later (st : StS K S G0 H0 G H σ env) (y : Ext S G H G' H') : StS K S G0 H0 G' H' σ env := by
  refine ⟨st.x.trans st.so y, st.so, fun i s e => ?_, st.ap, st.len⟩
  have h := st.at_ i s e
  cases s with
  | un => trivial
  | src => exact h
  | sh d => obtain ⟨v, e1, r⟩ := h; exact ⟨v, e1, r.mono y.gg⟩
  | ow d =>
    obtain ⟨v, e1, o, n⟩ := h
    refine ⟨v, e1, o.move y.gg (fun a u ea hu => y.kp a u hu (nsrc_fresh st.so (n a ea))) (fun a ea ga => ?_), n⟩
    obtain ⟨a', o', ea', h1, _⟩ := o.at
    rw [ea] at ea'; cases ea'
    rw [y.nw a (by rw [h1]; rfl)]
    exact ga
end
end DL
set_option Elab.async false
set_option linter.all false
set_option maxRecDepth 100000
set_option maxHeartbeats 2000000
/-! D8: statements' readings. -/
namespace DL
open PySem PySem.Spec PyProof.Rows L2

structure EndsOk (K : PySem.W.Frag) (mg : Str → Option Value) (E : XK) (S : Sx) (G0 H0 Gb : Hp) (k : Kp) (D : Ends) : Prop where
  nx : ∀ G H σ env, StS K S G0 H0 G H σ env → Sub Gb G → k.nx env → D.nx σ H
  bk : ∀ G H σ env, StS K S G0 H0 G H σ env → Sub Gb G → k.bk env → D.bk σ H
  ct : ∀ G H σ env, StS K S G0 H0 G H σ env → Sub Gb G → k.ct env → D.ct σ H
  rt : ∀ v H', Post K S G0 H0 k.rt v H' → D.rt v H'
  rz : Rz mg S G0 H0 k.ex E
def tS (X : Cx) (C : Nat → Fs) (E : XK) (s : Sm) : TS := fun D σ H => ∃ S G0 H0 Gb G env k, StS X.K S G0 H0 G H σ env ∧ Sub Gb G ∧ EndsOk X.K X.mg E S G0 H0 Gb k D ∧ s.rd C env k
def tSs (X : Cx) (C : Nat → Fs) (E : XK) (s : Sms) : TS := fun D σ H => ∃ S G0 H0 Gb G env k, StS X.K S G0 H0 G H σ env ∧ Sub Gb G ∧ EndsOk X.K X.mg E S G0 H0 Gb k D ∧ s.rd C env k

section
variable {X : Cx} {C : Nat → Fs} {E : XK} {S : Sx} {G0 H0 G H G' H' : Hp} {σ : L2.St} {env : Env} {Ep : Str → Prop} {Q : Bool → PyData → Prop} {Qh : VK} {k : Kp} {D : Ends}
/-- an expression of a statement -/
theorem StS.eval (st : StS X.K S G0 H0 G H σ env) (rz : Rz X.mg S G0 H0 Ep E) {e : Ex} (h : e.rd C Ep env Q)
    (kk : ∀ v G' H' fr d, StS X.K S G0 H0 G' H' σ (aft e.vs fr d env) → RS X.K σ (aft e.vs fr d env) H0 G' H' fr v d → Stp S σ env G H G' H' fr v → Q fr d → Qh v H') : tE X C E e σ H Qh :=
  ⟨S, _, env, Ep, Q, ⟨st.ste e.vs, rz.ext (st.frG_ext e.vs).2 st.so, fun v H' pp => by
    obtain ⟨G', fr, d, y, r, q⟩ := pp
    obtain ⟨G2, st2, r2, sg⟩ := st.evald y r
    exact kk v G2 H' fr d st2 r2 sg q⟩, h⟩
theorem StS.test (st : StS X.K S G0 H0 G H σ env) (rz : Rz X.mg S G0 H0 Ep E) {e : Ex} {Qb : Bool → Hp → Prop} (h : e.rd C Ep env Q)
    (kk : ∀ G' H' fr d, StS X.K S G0 H0 G' H' σ (aft e.vs fr d env) → Sub G G' → Q fr d → ∃ c, truth d = some c ∧ Qb c H') : tT X C E e σ H Qb :=
  ⟨S, _, env, Ep, Q, st.ste e.vs, rz.ext (st.frG_ext e.vs).2 st.so, h, fun fr d G' H' y q => by
    obtain ⟨G2, st2, sg⟩ := st.tested (fr := fr) (d := d) y
    exact kk G2 H' fr d st2 sg q⟩

theorem ss_nil : PSs X [] (tSs X C E .nil) := PSs.imp pss_nil fun D σ H ⟨S, G0, H0, Gb, G, env, k, st, sb, en, h⟩ => en.nx _ _ _ _ st sb (by simpa only [Sms.rd] using h)
theorem ss_cons {s : Stmt} {r : List Stmt} {x : Sm} {xs : Sms} (h1 : PS X s (tS X C E x)) (h2 : PSs X r (tSs X C E xs)) : PSs X (s :: r) (tSs X C E (.cons x xs)) :=
  PSs.imp (pss_cons h1 h2) fun D σ H ⟨S, G0, H0, Gb, G, env, k, st, sb, en, h⟩ =>
    ⟨S, G0, H0, Gb, G, env, { k with nx := fun env' => xs.rd C env' k }, st, sb, ⟨fun G' H' σ' env' st' sb' h' => ⟨S, G0, H0, Gb, G', env', k, st', sb', en, h'⟩, en.bk, en.ct, en.rt, en.rz⟩, by simpa only [Sms.rd] using h⟩
theorem sm_pass {pos : Pos} : PS X (.Pass pos) (tS X C E .pass) := PS.imp ps_pass fun D σ H ⟨S, G0, H0, Gb, G, env, k, st, sb, en, h⟩ => en.nx _ _ _ _ st sb (by simpa only [Sm.rd] using h)
theorem sm_brk {pos : Pos} : PS X (.Break pos) (tS X C E .brk) := PS.imp ps_break fun D σ H ⟨S, G0, H0, Gb, G, env, k, st, sb, en, h⟩ => en.bk _ _ _ _ st sb (by simpa only [Sm.rd] using h)
theorem sm_cnt {pos : Pos} : PS X (.Continue pos) (tS X C E .cnt) := PS.imp ps_continue fun D σ H ⟨S, G0, H0, Gb, G, env, k, st, sb, en, h⟩ => en.ct _ _ _ _ st sb (by simpa only [Sm.rd] using h)
theorem sm_retn {pos : Pos} : PS X (.Return none pos) (tS X C E .retn) := PS.imp ps_retN fun D σ H ⟨S, G0, H0, Gb, G, env, k, st, sb, en, h⟩ => en.rt _ _ (.of st.x .non (by simpa only [Sm.rd] using h))
theorem sm_retv {i : Nat} {e : Expr} {pos : Pos} (he : PE X e (tVar i)) : PS X (.Return (some e) pos) (tS X C E (.ret (.var i))) :=
  PS.imp (ps_ret he) fun D σ H ⟨S, G0, H0, Gb, G, env, k, st, sb, en, h⟩ => by
    simp only [Sm.rd] at h
    cases e1 : env[i]? with
    | none => rw [e1] at h; exact h.elim
    | some l =>
      have s := st.at_ i l e1
      rw [e1] at h
      cases l with
      | un => exact h.elim
      | src => exact h.elim
      | sh d =>
        obtain ⟨v, hv, r⟩ := s
        exact ⟨v, hv, en.rt _ _ (.of st.x r h)⟩
      | ow d =>
        obtain ⟨v, hv, r, n⟩ := s
        refine ⟨v, hv, en.rt _ _ ⟨G, true, d, st.x, ?_, h⟩⟩
        simp only [RF, if_true]
        exact ⟨r, n⟩
theorem sm_ret {e : Expr} {x : Ex} {pos : Pos} (hx : ∀ i, x ≠ .var i) (he : PE X e (tE X C E x)) : PS X (.Return (some e) pos) (tS X C E (.ret x)) :=
  PS.imp (ps_ret he) fun D σ H ⟨S, G0, H0, Gb, G, env, k, st, sb, en, h⟩ => by
    have h' : x.rd C k.ex env k.rt := by cases x <;> first | exact absurd rfl (hx _) | simpa only [Sm.rd] using h
    exact ⟨S, _, env, k.ex, k.rt, ⟨st.ste x.vs, en.rz.ext (st.frG_ext x.vs).2 st.so, fun v H' pp => en.rt v H' (pp.step (st.frG_ext x.vs).2 st.so)⟩, h'⟩
theorem sm_expr {e : Expr} {x : Ex} {pos : Pos} (he : PE X e (tE X C E x)) (hs : swapsWith e none pos.line X.env = pure false) : PS X (.Expr e pos) (tS X C E (.expr x)) :=
  PS.imp (ps_expr he hs) fun D σ H ⟨S, G0, H0, Gb, G, env, k, st, sb, en, h⟩ =>
    st.eval en.rz (by simpa only [Sm.rd] using h) fun v G' H' fr d st' _ sg q => en.nx _ _ _ _ st' (sb.trans sg.sub) q
theorem sm_ite {t : Expr} {a b : List Stmt} {et : Ex} {ea eb : Sms} {pos : Pos} (ht : PT X t (tT X C E et)) (ha : PSs X a (tSs X C E ea)) (hb : PSs X b (tSs X C E eb)) : PS X (.If t a b pos) (tS X C E (.ite et ea eb)) :=
  PS.imp (ps_if ht ha hb) fun D σ H ⟨S, G0, H0, Gb, G, env, k, st, sb, en, h⟩ =>
    st.test (Q := fun fr d => ∃ c, truth d = some c ∧ if c = true then ea.rd C (aft et.vs fr d env) k else eb.rd C (aft et.vs fr d env) k) en.rz (by simpa only [Sm.rd] using h) fun G' H' fr d st' sg ⟨c, hc, q⟩ => by
      refine ⟨c, hc, ?_⟩
      cases c with
      | true => rw [if_pos rfl] at q ⊢; exact ⟨S, G0, H0, Gb, G', _, k, st', sb.trans sg, en, q⟩
      | false => rw [if_neg Bool.false_ne_true] at q ⊢; exact ⟨S, G0, H0, Gb, G', _, k, st', sb.trans sg, en, q⟩
/-- x = e -/
theorem sm_asg {tg e : Expr} {i : Nat} {x : Ex} {st : Stmt} (h : PS X st (tAsg (tE X C E x) (gName i))) : PS X st (tS X C E (.asg (.nm i) x)) :=
  PS.imp h fun D σ H ⟨S, G0, H0, Gb, G, env, k, st, sb, en, h⟩ =>
    st.eval en.rz (by simpa only [Sm.rd] using h) fun v G' H' fr d st' r sg q => en.nx _ _ _ _ (st'.put r) (sb.trans sg.sub) q
theorem sm_asgT {t : Tgs} {x : Ex} {st : Stmt} (h : PS X st (tAsg (tE X C E x) (tgR X.K (.tp t)))) : PS X st (tS X C E (.asg (.tp t) x)) :=
  PS.imp h fun D σ H ⟨S, G0, H0, Gb, G, env, k, st, sb, en, h⟩ =>
    st.eval en.rz (by simpa only [Sm.rd] using h) fun v G' H' fr d st' r sg q => by
      obtain ⟨G2, st2, r2, sg2⟩ := st'.give r
      exact tg_ok (K := X.K) (G := G2) (H := H') (fun σ' env' => StS X.K S G0 H0 G2 H' σ' env') st2.x.gh (.tp t) (fun i _ σ' env' v' d' r' p => p.setR r') r2 st2 q fun σ' env' p h => en.nx _ _ _ _ p ((sb.trans sg.sub).trans sg2) h
/-- x.append(e) -/
theorem sm_app {o e : Expr} {i : Nat} {x : Ex} {apos cpos pos : Pos} (ho : PE X o (tVar i)) (he : PE X e (tE X C E x)) (ns : ∀ v p, e ≠ .Starred v p)
    (hbase : attributeBase o "append" X.env (eval o X.env) = eval o X.env) (hline : (apos.endLine == cpos.line) = true)
    (hfew : ((backTo cpos (starEach [e] X.env)).all (fun x => !x.1) && (backToKw cpos (keywordEach [] X.env)).all (fun x => x.1.isSome) && decide ([e].length + ([] : List Keyword).length + (if ([] : List Keyword).isEmpty then 0 else 1) < 30)) = true) :
    PS X (.Expr (.Call (.Attribute o "append" apos) [e] [] cpos) pos) (tS X C E (.app i x)) :=
  PS.imp (ps_expr (pe_bm PySem.F.plainAttrs_list PySem.F.slot_list_append PySem.F.type_list_append mt_append ho (pa_cons he pa_nil (star_of ns)) hbase hfew hline (star_of ns) rfl) rfl) fun D σ H ⟨S, G0, H0, Gb, G, env, k, st, sb, en, h⟩ => by
    simp only [Sm.rd] at h
    cases e1 : env[i]? with
    | none => rw [e1] at h; exact h.elim
    | some l =>
      rw [e1] at h
      have hs := st.at_ i l e1
      match l, h, hs with
      | .ow (.list ds0), h, ⟨v0, ev, ⟨a, xs0, ea, h1, g, ra⟩, n⟩ =>
        subst ea
        refine ⟨_, ev, .inl ⟨rfl, xs0, SqL.of h1⟩, st.eval en.rz h fun v G' H' fr d st' r sg q => ?_⟩
        obtain ⟨G2, st2, r2, sg2⟩ := st'.give r
        cases e2 : (aft x.vs fr d env)[i]? with
        | none => rw [e2] at q; exact q.elim
        | some l2 =>
          rw [e2] at q
          have hs2 := st2.at_ i l2 e2
          match l2, q, hs2, e2 with
          | .ow (.list ds), q, ⟨v2, ev2, ⟨b, xs, eb, h2, g2, rb⟩, n2⟩, e2 =>
            subst eb
            rw [ev] at ev2
            cases ev2
            exact ⟨a, xs, v, rfl, rfl, h2, by rw [rb.length]; exact lim_lt q.1, en.nx _ _ _ _ (st2.change e2 ev (rb.append (.one r2))) ((sb.trans sg.sub).trans sg2) q.2⟩
theorem aft_int {vs : List Nat} {f : Bool} {z : Int} {env : Env} : aft vs f (.int z) env = env := by simp [aft, leafy, flat]
theorem leafy_atom {f : Bool} {d : PyData} (h : flat d = true) : leafy f d = true := by unfold leafy; rw [h]; rfl
/-- x[j] = e -/
theorem sm_setx (hu : X.A.units + 65 < cLine) {o j e : Expr} {i : Nat} {x y : Ex} {tpos pos : Pos} (ho : PE X o (tVar i)) (hj : PE X j (tE X C E y)) (hsl : ∀ a b c p, j ≠ .Slice a b c p) (he : PE X e (tE X C E x)) (hs : swapsWithSole [.Subscript o j tpos] e pos.line X.env = pure false) (hw : swappedStores [.Subscript o j tpos] e X.env = pure none) :
    PS X (.Assign [.Subscript o j tpos] e pos) (tS X C E (.setx i y x)) :=
  PS.imp (ps_asg he (pg_sub ho hj (PSet.or set_list (set_dict hu)) (by intros; cases j <;> first | rfl | exact absurd rfl (hsl _ _ _ _))) hs hw) fun D σ H ⟨S, G0, H0, Gb, G, env, k, st, sb, en, h⟩ => by
    simp only [Sm.rd] at h
    refine st.eval en.rz h fun v G' H' fr d st' r sg q => ?_
    obtain ⟨G2, st2, r2, sg2⟩ := st'.give r
    cases e2 : (aft x.vs fr d env)[i]? with
    | none => rw [e2] at q; exact q.elim
    | some l2 =>
      rw [e2] at q
      have hs2 := st2.at_ i l2 e2
      match l2, q, hs2, e2 with
      | .ow (.list ds), q, ⟨v2, ev, ⟨a, xs, eb, h2, g2, rb⟩, n2⟩, e2 =>
        subst eb
        refine ⟨_, ev, st2.eval en.rz q fun w G3 H3 f3 dz st3 r3 sg3 q3 => ?_⟩
        obtain ⟨z, rfl, n, hn, q3⟩ := isInt_iff q3
        rw [aft_int] at st3 r3
        have r3' : w = .int z := by
          cases f3 with
          | false => simp only [RS, Bool.false_eq_true, if_false] at r3; exact r3.int'
          | true => simp only [RS, if_true] at r3; exact r3.1.elim
        subst r3'
        obtain ⟨v4, ev4, ⟨b, ys, eb, h4, g4, rb4⟩, n4⟩ := st3.at_ i _ e2
        rw [ev] at ev4
        cases ev4
        cases eb
        exact .inl ⟨a, ys, z, n, rfl, rfl, h4, by rw [rb4.length]; exact hn, en.nx _ _ _ _ (st3.change e2 ev (RAll.set (r2.mono sg3.sub) n rb4)) (((sb.trans sg.sub).trans sg2).trans sg3.sub) q3⟩
      | .ow (.dict kvs), q, ⟨v2, ev, ⟨a, ob, ps, eb, h2, dp, g2, rb⟩, n2⟩, e2 =>
        subst eb
        refine ⟨_, ev, st2.eval en.rz q fun w G3 H3 f3 dy st3 r3 sg3 q3 => ?_⟩
        obtain ⟨hk, hl, q3⟩ := q3
        have fl : leafy f3 dy = true := by
          cases dy with
          | int i => exact leafy_atom rfl
          | str x => exact leafy_atom rfl
          | _ => cases hk
        have ea : aft y.vs f3 dy (aft x.vs fr d env) = aft x.vs fr d env := if_pos fl
        rw [ea] at st3 r3
        have r3' : R X.K G3 w dy := by
          cases f3 with
          | false => simpa only [RS, Bool.false_eq_true, if_false] using r3
          | true =>
            simp only [RS, if_true] at r3
            cases dy with
            | int _ => exact r3.1.elim
            | str _ => exact r3.1.elim
            | _ => cases hk
        obtain ⟨v4, ev4, ⟨b, ob4, ps4, eb, h4, dp4, g4, rb4⟩, n4⟩ := st3.at_ i _ e2
        rw [ev] at ev4
        cases ev4
        cases eb
        exact .inr (dic_put h4 dp4 rb4 r3' (r2.mono sg3.sub) hk (lim_lt hl) fun o' ps' dp' rq => en.nx _ _ _ _ (st3.changeO (d' := .dict (putD kvs dy d)) e2 ev fun gn => ⟨a, o', ps', rfl, upd_same, dp', gn, rq⟩) (((sb.trans sg.sub).trans sg2).trans sg3.sub) q3)
/-- x op= e -/
theorem aug_rule {op : Operator} {o : Bop} (h : (op = .Add ∧ o = .add) ∨ (op = .Sub ∧ o = .sub) ∨ (op = .Mult ∧ o = .mul) ∨ (op = .FloorDiv ∧ o = .fdiv) ∨ (op = .Mod ∧ o = .mod) ∨ (op = .LShift ∧ o = .shl) ∨ (op = .RShift ∧ o = .shr) ∨ (op = .BitAnd ∧ o = .band) ∨ (op = .BitOr ∧ o = .bor) ∨ (op = .BitXor ∧ o = .bxor)) :
    ∃ r : R2, OpR X (inplaceOp op) r ∧ ∀ {i j : Int} {Qi : Int → Prop} {H : Hp} {Qh : VK}, AugP o i j Qi → (∀ u, Qi u → Qh (.int u) H) → r (.int i) (.int j) H Qh := by
  rcases h with ⟨rfl, rfl⟩ | ⟨rfl, rfl⟩ | ⟨rfl, rfl⟩ | ⟨rfl, rfl⟩ | ⟨rfl, rfl⟩ | ⟨rfl, rfl⟩ | ⟨rfl, rfl⟩ | ⟨rfl, rfl⟩ | ⟨rfl, rfl⟩ | ⟨rfl, rfl⟩
  · exact ⟨_, iop_add, fun {i j Qi H Qh} h k => ⟨i, j, rfl, rfl, k _ h⟩⟩
  · exact ⟨_, iop_sub, fun {i j Qi H Qh} h k => ⟨i, j, rfl, rfl, k _ h⟩⟩
  · exact ⟨_, iop_mul, fun {i j Qi H Qh} h k => ⟨i, j, rfl, rfl, h.1, k _ h.2⟩⟩
  · exact ⟨_, iop_fdivW, fun {i j Qi H Qh} h k => ⟨i, j, rfl, rfl, h.1, k _ h.2⟩⟩
  · exact ⟨_, iop_mod, fun {i j Qi H Qh} h k => ⟨i, j, rfl, rfl, h.1, k _ h.2⟩⟩
  · exact ⟨_, iop_shlW, fun {i j Qi H Qh} h k => ⟨i, j, rfl, rfl, h.1, k _ h.2⟩⟩
  · exact ⟨_, iop_shr, fun {i j Qi H Qh} h k => ⟨i, j, rfl, rfl, h.1, k _ h.2⟩⟩
  · exact ⟨_, iop_and, fun {i j Qi H Qh} h k => ⟨i, j, rfl, rfl, k _ h⟩⟩
  · exact ⟨_, iop_or, fun {i j Qi H Qh} h k => ⟨i, j, rfl, rfl, k _ h⟩⟩
  · exact ⟨_, iop_xor, fun {i j Qi H Qh} h k => ⟨i, j, rfl, rfl, k _ h⟩⟩
theorem sm_aug {op : Operator} {o : Bop} {y : Str} {e : Expr} {i : Nat} {x : Ex} {p pos : Pos} (hop : (op = .Add ∧ o = .add) ∨ (op = .Sub ∧ o = .sub) ∨ (op = .Mult ∧ o = .mul) ∨ (op = .FloorDiv ∧ o = .fdiv) ∨ (op = .Mod ∧ o = .mod) ∨ (op = .LShift ∧ o = .shl) ∨ (op = .RShift ∧ o = .shr) ∨ (op = .BitAnd ∧ o = .band) ∨ (op = .BitOr ∧ o = .bor) ∨ (op = .BitXor ∧ o = .bxor))
    (hN : X.N.Nodup) (hi : X.N[i]? = some y) (hx : Loc X.env.scope y) (hf : X.fn y = true ∨ X.env.scope.names.lookup y = some .local) (hd : ∀ {te : TE} {ti : TIp}, PE X e te → PIp X op ti → PS X (.AugAssign (.Name y p) op e pos) (tAug i te ti)) (he : PE X e (tE X C E x)) :
    PS X (.AugAssign (.Name y p) op e pos) (tS X C E (.aug i o x)) := by
  obtain ⟨r, h1, h2⟩ := aug_rule (X := X) hop
  refine PS.imp (hd he h1) fun D σ H ⟨S, G0, H0, Gb, G, env, k, st, sb, en, h⟩ => ?_
  simp only [Sm.rd] at h
  cases e1 : env[i]? with
  | none => rw [e1] at h; exact h.elim
  | some l =>
    rw [e1] at h
    have hs := st.at_ i l e1
    match l, h, hs with
    | .sh (.int z), h, ⟨v0, ev, rz⟩ =>
      rw [rz.int'] at ev
      refine ⟨_, ev, st.eval en.rz h fun v G' H' fr d st' r sg q0 => ?_⟩
      obtain ⟨w, rfl, q⟩ := isInt_iff q0
      rw [aft_int] at st' r
      have rv : v = .int w := by
        cases fr with
        | false => simp only [RS, Bool.false_eq_true, if_false] at r; exact r.int'
        | true => simp only [RS, if_true] at r; exact r.1.elim
      subst rv
      exact h2 q fun u qu => en.nx _ _ _ _ (st'.setR (.int u)) (sb.trans sg.sub) qu
theorem RS.int {K : PySem.W.Frag} {fr : Bool} {v : V} {w : Int} (r : RS K σ env H0 G H fr v (.int w)) : v = .int w := by
  cases fr with
  | false => simp only [RS, Bool.false_eq_true, if_false] at r; exact r.int'
  | true => simp only [RS, if_true] at r; exact r.1.elim
theorem RS.atom {K : PySem.W.Frag} {fr : Bool} {v : V} {d : PyData} (r : RS K σ env H0 G H fr v d) (h : atomK d = true) : R K G v d := by
  cases fr with
  | false => simpa only [RS, Bool.false_eq_true, if_false] using r
  | true =>
    simp only [RS, if_true] at r
    cases d with
    | int _ => exact r.1.elim
    | str _ => exact r.1.elim
    | _ => cases h
theorem aft_atom {vs : List Nat} {f : Bool} {d : PyData} {env : Env} (h : atomK d = true) : aft vs f d env = env := by
  cases d with
  | int i => exact if_pos (leafy_atom rfl)
  | str x => exact if_pos (leafy_atom rfl)
  | _ => cases h
/-- x = y[j], y perhaps one's own: what is in it is read already -/
theorem sm_asx (hu : X.A.units + 65 < cLine) {o j : Expr} {st : Stmt} {t : Tg} {i : Nat} {y : Ex} {sp : Pos} (ho : PE X o (tVar i)) (hj : PE X j (tE X C E y)) (hp : PlainIx j) (mk : ∀ {te : TE}, PE X (.Subscript o j sp) te → PS X st (tAsg te (tgR X.K t))) :
    PS X st (tS X C E (.asx t i y)) :=
  PS.imp (mk (pe_ix ((ix_list.or ix_tup).or (ix_dict hu)) ho hj hp)) fun D σ H ⟨S, G0, H0, Gb, G, env, k, st, sb, en, h⟩ => by
    simp only [Sm.rd] at h
    obtain ⟨h0, h⟩ := h
    have slot : ∀ {G H : Hp} {env : Env}, StS X.K S G0 H0 G H σ env → ∀ {d : PyData}, slO env i = some d → ∃ v, σ[i]? = some (some v) ∧ ((∃ ds, d = .list ds ∧ ∃ a xs, v = .ref a ∧ SqL X.K H a xs ∧ RAll X.K G xs ds) ∨ (∃ ds, d = .tuple ds ∧ ∃ a xs, v = .ref a ∧ SqT X.K H a xs ∧ RAll X.K G xs ds) ∨ (∃ kvs, d = .dict kvs ∧ ∀ z w, R X.K G w z → keyFor kvs z = true → ∃ a o, v = .ref a ∧ DGet H a w o ∧ (match o with | none => lookD kvs z = none | some u => ∃ d', lookD kvs z = some d' ∧ R X.K G u d')) ∨ (∀ z Q, ¬ IxP d z Q)) := by
      intro G H env st d e
      unfold slO at e
      cases e1 : env[i]? with
      | none => rw [e1] at e; cases e
      | some s =>
        have hs := st.at_ i s e1
        rw [e1] at e
        cases s with
        | un => cases e
        | src => cases e
        | sh d' =>
          cases e
          obtain ⟨v, ev, r⟩ := hs
          refine ⟨v, ev, ?_⟩
          cases d with
          | list ds => obtain ⟨a, xs, rfl, h1, q1⟩ := r.lst'; exact .inl ⟨ds, rfl, a, xs, rfl, SqL.of (st.x.gh _ _ h1), q1⟩
          | tuple ds => obtain ⟨a, xs, rfl, h1, q1⟩ := r.tup'; exact .inr (.inl ⟨ds, rfl, a, xs, rfl, st.x.gh.t h1, q1⟩)
          | dict kvs => exact .inr (.inr (.inl ⟨kvs, rfl, fun z w rz hk => by
              obtain ⟨a, o, e, g, m⟩ := dic_get st.x.gh r rz hk
              exact ⟨a, o, e, g, by cases o <;> exact m⟩⟩))
          | _ => exact .inr (.inr (.inr fun z Q h => by cases z <;> exact h))
        | ow d' =>
          cases e
          obtain ⟨v, ev, ow, n⟩ := hs
          refine ⟨v, ev, ?_⟩
          cases d with
          | list ds => obtain ⟨a, xs, rfl, h1, g, q1⟩ := ow; exact .inl ⟨ds, rfl, a, xs, rfl, SqL.of h1, q1⟩
          | dict kvs =>
            obtain ⟨a, o, ps, rfl, h1, dp, g, q1⟩ := ow
            refine .inr (.inr (.inl ⟨kvs, rfl, fun z w rz hk => ?_⟩))
            obtain ⟨kvs0, rfl, rfl⟩ := dp
            obtain ⟨κ, rfl⟩ := atom_of (show atomK z = true from hk)
            have ek := R.atom rz
            subst ek
            have lk := look_gen kD keyEq_kD κ q1
            cases hv : valV kvs0 κ with
            | none =>
              rw [hv] at lk
              exact ⟨a, none, rfl, .inl ⟨kvs0, κ, .inl h1, rfl, hv.symm⟩, lk⟩
            | some u =>
              rw [hv] at lk
              exact ⟨a, some u, rfl, .inl ⟨kvs0, κ, .inl h1, rfl, hv.symm⟩, lk⟩
          | _ => cases ow
    obtain ⟨d0, e0⟩ := Option.isSome_iff_exists.mp h0
    obtain ⟨v0, ev, _⟩ := slot st e0
    refine ⟨v0, ev, st.eval en.rz h fun w G' H' fr z st' r sg ⟨d, e, q⟩ => ?_⟩
    obtain ⟨v1, ev1, hd⟩ := slot st' e
    rw [ev] at ev1; cases ev1
    have fin : ∀ {u : V} {x : PyData}, R X.K G' u x → t.bnd x (aft y.vs fr z env) k.nx → tgR X.K t u σ H' (fun σ' H'' => D.nx σ' H'') := fun {u x} ru qb =>
      tg_ok (K := X.K) (G := G') (H := H') (fun σ' env' => StS X.K S G0 H0 G' H' σ' env') st'.x.gh t (fun i _ σ' env' v' d' r' p => p.setR r') ru st' qb fun σ' env' p h => en.nx _ _ _ _ p (sb.trans sg.sub) h
    rcases hd with ⟨ds, rfl, a, xs, rfl, h1, q1⟩ | ⟨ds, rfl, a, xs, rfl, h1, q1⟩ | ⟨kvs, rfl, hk⟩ | hn
    · cases z <;> first
        | exact False.elim q
        | (obtain ⟨x, ex, q⟩ := q
           obtain ⟨u, eu, ru⟩ := ixD q1 ex
           rw [RS.int r]
           exact .inl (.inl ⟨a, xs, _, u, rfl, rfl, h1, eu, fin ru q⟩))
    · cases z <;> first
        | exact False.elim q
        | (obtain ⟨x, ex, q⟩ := q
           obtain ⟨u, eu, ru⟩ := ixD q1 ex
           rw [RS.int r]
           exact .inl (.inr ⟨a, xs, _, u, rfl, rfl, h1, eu, fin ru q⟩))
    · have q' : keyFor kvs z = true ∧ ∃ x, lookD kvs z = some x ∧ t.bnd x (aft y.vs fr z env) k.nx := by cases z <;> exact q
      obtain ⟨kf, x, ex, q⟩ := q'
      obtain ⟨a, o, rfl, g, m⟩ := hk z w (RS.atom r kf) kf
      cases o with
      | none => rw [show lookD kvs z = none from m] at ex; cases ex
      | some u =>
        obtain ⟨d', e', ru⟩ := m
        rw [ex] at e'; cases e'
        exact .inr ⟨a, u, rfl, g, fin ru q⟩
    · exact absurd q (hn _ _)
/-- x[j] op= e -/
theorem sm_augx (hu : X.A.units + 65 < cLine) {op : Operator} {o : Bop} {on j e : Expr} {i : Nat} {x y : Ex} {tpos pos : Pos} (hop : (op = .Add ∧ o = .add) ∨ (op = .Sub ∧ o = .sub) ∨ (op = .Mult ∧ o = .mul) ∨ (op = .FloorDiv ∧ o = .fdiv) ∨ (op = .Mod ∧ o = .mod) ∨ (op = .LShift ∧ o = .shl) ∨ (op = .RShift ∧ o = .shr) ∨ (op = .BitAnd ∧ o = .band) ∨ (op = .BitOr ∧ o = .bor) ∨ (op = .BitXor ∧ o = .bxor))
    (ho : PE X on (tVar i)) (hj : PE X j (tE X C E y)) (hsl : ∀ a b c p, j ≠ .Slice a b c p) (he : PE X e (tE X C E x)) : PS X (.AugAssign (.Subscript on j tpos) op e pos) (tS X C E (.augx i y o x)) := by
  obtain ⟨r, h1, h2⟩ := aug_rule (X := X) hop
  refine PS.imp (ps_augS ho hj (PGet.or get_list (get_dict hu)) he h1 (PSet.or set_list (set_dict hu)) (by intros; cases j <;> first | rfl | exact absurd rfl (hsl _ _ _ _))) fun D σ H ⟨S, G0, H0, Gb, G, env, k, st, sb, en, h⟩ => ?_
  simp only [Sm.rd] at h
  cases e1 : env[i]? with
  | none => rw [e1] at h; exact h.elim
  | some l =>
    rw [e1] at h
    have hs := st.at_ i l e1
    match l, h, hs, e1 with
    | .ow (.list ds), h, ⟨v0, ev, _, _⟩, e1 =>
      refine ⟨_, ev, st.eval en.rz h fun v G1 H1 f1 dz st1 r1 sg1 q1 => ?_⟩
      obtain ⟨z, rfl, n, c, hn, hc, q1⟩ := isInt_iff q1
      rw [aft_int] at st1 r1
      cases r1.int
      obtain ⟨v1, ev1, ⟨a, xs, ea, h3, g3, ra⟩, n3⟩ := st1.at_ i _ e1
      rw [ev] at ev1; cases ev1
      subst ea
      obtain ⟨u, hu1, ru⟩ := ra.get n hc
      refine .inl ⟨a, xs, z, u, rfl, rfl, SqL.of h3, ?_, st1.eval en.rz q1 fun w G2 H2 f2 dw st2 r2 sg2 q2 => ?_⟩
      · unfold atI; rw [ra.length, hn]; exact hu1
      obtain ⟨w2, rfl, q2⟩ := isInt_iff q2
      rw [aft_int] at st2 r2
      cases r2.int
      rw [ru.int']
      refine h2 q2 fun u2 qu => ?_
      obtain ⟨v5, ev5, ⟨b, ys, eb, h5, g5, rb⟩, n5⟩ := st2.at_ i _ e1
      rw [ev] at ev5; cases ev5
      cases eb
      exact .inl ⟨a, ys, z, n, rfl, rfl, h5, by rw [rb.length]; exact hn, en.nx _ _ _ _ (st2.change e1 ev (RAll.set (.int u2) n rb)) ((sb.trans sg1.sub).trans sg2.sub) qu⟩
    | .ow (.dict kvs), h, ⟨v0, ev, _, _⟩, e1 =>
      refine ⟨_, ev, st.eval en.rz h fun v G1 H1 f1 dz st1 r1 sg1 q1 => ?_⟩
      obtain ⟨hk, c, hc, hl, q1⟩ := q1
      have hat : atomK dz = true := hk
      rw [aft_atom hat] at st1 r1
      have rz := r1.atom hat
      obtain ⟨v1, ev1, ⟨a, ob, ps, ea, h3, dp, g3, ra⟩, n3⟩ := st1.at_ i _ e1
      rw [ev] at ev1; cases ev1
      subst ea
      obtain ⟨kvs0, rfl, rfl⟩ := dp
      obtain ⟨κ, rfl⟩ := atom_of hat
      have ek := R.atom rz
      subst ek
      have lk := look_gen kD keyEq_kD κ ra
      cases hv : valV kvs0 κ with
      | none => rw [hv] at lk; rw [show lookD kvs (kD κ) = none from lk] at hc; cases hc
      | some u =>
        rw [hv] at lk
        obtain ⟨d', e', ru⟩ := lk
        rw [hc] at e'; cases e'
        refine .inr ⟨a, u, rfl, .inl ⟨kvs0, κ, .inl h3, rfl, hv.symm⟩, st1.eval en.rz q1 fun w G2 H2 f2 dw st2 r2 sg2 q2 => ?_⟩
        obtain ⟨w2, rfl, q2⟩ := isInt_iff q2
        rw [aft_int] at st2 r2
        cases r2.int
        rw [ru.int']
        refine h2 q2 fun u2 qu => ?_
        obtain ⟨v5, ev5, ⟨b, ob5, ps5, eb, h5, dp5, g5, rb⟩, n5⟩ := st2.at_ i _ e1
        rw [ev] at ev5; cases ev5
        cases eb
        exact .inr (dic_put h5 dp5 rb (rz.mono sg2.sub) (.int u2) hk (lim_lt hl) fun o' ps' dp' rq => en.nx _ _ _ _ (st2.changeO (d' := .dict (putD kvs (kD κ) (.int u2))) e1 ev fun gn => ⟨a, o', ps', rfl, upd_same, dp', gn, rq⟩) ((sb.trans sg1.sub).trans sg2.sub) qu)
/-- x.extend(e) -/
theorem sm_ext {o e : Expr} {i : Nat} {x : Ex} {apos cpos pos : Pos} (ho : PE X o (tVar i)) (he : PE X e (tE X C E x)) (ns : ∀ v p, e ≠ .Starred v p)
    (hbase : attributeBase o "extend" X.env (eval o X.env) = eval o X.env) (hline : (apos.endLine == cpos.line) = true)
    (hfew : ((backTo cpos (starEach [e] X.env)).all (fun x => !x.1) && (backToKw cpos (keywordEach [] X.env)).all (fun x => x.1.isSome) && decide ([e].length + ([] : List Keyword).length + (if ([] : List Keyword).isEmpty then 0 else 1) < 30)) = true) :
    PS X (.Expr (.Call (.Attribute o "extend" apos) [e] [] cpos) pos) (tS X C E (.ext i x)) :=
  PS.imp (ps_expr (pe_bm PySem.F.plainAttrs_list PySem.F.slot_list_extend PySem.F.type_list_extend mt_extend ho (pa_cons he pa_nil (star_of ns)) hbase hfew hline (star_of ns) rfl) rfl) fun D σ H ⟨S, G0, H0, Gb, G, env, k, st, sb, en, h⟩ => by
    simp only [Sm.rd] at h
    cases e1 : env[i]? with
    | none => rw [e1] at h; exact h.elim
    | some l =>
      rw [e1] at h
      have hs := st.at_ i l e1
      match l, h, hs with
      | .ow (.list ds0), h, ⟨v0, ev, ⟨a, xs0, ea, h1, g, ra⟩, n⟩ =>
        subst ea
        refine ⟨_, ev, .inl ⟨rfl, xs0, SqL.of h1⟩, st.eval en.rz h fun v G' H' fr d st' r sg q => ?_⟩
        obtain ⟨G2, st2, r2, sg2⟩ := st'.give r
        cases e2 : (aft x.vs fr d env)[i]? with
        | none => rw [e2] at q; exact q.elim
        | some l2 =>
          rw [e2] at q
          have hs2 := st2.at_ i l2 e2
          match l2, q, hs2, e2 with
          | .ow (.list ds), q, ⟨v2, ev2, ⟨b, xs, eb, h2, g2, rb⟩, n2⟩, e2 =>
            subst eb
            rw [ev] at ev2
            cases ev2
            obtain ⟨ys, rfl, hl, q⟩ := isLst_iff q
            obtain ⟨a2, zs, rfl, h4, q4⟩ := r2.lst'
            exact ⟨a, a2, xs, zs, rfl, rfl, h2, st2.x.gh _ _ h4, by rw [rb.length, q4.length]; exact lim_size hl, en.nx _ _ _ _ (st2.change e2 ev (rb.append q4)) ((sb.trans sg.sub).trans sg2) q⟩
abbrev stpF (C : Nat → Fs) (t : Tg) (b : Sms) (k : Kp) : PyData → Env → (Env → Prop) → Prop := fun x env' q => t.bnd x env' fun env2 => b.rd C env2 { k with nx := q, ct := q, bk := k.nx }
abbrev stpW (C : Nat → Fs) (et : Ex) (b : Sms) (k : Kp) : Env → (Env → Prop) → (Env → Prop) → Prop := fun env' q out => et.rd C k.ex env' fun fr d => ∃ c, truth d = some c ∧ if c = true then b.rd C (aft et.vs fr d env') { k with nx := q, ct := q, bk := k.nx } else out (aft et.vs fr d env')
/-- for -/
theorem foldS_cons {step : PyData → Env → (Env → Prop) → Prop} {x : PyData} {xs : List PyData} {Q : Env → Prop} (h : foldS step (x :: xs) env Q) : step x env fun env' => foldS step xs env' Q := h
theorem sm_for {tg iter : Expr} {body : List Stmt} {t : Tg} {it : It} {b : Sms} {pos : Pos} (hp : PassesOwn (model X.prog X.w) X.A X.env X.xe) (hc : X.calm = true) (hi : PI X tg iter (tI X C E it)) (hg : PG X tg (tgR X.K t)) (hb : PSs X body (tSs X C E b)) (hwk : it.wk = true → t.isTp = true)
    (hs : ∀ x, foldedSetIterable iter X.env x = pure x) : PS X (.For tg iter body [] pos) (tS X C E (.for_ t it b)) :=
  PS.imp (ps_for hp hc hi hg hb hs) fun D σ H ⟨S, G0, H0, Gb, G, env, k, st, sb, en, h⟩ => by
    refine ⟨S, _, env, k.ex, _, st.ste it.vs, en.rz.ext (st.frG_ext it.vs).2 st.so, by simpa only [Sm.rd] using h, fun J lf xs G1 H1 y wk hf => ?_⟩
    -- the state at the loop's start
    have start : ∃ G2, StS X.K S G0 H0 G2 H1 σ (if lf = true then env else frz it.vs env) ∧ Walks it.wk X.K S J xs G2 ∧ Sub G G2 := by
      cases lf with
      | true =>
        rw [if_pos rfl]
        obtain ⟨st2, th, sg⟩ := st.back y
        exact ⟨_, st2, wk _ (.inr ⟨rfl, th⟩), sg⟩
      | false =>
        rw [if_neg Bool.false_ne_true]
        exact ⟨_, st.frozen y, wk _ (.inl rfl), (st.frG_ext it.vs).1.trans y.gg⟩
    obtain ⟨G2, st2, wk2, sg0⟩ := start
    refine ⟨fun i m σ' H' => m + i = xs.length ∧ ∃ G' env', StS X.K S G0 H0 G' H' σ' env' ∧ Sub G2 G' ∧ foldS (fun x env' q => t.bnd x env' fun env2 => b.rd C env2 { k with nx := q, ct := q, bk := k.nx }) (xs.drop i) env' k.nx, ⟨xs.length, by simp, G2, _, st2, .refl G2, by simpa using hf⟩, ?_⟩
    rintro i m σ' H' ⟨hm, G', env', st', sg, hfold⟩
    obtain ⟨wgo, wstop⟩ := wk2 G' H' sg st'.x.gh st'.x.src
    by_cases hi : i < xs.length
    · obtain ⟨go, yld⟩ := wgo i _ (List.getElem?_eq_getElem hi)
      refine .inr ⟨go, fun σ5 H5 => ∃ G5 env5, StS X.K S G0 H0 G5 H5 σ5 env5 ∧ Sub G2 G5 ∧ foldS (fun x env' q => t.bnd x env' fun env2 => b.rd C env2 { k with nx := q, ct := q, bk := k.nx }) (xs.drop (i + 1)) env5 k.nx, fun σ5 H5 n5 => ⟨m - 1, by omega, by omega, n5⟩, fun v H3 yy => ?_⟩
      obtain ⟨G3, x3, rv⟩ := yld v H3 yy
      rw [List.drop_eq_getElem_cons hi] at hfold
      have hst := foldS_cons hfold
      have st3 : StS X.K S G0 H0 G3 H3 σ' env' := st'.later x3
      refine tg_okW (K := X.K) (G := G3) (H := H3) (fun σ' env' => StS X.K S G0 H0 G3 H3 σ' env') x3.gh t (fun j _ σ' env' v' d' r' p => p.setR r') hwk rv st3 hst fun σ4 env4 st4 hst4 => ?_
      exact ⟨S, G0, H0, G2, G3, env4, { k with nx := fun e => foldS (stpF C t b k) (xs.drop (i + 1)) e k.nx, ct := fun e => foldS (stpF C t b k) (xs.drop (i + 1)) e k.nx, bk := k.nx }, st4, sg.trans x3.gg, ⟨fun G6 H6 σ6 env6 st6 s6 h6 => ⟨G6, env6, st6, s6, h6⟩, fun G6 H6 σ6 env6 st6 s6 h6 => en.nx _ _ _ _ st6 ((sb.trans sg0).trans s6) h6, fun G6 H6 σ6 env6 st6 s6 h6 => ⟨G6, env6, st6, s6, h6⟩, en.rt, en.rz⟩, hst4⟩
    · have e0 : i = xs.length := by omega
      subst e0
      rw [List.drop_length] at hfold
      exact .inl ⟨wstop, en.nx _ _ _ _ st' ((sb.trans sg0).trans sg) hfold⟩
/-- while -/
theorem sm_whl {t : Expr} {body : List Stmt} {et : Ex} {b : Sms} {pos : Pos} (hp : PassesOwn (model X.prog X.w) X.A X.env X.xe) (ht : PT X t (tT X C E et)) (hb : PSs X body (tSs X C E b)) : PS X (.While t body [] pos) (tS X C E (.whl et b)) :=
  PS.imp (ps_while hp ht hb) fun D σ H ⟨S, G0, H0, Gb, G, env, k, st, sb, en, h⟩ => by
    simp only [Sm.rd] at h
    obtain ⟨n, h⟩ := h
    refine ⟨fun m σ' H' => ∃ G' env', StS X.K S G0 H0 G' H' σ' env' ∧ Sub Gb G' ∧ loopS (fun env' q out => et.rd C k.ex env' fun fr d => ∃ c, truth d = some c ∧ if c = true then b.rd C (aft et.vs fr d env') { k with nx := q, ct := q, bk := k.nx } else out (aft et.vs fr d env')) m env' k.nx, ⟨n, G, env, st, sb, h⟩, ?_⟩
    rintro m σ' H' ⟨G', env', st', sb', hl⟩
    cases m with
    | zero => exact hl.elim
    | succ m =>
      have hl' : et.rd C k.ex env' fun fr d => ∃ c, truth d = some c ∧ if c = true then b.rd C (aft et.vs fr d env') { k with nx := fun e => loopS _ m e k.nx, ct := fun e => loopS _ m e k.nx, bk := k.nx } else k.nx (aft et.vs fr d env') := hl
      refine st'.test en.rz hl' fun G2 H2 fr d st2 sg ⟨c, hc, q⟩ => ⟨c, hc, ?_⟩
      cases c with
      | true =>
        rw [if_pos rfl] at q ⊢
        refine ⟨fun σ3 H3 => ∃ G3 env3, StS X.K S G0 H0 G3 H3 σ3 env3 ∧ Sub Gb G3 ∧ loopS (fun env' q out => et.rd C k.ex env' fun fr d => ∃ c, truth d = some c ∧ if c = true then b.rd C (aft et.vs fr d env') { k with nx := q, ct := q, bk := k.nx } else out (aft et.vs fr d env')) m env3 k.nx, fun σ3 H3 h3 => ⟨m, by omega, h3⟩, ?_⟩
        exact ⟨S, G0, H0, Gb, G2, _, { k with nx := fun e => loopS (stpW C et b k) m e k.nx, ct := fun e => loopS (stpW C et b k) m e k.nx, bk := k.nx }, st2, sb'.trans sg, ⟨fun G6 H6 σ6 env6 st6 s6 h6 => ⟨G6, env6, st6, s6, h6⟩, fun G6 H6 σ6 env6 st6 s6 h6 => en.nx _ _ _ _ st6 s6 h6, fun G6 H6 σ6 env6 st6 s6 h6 => ⟨G6, env6, st6, s6, h6⟩, en.rt, en.rz⟩, q⟩
      | false =>
        rw [if_neg Bool.false_ne_true] at q ⊢
        exact en.nx _ _ _ _ st2 (sb'.trans sg) q

/-! ### several targets at once -/
/-- values one behind another, the new ones apart from each other -/
def RSs (K : PySem.W.Frag) (σ : L2.St) (env : Env) (H0 G H : Hp) : List V → List (Bool × PyData) → Prop
  | [], [] => True
  | v :: vs, p :: ps => RS K σ env H0 G H p.1 v p.2 ∧ (p.1 = true → ∀ (j : Nat) (w : V) (q : Bool × PyData), vs[j]? = some w → ps[j]? = some q → q.1 = true → w ≠ v) ∧ RSs K σ env H0 G H vs ps
  | _, _ => False
def setAll : List Nat → List V → L2.St → L2.St
  | i :: is, v :: vs, σ => setAll is vs (σ.set i (some v))
  | _, _, σ => σ
theorem RSs.length {K : PySem.W.Frag} : ∀ {vs : List V} {ps : List (Bool × PyData)}, RSs K σ env H0 G H vs ps → vs.length = ps.length
  | [], [], _ => rfl
  | _ :: _, _ :: _, h => by rw [List.length_cons, List.length_cons, RSs.length h.2.2]
  | [], _ :: _, h => h.elim
  | _ :: _, [], h => h.elim
/-- a slot is stored: what else is held stays -/
theorem RS.stored {K : PySem.W.Frag} {i : Nat} {v w : V} {f f' : Bool} {d d' : PyData} (h : RS K σ env H0 G H f v d) (r : RS K σ env H0 G H f' w d') (ne : f = true → f' = true → v ≠ w) : RS K (σ.set i (some w)) (env.set i (put f' d')) H0 G H f v d := by
  cases f with
  | false => exact h
  | true =>
    simp only [RS, if_true] at h ⊢
    refine ⟨h.1, fun a ea => ⟨(h.2 a ea).1, fun j d2 e1 e2 => ?_⟩⟩
    by_cases hj : i = j
    · subst hj
      have hl : i < σ.length := by
        by_cases hl : i < σ.length
        · exact hl
        · rw [List.getElem?_eq_none (by simpa using hl)] at e2; cases e2
      rw [List.getElem?_set_self hl] at e2
      have ew : w = v := Option.some.inj (Option.some.inj e2)
      have hl2 : i < env.length := by
        by_cases hl2 : i < env.length
        · exact hl2
        · rw [List.getElem?_eq_none (by simpa using hl2)] at e1; cases e1
      rw [List.getElem?_set_self hl2] at e1
      cases f' with
      | false => simp [put] at e1
      | true => exact ne rfl rfl ew.symm
    · rw [List.getElem?_set_ne hj] at e1 e2
      exact (h.2 a ea).2 j d2 e1 e2
theorem RSs.stored {K : PySem.W.Frag} {i : Nat} {w : V} {f' : Bool} {d' : PyData} (r : RS K σ env H0 G H f' w d') : ∀ {vs : List V} {ps : List (Bool × PyData)}, RSs K σ env H0 G H vs ps → (f' = true → ∀ (j : Nat) (u : V) (q : Bool × PyData), vs[j]? = some u → ps[j]? = some q → q.1 = true → u ≠ w) → RSs K (σ.set i (some w)) (env.set i (put f' d')) H0 G H vs ps
  | [], [], _, _ => trivial
  | v :: vs, p :: ps, h, ne => ⟨h.1.stored r fun a b => ne b 0 v p rfl rfl a, h.2.1, RSs.stored r h.2.2 fun a j u q e1 e2 => ne a (j + 1) u q (by simpa using e1) (by simpa using e2)⟩
  | [], _ :: _, h, _ => h.elim
  | _ :: _, [], h, _ => h.elim
theorem StS.putAll : ∀ {is : List Nat} {vs : List V} {ps : List (Bool × PyData)} {σ : L2.St} {env : Env}, StS X.K S G0 H0 G H σ env → RSs X.K σ env H0 G H vs ps → StS X.K S G0 H0 G H (setAll is vs σ) (putAll is ps env)
  | [], vs, ps, σ, env, st, h => by
    unfold setAll DL.putAll
    exact st
  | i :: is, [], [], σ, env, st, h => by
    unfold setAll DL.putAll
    exact st
  | i :: is, v :: vs, p :: ps, σ, env, st, h => by
    unfold setAll DL.putAll
    exact StS.putAll (st.put h.1) (RSs.stored h.1 h.2.2 h.2.1)
  | i :: is, [], _ :: _, σ, env, st, h => h.elim
  | i :: is, _ :: _, [], σ, env, st, h => h.elim
theorem aft_ow {vs : List Nat} {f : Bool} {d d' : PyData} {i : Nat} (h : (aft vs f d env)[i]? = some (Sl.ow d')) : env[i]? = some (Sl.ow d') := by
  unfold aft at h
  split at h
  · exact h
  · obtain ⟨s0, e0, z⟩ := frz_get h
    obtain ⟨rfl, _⟩ := frz1_ow z.symm
    exact e0
/-- what several expressions leave as it is -/
structure StF (S : Sx) (σ : L2.St) (env env' : Env) (G H G' H' : Hp) (vs : List V) (fs : List (Bool × PyData)) : Prop where
  sub : Sub G G'
  kp : ∀ a o, H a = some o → nsrc S a → H' a = some o
  nw : ∀ a, (H a).isSome = true → G a = none → (∀ (i : Nat) (d : PyData), env[i]? = some (Sl.ow d) → σ[i]? ≠ some (some (.ref a))) → G' a = none
  ow : ∀ (i : Nat) (d : PyData), env'[i]? = some (Sl.ow d) → env[i]? = some (Sl.ow d)
  new : ∀ (j : Nat) (w : V) (q : Bool × PyData), vs[j]? = some w → fs[j]? = some q → q.1 = true → ∀ a, w = .ref a → H a = none
def tF (X : Cx) (C : Nat → Fs) (E : XK) (es : Exs) : TA := fun σ H Qh => ∃ S G0 H0 G env Ep Q, StS X.K S G0 H0 G H σ env ∧ Rz X.mg S G0 H0 Ep E ∧ es.rdf C Ep env Q ∧ ∀ vs G' H' fs env', StS X.K S G0 H0 G' H' σ env' → RSs X.K σ env' H0 G' H' vs fs →
  StF S σ env env' G H G' H' vs fs → Q fs env' → Qh vs H'
theorem sf_nil : PA X [] (tF X C E .nil) := PA.imp pa_nil fun σ H Qh ⟨S, G0, H0, G, env, Ep, Q, st, rz, h, k⟩ =>
  k [] G H [] env st trivial ⟨.refl G, fun _ _ e _ => e, fun _ _ e _ => e, fun _ _ e => e, fun j w q e => by simp at e⟩ (by simpa only [Exs.rdf] using h)
theorem sf_cons {e : Expr} {es : List Expr} {x : Ex} {xs : Exs} (ha : PE X e (tE X C E x)) (hr : PA X es (tF X C E xs)) (ns : ∀ v p, e ≠ .Starred v p) : PA X (e :: es) (tF X C E (.cons x xs)) :=
  PA.imp (pa_cons ha hr (star_of ns)) fun σ H Qh ⟨S, G0, H0, G, env, Ep, Q, st, rz, h, k⟩ =>
    st.eval rz (by simpa only [Exs.rdf] using h) fun v G1 H1 f d st1 r1 p1 q1 => by
      refine ⟨S, G0, H0, G1, aft x.vs f d env, Ep, _, st1, rz, q1, fun vs G2 H2 fs env2 st2 rs p2 q2 => ?_⟩
      have some1 : ∀ a, (H a).isSome = true → nsrc S a → (H1 a).isSome = true := fun a hs ns => by
        obtain ⟨o, ho⟩ := Option.isSome_iff_exists.mp hs
        rw [p1.kp a o ho ns]; rfl
      have rv : RS X.K σ env2 H0 G2 H2 f v d := by
        cases f with
        | false => simp only [RS, Bool.false_eq_true, if_false] at r1 ⊢; exact r1.mono p2.sub
        | true =>
          simp only [RS, if_true] at r1 ⊢
          refine ⟨r1.1.move p2.sub (fun a o ea ho => p2.kp a o ho (nsrc_fresh st.so (r1.2 a ea).1)) (fun a ea ga => ?_), fun a ea => ⟨(r1.2 a ea).1, fun i d' e1 => (r1.2 a ea).2 i d' (p2.ow i d' e1)⟩⟩
          obtain ⟨a', o', ea', ho', _⟩ := r1.1.at
          rw [ea] at ea'; cases ea'
          refine p2.nw a (by rw [ho']; rfl) ga fun i d' e1 => ?_
          have z := (r1.2 a ea).2 i d' e1
          rw [ea] at z
          exact z
      refine k (v :: vs) G2 H2 ((f, d) :: fs) env2 st2 ⟨rv, fun hf j w q ew eq hq => ?_, rs⟩ ⟨p1.sub.trans p2.sub, fun a o ho ns => p2.kp a o (p1.kp a o ho ns) ns, fun a hs ga no => ?_, fun i d' e1 => aft_ow (p2.ow i d' e1), fun j w q ew eq hq a ea => ?_⟩ q2
      · rintro rfl
        have hf' : f = true := hf
        subst hf'
        simp only [RS, if_true] at r1
        obtain ⟨a, o, ea, ho, _⟩ := r1.1.at
        have z := p2.new j w q ew eq hq a ea
        rw [ho] at z; cases z
      · by_cases ns : nsrc S a
        · exact p2.nw a (some1 a hs ns) (p1.nw a hs ga no) fun i d' e1 => no i d' (aft_ow e1)
        · exact (st2.x.src.isSome ns).2
      · cases j with
        | zero =>
          have e1 : v = w := by simpa using ew
          have e2 : (f, d) = q := by simpa using eq
          subst e1 e2
          exact p1.new hq a ea
        | succ j =>
          have z := p2.new j w q (by simpa using ew) (by simpa using eq) hq a ea
          by_cases ns : nsrc S a
          · cases hz : H a with
            | none => rfl
            | some o => rw [p1.kp a o hz ns] at z; cases z
          · have := (st1.x.src.isSome ns).1
            rw [z] at this; cases this
/-- a, b = e1, e2 : by swapped stores -/
theorem sm_par2 {st : Stmt} {i j : Nat} {xs : Exs} (h : PS X st (tPar i j (tF X C E xs))) : PS X st (tS X C E (.par [i, j] xs)) :=
  PS.imp h fun D σ H ⟨S, G0, H0, Gb, G, env, k, st, sb, en, h⟩ => by
    refine ⟨S, G0, H0, G, env, k.ex, _, st, en.rz, by simpa only [Sm.rd] using h, fun vs G' H' fs env' st' rs p q => ?_⟩
    obtain ⟨hl, q⟩ := q
    have e := rs.length
    rw [hl] at e
    match vs, e, rs with
    | [v, w], _, rs => exact ⟨v, w, rfl, en.nx _ _ _ _ (st'.putAll (is := [i, j]) rs) (sb.trans p.sub) q⟩
theorem sm_par3 {st : Stmt} {i j l : Nat} {xs : Exs} (h : PS X st (tPar3 i j l (tF X C E xs))) : PS X st (tS X C E (.par [i, j, l] xs)) :=
  PS.imp h fun D σ H ⟨S, G0, H0, Gb, G, env, k, st, sb, en, h⟩ => by
    refine ⟨S, G0, H0, G, env, k.ex, _, st, en.rz, by simpa only [Sm.rd] using h, fun vs G' H' fs env' st' rs p q => ?_⟩
    obtain ⟨hl, q⟩ := q
    have e := rs.length
    rw [hl] at e
    match vs, e, rs with
    | [u, v, w], _, rs => exact ⟨u, v, w, rfl, en.nx _ _ _ _ (st'.putAll (is := [i, j, l]) rs) (sb.trans p.sub) q⟩
/-- targets that are names -/
def nmsR : List Nat → TGs
  | [] => gNil
  | i :: r => gCons (gName i) (nmsR r)
theorem nms_ok : ∀ {is : List Nat} {vs : List V} {σ : L2.St} {H : Hp} {Q : L2.St → Hp → Prop}, vs.length = is.length → Q (setAll is vs σ) H → nmsR is vs σ H Q
  | [], [], σ, H, Q, _, h => ⟨rfl, h⟩
  | i :: is, v :: vs, σ, H, Q, e, h => ⟨v, vs, rfl, nms_ok (by simpa using e) h⟩
theorem RSs.later {K : PySem.W.Frag} {p : Addr} {o : HO} (n : H p = none) : ∀ {vs : List V} {fs : List (Bool × PyData)}, RSs K σ env H0 G H vs fs → RSs K σ env H0 G (upd H p o) vs fs
  | [], [], h => trivial
  | v :: vs, q :: fs, h => by
    refine ⟨?_, h.2.1, RSs.later n h.2.2⟩
    have h1 := h.1
    unfold RS at h1 ⊢
    split
    · rename_i hq
      rw [if_pos hq] at h1
      exact ⟨h1.1.move (.refl G) (fun a u _ hu => by rw [upd_ne (ne_of_none hu n)]; exact hu) (fun _ _ g => g), h1.2⟩
    · rename_i hq
      rw [if_neg hq] at h1
      exact h1
  | [], _ :: _, h => h.elim
  | _ :: _, [], h => h.elim
/-- a, b = e1, e2 : by a tuple -/
theorem sm_parT {st : Stmt} {is : List Nat} {xs : Exs} (hsz : is.length ≤ 1000) (h : PS X st (tAsg (tTup (tF X C E xs)) (gTup X.K is.length (nmsR is)))) : PS X st (tS X C E (.par is xs)) :=
  PS.imp h fun D σ H ⟨S, G0, H0, Gb, G, env, k, st, sb, en, h⟩ => by
    refine ⟨S, G0, H0, G, env, k.ex, _, st, en.rz, by simpa only [Sm.rd] using h, fun vs G' H' fs env' st' rs p q => ?_⟩
    obtain ⟨hl, q⟩ := q
    have e := rs.length
    rw [hl] at e
    refine ⟨by rw [e, sizeLine_eq]; omega, fun a ha => ⟨a, vs, rfl, SqT.of upd_same, e, nms_ok e ?_⟩⟩
    exact en.nx _ _ _ _ ((st'.later (.newO st'.x.gh st'.x.src ha)).putAll (rs.later ha)) (sb.trans p.sub) q
end
end DL
set_option Elab.async false
set_option linter.all false
set_option maxRecDepth 100000
set_option maxHeartbeats 4000000
/-! D9: the row's own syntax into mine. -/
namespace DL
open PySem PySem.Spec PyProof.Rows L2

structure Tc where
  N : List Str
  sc : Scope
  ft : List (Str × Nat)
  gl : List (Str × PyData) := []
def nix : List Str → Str → Option Nat
  | [], _ => none
  | y :: r, x => if y = x then some 0 else (nix r x).map (· + 1)
theorem nix_get : ∀ {N : List Str} {x : Str} {i : Nat}, nix N x = some i → N[i]? = some x
  | [], _, _, h => by cases h
  | y :: r, x, i, h => by
    unfold nix at h
    split at h
    · cases h; rename_i e; subst e; rfl
    · simp only [Option.map_eq_some_iff] at h
      obtain ⟨j, h1, rfl⟩ := h
      simpa using nix_get h1
/-- a def's number -/
def fnIx : List (Str × Nat) → Str → Option Nat
  | [], _ => none
  | p :: r, x => if p.1 = x then some p.2 else fnIx r x
theorem fnIx_get : ∀ {N : List (Str × Nat)} {x : Str} {j : Nat}, fnIx N x = some j → (x, j) ∈ N
  | [], _, _, h => by cases h
  | p :: r, x, j, h => by
    unfold fnIx at h
    split at h
    · cases h; rename_i e; subst e; exact List.mem_cons_self ..
    · exact List.mem_cons_of_mem _ (fnIx_get h)
def Tc.kind (c : Tc) (x : Str) : Option NameKind := c.sc.names.lookup x
def visK : Option NameKind → Bool
  | some .local => true | some .cell => true | some .free => true | _ => false
def locK : Option NameKind → Bool
  | some .local => true | some .cell => true | _ => false
def glK : Option NameKind → Bool
  | some .globalImplicit => true | _ => false
def trV (c : Tc) (x : Str) : Option Nat := if visK (c.kind x) && !(x == ("__debug__" : Str)) && !(x == ("__classdict__" : Str)) then nix c.N x else none
def trC : Const → Option PyData
  | .none => some .none | .bool b => some (.bool b) | .int i => some (.int i) | .str x => some (.str x) | _ => none
def trOp : Operator → Option Bop
  | .Add => some .add | .Sub => some .sub | .Mult => some .mul | .FloorDiv => some .fdiv | .Mod => some .mod | .Pow => some .pow | .LShift => some .shl | .RShift => some .shr
  | .BitAnd => some .band | .BitOr => some .bor | .BitXor => some .bxor | _ => none
def trCop : CmpOp → Cop
  | .Eq => .eq | .NotEq => .ne | .Lt => .lt | .LtE => .le | .Gt => .gt | .GtE => .ge | .Is => .isnt true | .IsNot => .isnt false | .In => .in_ true | .NotIn => .in_ false
theorem trCop_is (op : CmpOp) : CmpIs op (trCop op) := by cases op <;> constructor
def mapX (f : Expr → Option Ex) : List Expr → Option Exs
  | [] => some .nil
  | e :: r => match f e, mapX f r with
    | some x, some xs => some (.cons x xs)
    | _, _ => none
def isVar : Ex → Bool
  | .var _ => true | _ => false
/-- a call's arguments -/
def mapA (v : Str → Option Nat) (f : Expr → Option Ex) : List Expr → Option Exs
  | [] => some .nil
  | e :: r => match mapA v f r with
    | none => none
    | some xs => match e with
      | .Name x p => match v x with
        | some i => some (.cons (.var i) xs)
        | none => match f (.Name x p) with
          | some y => if isVar y then none else some (.cons y xs)
          | none => none
      | e => match f e with
        | some y => if isVar y then none else some (.cons y xs)
        | none => none
def trB (f : Expr → Option Ex) (mk : Ex → Ex → Ex) : List Expr → Option Ex
  | [] => none
  | [a] => f a
  | a :: b :: r => match f a, trB f mk (b :: r) with
    | some x, some y => some (mk x y)
    | _, _ => none
def mkB : BoolOp → Ex → Ex → Ex
  | .And => .and_ | .Or => .or_
def trCmp (f : Expr → Option Ex) (a : Expr) : List CmpOp → List Expr → Option Ex
  | [op], [b] => match behindInMarks op b, f a, f b with
    | false, some x, some y => some (.cmp (trCop op) x y)
    | _, _, _ => none
  | [op, op'], [b, d] => match lastMarks [op, op'] [b, d], f a, f b, f d with
    | false, some x, some y, some z => some (.cmp2 (trCop op) (trCop op') x y z)
    | _, _, _, _ => none
  | _, _ => none
def biOf (x : Str) : Option Bi :=
  if x = "len" then some .len else if x = "abs" then some .abs else if x = "max" then some .max else if x = "min" then some .min else if x = "int" then some .int
  else if x = "tuple" then some .tuple else if x = "list" then some .list else if x = "sum" then some .sum else if x = "repr" then some .repr else if x = "sorted" then some .sorted
  else if x = "all" then some .all else if x = "any" then some .any else none
/-- the built-ins that are named -/
def blts : List Str := ["len", "abs", "max", "min", "int", "tuple", "list", "sum", "range", "repr", "sorted", "all", "any", "isinstance", "zip", "enumerate", "bool", "str", "dict"]
def tyOf (x : Str) : Option Ty :=
  if x = "tuple" then some .tup else if x = "int" then some .int else if x = "bool" then some .bool else if x = "str" then some .str else if x = "list" then some .list else if x = "dict" then some .dict else none
def isaOf (c : Tc) (g : Expr → Option Ex) (a : Expr) : List Expr → Option Ex
  | [.Name t _] => if glK (c.kind t) then (match tyOf t, g a with
    | some T, some x => some (.isa x T)
    | _, _ => none) else none
  | _ => none
def nameOf (c : Tc) (x : Str) : Option Ex := if glK (c.kind x) && !(x == ("__debug__" : Str)) then (c.gl.lookup x).map .lit else (trV c x).map .var
def isM1 : Expr → Bool
  | .UnaryOp .USub (.Constant (.int 1) _ _) _ => true
  | _ => false
def isTupE : Expr → Bool
  | .Tuple .. => true | _ => false
def kwOf : List Keyword → Bool
  | [⟨some k, .Constant (.bool true) _ _, _⟩] => k == ("strict" : Str)
  | _ => false
def isSet : Expr → Bool
  | .Set .. => true | _ => false
def isBare : Expr → Bool
  | .Call (.Name _ _) [] [] _ => true | _ => false
/-- methods with arguments -/
def mtOf (m : Str) : Option Mt := if m = ("index" : Str) then some .index else if m = ("get" : Str) then some .get else none
theorem mtOf_ok {m : Str} {t : Mt} (h : mtOf m = some t) : m = mtName t ∧ t ≠ .bits := by
  unfold mtOf at h
  split at h
  · cases h; exact ⟨by assumption, by intro z; cases z⟩
  · split at h
    · cases h; exact ⟨by assumption, by intro z; cases z⟩
    · cases h
def ownOf (N : List Str) (sc : Scope) : List (Str × Nat) := sc.names.filterMap fun p => if locK (some p.2) then (nix N p.1).map fun i => (p.1, i) else none
def trO (f : Expr → Option Ex) : Option Expr → Option Exo
  | none => some .no
  | some e => (f e).map .so
def mapT (f : Expr → Option Tg) : List Expr → Option Tgs
  | [] => some .nil
  | e :: r => match f e, mapT f r with
    | some x, some xs => some (.cons x xs)
    | _, _ => none
def trTg : Nat → Tc → Expr → Option Tg
  | 0, _, _ => none
  | n + 1, c, e => match e with
    | .Name x _ => if locK (c.kind x) then (nix c.N x).map .nm else none
    | .Tuple es _ _ => (mapT (trTg n c) es).map .tp
    | _ => none
def subB (a b : List Nat) : Bool := a.all fun i => b.contains i
mutual
def trE : Nat → Tc → Expr → Option Ex
  | 0, _, _ => none
  | n + 1, c, e => match e with
    | .Name x _ => nameOf c x
    | .Dict [] [] _ => some .dic0
    | .Constant k _ _ => (trC k).map .lit
    | .Tuple es _ _ => (mapX (trE n c) es).map .tup
    | .List es _ => (mapX (trE n c) es).map .lst
    | .BinOp a op b _ => match trOp op, trE n c a, trE n c b with
      | some o, some x, some y => some (.bin o x y)
      | _, _, _ => none
    | .UnaryOp .USub a _ => (trE n c a).map .neg
    | .UnaryOp .Not a _ => (trE n c a).map .not_
    | .BoolOp op vs _ => trB (trE n c) (mkB op) vs
    | .Compare a ops bs _ => trCmp (trE n c) a ops bs
    | .IfExp t a b _ => match trT n c t, trE n c a, trE n c b with
      | some z, some x, some y => some (.ite z x y)
      | _, _, _ => none
    | .Call (.Name f _) (a :: es) [] _ => if glK (c.kind f) then
        match biOf f with
        | some b => (mapX (trE n c) (a :: es)).map (.bi b)
        | none => if f = ("isinstance" : Str) then isaOf c (trE n c) a es else match fnIx c.ft f, mapA (trV c) (trE n c) (a :: es) with
          | some j, some xs => if f == ("__debug__" : Str) then none else some (.call j xs)
          | _, _ => none
      else none
    | .Call (.Attribute o m ap) [] [] p => if m = ("bit_length" : Str) && !isBare o && ap.endLine == p.line then (trE n c o).map fun x => .mth .bits x .nil else none
    | .Call (.Attribute o m ap) (a :: es) [] p => match mtOf m, trE n c o, mapX (trE n c) (a :: es) with
      | some t, some x, some xs => if !isBare o && (ap.endLine == p.line) && decide ((a :: es).length < 20) then some (.mth t x xs) else none
      | _, _, _ => none
    | .Subscript o i _ => match i with
      | .Slice lo hi none _ => match trE n c o, trO (trE n c) lo, trO (trE n c) hi with
        | some x, some l, some h => some (.slc x l h)
        | _, _, _ => none
      | .Slice none none (some st) _ => if isM1 st then (trE n c o).map .rev else none
      | .Slice _ _ (some _) _ => none
      | i => match trE n c o, trE n c i with
        | some x, some y => some (.ix x y)
        | _, _ => none
    | .ListComp elt [g] scope _ =>
      if blkC c.N c.sc scope (ownOf c.N scope) && decide (g.is_async = 0) && !isSet g.iter && decide (g.ifs.length ≤ 1) then
        match trI n c (isTupE g.target) g.iter, trTg n { c with sc := scope } g.target, mapX (trT n { c with sc := scope }) g.ifs, trE n { c with sc := scope } elt with
        | some it, some t, some cs, some x => if subB t.sl ((ownOf c.N scope).map (·.2)) then some (.comp x t it cs ((ownOf c.N scope).map (·.2))) else none
        | _, _, _, _ => none
      else none
    | _ => none
def trT : Nat → Tc → Expr → Option Ex
  | 0, _, _ => none
  | n + 1, c, e => match e with
    | .UnaryOp .Not a _ => (trT n c a).map .not_
    | .BoolOp op vs _ => trB (trT n c) (mkB op) vs
    | .Compare a ops bs _ => trCmp (trE n c) a ops bs
    | .IfExp .. => none
    | e => trE n c e
def trI : Nat → Tc → Bool → Expr → Option It
  | 0, _, _, _ => none
  | n + 1, c, tt, e => match e with
    | .Call (.Name f _) [a] [] _ => if f = ("range" : Str) then (if glK (c.kind f) then (trE n c a).map .range1 else none)
      else if f = ("enumerate" : Str) then (if glK (c.kind f) && tt then (trE n c a).map .enum else none) else (trE n c e).map .seq
    | .Call (.Name f _) [a, b] [] _ => if f = ("range" : Str) then (if glK (c.kind f) then (match trE n c a, trE n c b with
      | some x, some y => some (.range2 x y)
      | _, _ => none) else none)
      else if f = ("zip" : Str) then (if glK (c.kind f) && tt then (match trE n c a, trE n c b with
      | some x, some y => some (.zip x y)
      | _, _ => none) else none) else (trE n c e).map .seq
    | .Call (.Name f _) [a, b] (k :: ks) _ => if f = ("zip" : Str) && glK (c.kind f) && tt && kwOf (k :: ks) then (match trE n c a, trE n c b with
      | some x, some y => some (.zips x y)
      | _, _ => none) else none
    | e => (trE n c e).map .seq
end
/-- what is unpacked at once has a tuple's target -/
theorem trI_wk : ∀ {n : Nat} {c : Tc} {tt : Bool} {e : Expr} {it : It}, trI n c tt e = some it → it.wk = true → tt = true
  | 0, _, _, _, _, h, _ => by simp [trI] at h
  | n + 1, c, tt, e, it, h, w => by
    have seq : (trE n c e).map It.seq = some it → tt = true := fun h => by
      simp only [Option.map_eq_some_iff] at h
      obtain ⟨y, _, rfl⟩ := h
      cases w
    simp only [trI] at h
    split at h
    · split at h
      · split at h
        · simp only [Option.map_eq_some_iff] at h
          obtain ⟨y, _, rfl⟩ := h
          cases w
        · cases h
      · split at h
        · split at h
          · rename_i hg
            simp only [Bool.and_eq_true] at hg
            exact hg.2
          · cases h
        · exact seq h
    · split at h
      · split at h
        · split at h
          · cases h; cases w
          · cases h
        · cases h
      · split at h
        · split at h
          · rename_i hg
            simp only [Bool.and_eq_true] at hg
            exact hg.2
          · cases h
        · exact seq h
    · split at h
      · rename_i hg
        simp only [Bool.and_eq_true] at hg
        exact hg.1.2
      · cases h
    · exact seq h
theorem trTg_tp : ∀ {n : Nat} {c : Tc} {tg : Expr} {t : Tg}, trTg n c tg = some t → isTupE tg = true → t.isTp = true
  | 0, _, _, _, h, _ => by simp [trTg] at h
  | n + 1, c, tg, t, h, w => by
    cases tg with
    | Tuple es k p =>
      simp only [trTg, Option.map_eq_some_iff] at h
      obtain ⟨u, _, rfl⟩ := h
      rfl
    | _ => exact (Bool.false_ne_true w).elim
end DL
set_option Elab.async false
set_option linter.all false
set_option maxRecDepth 100000
set_option maxHeartbeats 4000000
/-! D10: the translation of expressions is sound. -/
namespace DL
open PySem PySem.Spec PyProof.Rows L2

/-- the module's name x is the constant d -/
def GlV (mg : Str → Option Value) (x : Str) : PyData → Prop
  | .int i => ∃ t, mg x = some (.int i t)
  | .str z => ∃ t, mg x = some (.str z t)
  | _ => False
/-- a context that the translation fits -/
structure Cok (X : Cx) (c : Tc) (C : Nat → Fs) (E : XK) (lv : Nat) : Prop where
  N : X.N = c.N
  nd : c.N.Nodup
  sk : X.env.scope.kind = .function
  lk : ∀ x k, c.sc.names.lookup x = some k → k ≠ .free → X.env.scope.names.lookup x = some k
  fr : ∀ x, c.sc.names.lookup x = some .free → X.env.scope.names.lookup x = some .free ∨ X.env.scope.names.lookup x = some .cell
  fn : ∀ x, c.sc.names.lookup x = some .cell → X.fn x = true
  calm : X.calm = true
  room : Room lv X.A
  gd : Calm X.A
  pass : Passes (L2.CX X.prog X.w) X E
  fns : ∀ j x, (x, j) ∈ c.ft → FnAt X lv x (C j)
  bi : ∀ x ∈ blts, X.mg x = none
  sy : SysD X.base
  gls : ∀ x d, c.gl.lookup x = some d → GlV X.mg x d

section
variable {X : Cx} {c : Tc} {C : Nat → Fs} {E : XK} {lv : Nat}
theorem Cok.hu (k : Cok X c C E lv) : X.A.units + 65 < cLine := by have := k.room.un; omega
theorem vis_of (k : Cok X c C E lv) {x : Str} (h : visK (c.kind x) = true) : Vis X.env.scope x := by
  unfold Tc.kind at h
  cases e : c.sc.names.lookup x with
  | none => rw [e] at h; cases h
  | some q =>
    rw [e] at h
    cases q with
    | «local» => exact .inl (k.lk x _ e (by decide))
    | cell => exact .inr (.inl (k.lk x _ e (by decide)))
    | free =>
      rcases k.fr x e with z | z
      · exact .inr (.inr z)
      · exact .inr (.inl z)
    | globalExplicit => cases h
    | globalImplicit => cases h
theorem loc_of (k : Cok X c C E lv) {x : Str} (h : locK (c.kind x) = true) : Loc X.env.scope x ∧ (X.fn x = true ∨ X.env.scope.names.lookup x = some .local) := by
  unfold Tc.kind at h
  cases e : c.sc.names.lookup x with
  | none => rw [e] at h; cases h
  | some q =>
    rw [e] at h
    cases q with
    | «local» => exact ⟨.inl (k.lk x _ e (by decide)), .inr (k.lk x _ e (by decide))⟩
    | cell => exact ⟨.inr (k.lk x _ e (by decide)), .inl (k.fn x e)⟩
    | free => cases h
    | globalExplicit => cases h
    | globalImplicit => cases h
theorem gl_of (k : Cok X c C E lv) {x : Str} (h : glK (c.kind x) = true) : Gl X x := by
  unfold Tc.kind at h
  cases e : c.sc.names.lookup x with
  | none => rw [e] at h; cases h
  | some q =>
    rw [e] at h
    cases q with
    | globalImplicit => exact k.lk x _ e (by decide)
    | «local» => cases h
    | cell => cases h
    | free => cases h
    | globalExplicit => cases h
theorem trV_ok (k : Cok X c C E lv) {x : Str} {i : Nat} {pos : Pos} (h : trV c x = some i) : PE X (.Name x pos) (tVar i) ∧ PE X (.Name x pos) (tE X C E (.var i)) := by
  unfold trV at h
  split at h
  · rename_i hc
    simp only [Bool.and_eq_true, Bool.not_eq_true'] at hc
    have hN : X.N[i]? = some x := by rw [k.N]; exact nix_get h
    exact ⟨pe_var hN (vis_of k hc.1.1) hc.1.2 hc.2, sd_var hN (vis_of k hc.1.1) hc.1.2 hc.2⟩
  · cases h
theorem name_ok (k : Cok X c C E lv) {x : Str} {e : Ex} {pos : Pos} (h : nameOf c x = some e) : PE X (.Name x pos) (tE X C E e) := by
  unfold nameOf at h
  split at h
  · rename_i hc
    simp only [Bool.and_eq_true, Bool.not_eq_true'] at hc
    simp only [Option.map_eq_some_iff] at h
    obtain ⟨d, hd, rfl⟩ := h
    have g := k.gls x d hd
    cases d with
    | int i => obtain ⟨t, ht⟩ := g; exact sd_lit (pe_glob (v := .int i) (gl_of k hc.1) ht ⟨t, rfl⟩ hc.2) fun G => .int i
    | str z => obtain ⟨t, ht⟩ := g; exact sd_lit (pe_glob (v := .str z) (gl_of k hc.1) ht ⟨t, rfl⟩ hc.2) fun G => .str z
    | none => exact g.elim
    | bool b => exact g.elim
    | list _ => exact g.elim
    | tuple _ => exact g.elim
    | dict _ => exact g.elim
  · simp only [Option.map_eq_some_iff] at h
    obtain ⟨i, hi, rfl⟩ := h
    exact (trV_ok k hi).2
theorem nostar {n : Nat} {v : Expr} {p : Pos} : trE n c (.Starred v p) = none := by
  cases n <;> simp [trE]
theorem ns_of {n : Nat} {e : Expr} {x : Ex} (h : trE n c e = some x) : ∀ v p, e ≠ .Starred v p := fun v p z => by
  rw [z, nostar] at h; cases h
theorem mapX_cons {f : Expr → Option Ex} {e : Expr} {r : List Expr} {xs : Exs} (h : mapX f (e :: r) = some xs) : ∃ y ys, f e = some y ∧ mapX f r = some ys ∧ xs = .cons y ys := by
  simp only [mapX] at h
  split at h
  · rename_i y ys h1 h2; cases h; exact ⟨y, ys, h1, h2, rfl⟩
  · cases h
theorem plain_of {f : Expr → Option Ex} (hn : ∀ e x, f e = some x → ∀ v p, e ≠ .Starred v p) : ∀ {es : List Expr} {xs : Exs} {pos : Pos} {env : PySem.Env}, mapX f es = some xs → (backTo pos (starEach es env)).any (·.1) = false
  | [], xs, pos, env, h => rfl
  | e :: r, xs, pos, env, h => by
    obtain ⟨y, ys, h1, h2, rfl⟩ := mapX_cons h
    rw [star_of (hn e y h1)]
    show (false || (backTo pos (starEach r env)).any (·.1)) = false
    rw [plain_of hn h2]; rfl
theorem mapX_A {f : Expr → Option Ex} (hf : ∀ e x, f e = some x → PE X e (tE X C E x)) (hn : ∀ e x, f e = some x → ∀ v p, e ≠ .Starred v p) : ∀ {es : List Expr} {xs : Exs}, mapX f es = some xs → PA X es (tA X C E xs)
  | [], xs, h => by cases h; exact sa_nil
  | e :: r, xs, h => by
    obtain ⟨y, ys, h1, h2, rfl⟩ := mapX_cons h
    exact sa_cons (hf e y h1) (mapX_A hf hn h2) (hn e y h1)
theorem mapX_F {f : Expr → Option Ex} (hf : ∀ e x, f e = some x → PE X e (tE X C E x)) (hn : ∀ e x, f e = some x → ∀ v p, e ≠ .Starred v p) : ∀ {es : List Expr} {xs : Exs}, mapX f es = some xs → PA X es (tF X C E xs)
  | [], xs, h => by cases h; exact sf_nil
  | e :: r, xs, h => by
    obtain ⟨y, ys, h1, h2, rfl⟩ := mapX_cons h
    exact sf_cons (hf e y h1) (mapX_F hf hn h2) (hn e y h1)
theorem mapA_ok {v : Str → Option Nat} {f : Expr → Option Ex} (hf : ∀ e x, f e = some x → PE X e (tE X C E x)) (hv : ∀ x i p, v x = some i → PE X (.Name x p) (tVar i)) (hn : ∀ e x, f e = some x → ∀ v p, e ≠ .Starred v p) : ∀ {es : List Expr} {xs : Exs}, mapA v f es = some xs → PA X es (tAa X C E xs) ∧ ∀ {pos : Pos} {env : PySem.Env}, (backTo pos (starEach es env)).any (·.1) = false
  | [], xs, h => by cases h; exact ⟨saa_nil, rfl⟩
  | e :: r, xs, h => by
    unfold mapA at h
    split at h
    · cases h
    · rename_i ys hr
      obtain ⟨ih, ih2⟩ := mapA_ok hf hv hn hr
      have fin : ∀ (ns : ∀ v p, e ≠ .Starred v p) {pos : Pos} {env : PySem.Env}, (backTo pos (starEach (e :: r) env)).any (·.1) = false := fun ns {pos env} => by
        rw [star_of ns]
        show (false || (backTo pos (starEach r env)).any (·.1)) = false
        rw [ih2]; rfl
      split at h
      · rename_i x p
        split at h
        · rename_i i hi
          cases h
          exact ⟨saa_var (hv x i p hi) ih (fun _ _ z => by cases z), fin (fun _ _ z => by cases z)⟩
        · split at h
          · rename_i y hy
            split at h
            · cases h
            · rename_i hvar
              cases h
              exact ⟨saa_cons (hf _ y hy) (fun i z => by subst z; exact hvar rfl) ih (hn _ y hy), fin (hn _ y hy)⟩
          · cases h
      · split at h
        · rename_i y hy
          split at h
          · cases h
          · rename_i hvar
            cases h
            exact ⟨saa_cons (hf e y hy) (fun i z => by subst z; exact hvar rfl) ih (hn e y hy), fin (hn e y hy)⟩
        · cases h
theorem trB_cons {f : Expr → Option Ex} {mk : Ex → Ex → Ex} {a b : Expr} {r : List Expr} {x : Ex} (h : trB f mk (a :: b :: r) = some x) : ∃ y z, f a = some y ∧ trB f mk (b :: r) = some z ∧ x = mk y z := by
  simp only [trB] at h
  split at h
  · rename_i y z h1 h2; cases h; exact ⟨y, z, h1, h2, rfl⟩
  · cases h
theorem trB_E {f : Expr → Option Ex} (hf : ∀ e x, f e = some x → PE X e (tE X C E x)) {op : BoolOp} {pos : Pos} : ∀ {vs : List Expr} {x : Ex}, trB f (mkB op) vs = some x → PE X (.BoolOp op vs pos) (tE X C E x)
  | [], x, h => by cases h
  | [a], x, h => sd_one (hf a x h)
  | a :: b :: r, x, h => by
    obtain ⟨y, z, h1, h2, rfl⟩ := trB_cons h
    cases op with
    | And => exact sd_and (hf a y h1) (trB_E hf h2)
    | Or => exact sd_or (hf a y h1) (trB_E hf h2)
theorem trB_T {f : Expr → Option Ex} (hf : ∀ e x, f e = some x → PT X e (tT X C E x)) {op : BoolOp} {pos : Pos} : ∀ {vs : List Expr} {x : Ex}, trB f (mkB op) vs = some x → PW X (.BoolOp op vs pos) (tT X C E x)
  | [], x, h => by cases h
  | [a], x, h => st_one (hf a x h)
  | a :: b :: r, x, h => by
    obtain ⟨y, z, h1, h2, rfl⟩ := trB_cons h
    cases op with
    | And => exact st_and (hf a y h1) (trB_T hf h2)
    | Or => exact st_or (hf a y h1) (trB_T hf h2)
theorem trCmp_ok {f : Expr → Option Ex} (hu : X.A.units + 65 < cLine) (hf : ∀ e x, f e = some x → PE X e (tE X C E x)) {a : Expr} {ops : List CmpOp} {bs : List Expr} {x : Ex} {pos : Pos} (h : trCmp f a ops bs = some x) : PE X (.Compare a ops bs pos) (tE X C E x) ∧ PT X (.Compare a ops bs pos) (tT X C E x) := by
  unfold trCmp at h
  split at h
  · split at h
    · rename_i op b y z h0 h1 h2
      cases h
      exact ⟨sd_cmp hu (trCop_is _) h0 (hf _ _ h1) (hf _ _ h2), st_cmp hu (trCop_is _) h0 (hf _ _ h1) (hf _ _ h2)⟩
    · cases h
  · split at h
    · rename_i op op' b d y z u h0 h1 h2 h3
      cases h
      exact ⟨sd_cmp2 hu (trCop_is _) (trCop_is _) h0 (hf _ _ h1) (hf _ _ h2) (hf _ _ h3), st_cmp2 hu (trCop_is _) (trCop_is _) h0 (hf _ _ h1) (hf _ _ h2) (hf _ _ h3)⟩
    · cases h
  · cases h
theorem trOp_ok {a b : Expr} {op : Operator} {o : Bop} {x y : Ex} {pos : Pos} (h : trOp op = some o) (ha : PE X a (tE X C E x)) (hb : PE X b (tE X C E y)) : PE X (.BinOp a op b pos) (tE X C E (.bin o x y)) := by
  cases op <;> cases h
  · exact sd_add ha hb
  · exact sd_sub ha hb
  · exact sd_mul ha hb
  · exact sd_mod ha hb
  · exact sd_pow ha hb
  · exact sd_shl ha hb
  · exact sd_shr ha hb
  · exact sd_bor ha hb
  · exact sd_bxor ha hb
  · exact sd_band ha hb
  · exact sd_fdiv ha hb
theorem trC_ok {k : Const} {d : PyData} {j : Nat} {pos : Pos} (h : trC k = some d) : PE X (.Constant k j pos) (tE X C E (.lit d)) := by
  cases k <;> cases h
  · exact sd_lit pe_non fun _ => .non
  · exact sd_lit pe_bl fun _ => .bl _
  · exact sd_lit pe_int fun _ => .int _
  · exact sd_lit pe_str fun _ => .str _

/-! ### a comprehension's block -/
theorem relabel_keep {env : PySem.Env} : ∀ {names : List (Str × NameKind)} {x : Str} {k : NameKind}, names.lookup x = some k → k ≠ .free →
    (names.map fun (n, k) => if (k == NameKind.free && env.scope.kind == .function && env.kindOf n == some .cell) then (n, NameKind.cell) else (n, k)).lookup x = some k
  | [], x, k, h, _ => by simp at h
  | (n, q) :: r, x, k, h, hk => by
    rw [List.lookup_cons] at h
    rw [List.map_cons]
    cases hb : x == n with
    | true =>
      rw [hb] at h
      have hq : q = k := Option.some.inj h
      have e : (q == NameKind.free && env.scope.kind == .function && env.kindOf n == some .cell) = false := by
        have : (q == NameKind.free) = false := by rw [hq]; simpa using hk
        rw [this]; rfl
      show List.lookup x ((if (q == NameKind.free && env.scope.kind == .function && env.kindOf n == some .cell) = true then (n, NameKind.cell) else (n, q)) :: _) = some k
      rw [if_neg (by rw [e]; decide), List.lookup_cons, hb, hq]
    | false =>
      rw [hb] at h
      have ih := relabel_keep (env := env) h hk
      show List.lookup x ((if (q == NameKind.free && env.scope.kind == .function && env.kindOf n == some .cell) = true then (n, NameKind.cell) else (n, q)) :: _) = some k
      have z : (if (q == NameKind.free && env.scope.kind == .function && env.kindOf n == some .cell) = true then (n, NameKind.cell) else (n, q)).1 = n := by split <;> rfl
      rw [List.lookup_cons, z, hb]
      exact ih
theorem relabel_free {env : PySem.Env} : ∀ {names : List (Str × NameKind)} {x : Str}, names.lookup x = some .free →
    (names.map fun (n, k) => if (k == NameKind.free && env.scope.kind == .function && env.kindOf n == some .cell) then (n, NameKind.cell) else (n, k)).lookup x = some .free ∨ (names.map fun (n, k) => if (k == NameKind.free && env.scope.kind == .function && env.kindOf n == some .cell) then (n, NameKind.cell) else (n, k)).lookup x = some .cell
  | [], x, h => by simp at h
  | (n, q) :: r, x, h => by
    rw [List.lookup_cons] at h
    rw [List.map_cons]
    show (List.lookup x ((if (q == NameKind.free && env.scope.kind == .function && env.kindOf n == some .cell) = true then (n, NameKind.cell) else (n, q)) :: _) = some .free) ∨ (List.lookup x ((if (q == NameKind.free && env.scope.kind == .function && env.kindOf n == some .cell) = true then (n, NameKind.cell) else (n, q)) :: _) = some .cell)
    have z : (if (q == NameKind.free && env.scope.kind == .function && env.kindOf n == some .cell) = true then (n, NameKind.cell) else (n, q)).1 = n := by split <;> rfl
    rw [List.lookup_cons, z]
    cases hb : x == n with
    | true =>
      rw [hb] at h
      have hq : q = .free := Option.some.inj h
      subst hq
      by_cases e : (NameKind.free == NameKind.free && env.scope.kind == .function && env.kindOf n == some .cell) = true
      · right; rw [if_pos e]
      · left; rw [if_neg e]
    | false =>
      rw [hb] at h
      exact relabel_free (env := env) h
theorem Cok.blk (k : Cok X c C E lv) {scope : Scope} (hk : scope.kind = .function) (s : Shared) (H : Hp) (C' : Addr) (cl : List (Str × Addr)) (fp : List Addr) : Cok (X.blk s H scope (compEnvC scope cl C' X.env) fp) { c with sc := scope } C E0 lv where
  N := k.N
  nd := k.nd
  sk := hk
  lk := fun x q h hq => relabel_keep h hq
  fr := fun x h => relabel_free h
  fn := fun x h => by
    show (scope.names.lookup x == some .cell) = true
    have h' : scope.names.lookup x = some .cell := h
    rw [h']; rfl
  calm := k.calm
  room := k.room
  gd := k.gd
  pass := passL
  fns := k.fns
  bi := k.bi
  sy := k.sy
  gls := k.gls
theorem blkOk_of (k : Cok X c C E lv) {scope : Scope} {own : List (Str × Nat)} (h : blkC c.N c.sc scope own = true) : BlkOk X.N X.env.scope scope own := by
  obtain ⟨h1, h2, h3, h4, h5⟩ := blkOk_by h
  refine ⟨h1, h2, by rw [k.N]; exact h3, fun y hy e => ?_, by rw [k.N]; exact h5⟩
  rcases h4 y hy e with z | z
  · exact .inl (k.lk _ _ z (by decide))
  · exact (k.fr _ z).symm
theorem folded_of {e : Expr} (h : isSet e = false) : ∀ x, foldedSetIterable e X.env x = pure x := fun x => by
  cases e <;> first | rfl | (simp [isSet] at h)
theorem base_of {o : Expr} {m : Str} (h : isBare o = false) : attributeBase o m X.env (eval o X.env) = eval o X.env := by
  cases o with
  | Call f args kws p =>
    cases f with
    | Name y q =>
      cases args with
      | nil =>
        cases kws with
        | nil => simp [isBare] at h
        | cons _ _ => rfl
      | cons _ _ => rfl
    | _ => rfl
  | _ => rfl
theorem plainIx_of {b : Expr} (h : ∀ lo hi p, b ≠ .Slice lo hi none p) : PlainIx b := fun o i => by
  cases b with
  | Slice lo hi st p =>
    cases st with
    | none => exact absurd rfl (h _ _ _)
    | some _ => rfl
  | _ => rfl

/-! ### targets -/
def Pgs (X : Cx) (ts : Tgs) (es : List Expr) : Prop := PGs X es (tgsR X.K ts) ∧ (assignEach es X.env).length = ts.len ∧ (assignEach es X.env).findIdx? (·.1) = none
theorem trTg_ok : ∀ (n : Nat) {X : Cx} {c : Tc} {C : Nat → Fs} {E : XK} {lv : Nat} (k : Cok X c C E lv) {e : Expr} {t : Tg}, trTg n c e = some t → PG X e (tgR X.K t) ∧ ∀ v p, e ≠ .Starred v p
  | 0, X, c, C, E, lv, k, e, t, h => by simp [trTg] at h
  | n + 1, X, c, C, E, lv, k, e, t, h => by
    have hs : ∀ {es : List Expr} {ts : Tgs}, mapT (trTg n c) es = some ts → Pgs X ts es := fun {es ts} => by
      induction es generalizing ts with
      | nil => intro h; cases h; exact ⟨pgs_nil, rfl, rfl⟩
      | cons e r ih =>
        intro h
        simp only [mapT] at h
        split at h
        · rename_i y ys h1 h2
          cases h
          obtain ⟨a, ns⟩ := trTg_ok n k h1
          obtain ⟨i1, i2, i3⟩ := ih h2
          have ea : assignEach (e :: r) X.env = (false, assign e X.env) :: assignEach r X.env := by
            cases e <;> first | rfl | exact absurd rfl (ns _ _)
          refine ⟨pgs_cons a i1 (by rw [ea]; rfl), by rw [ea, List.length_cons, i2, Tgs.len], ?_⟩
          rw [ea, List.findIdx?_cons]
          simp [i3]
        · cases h
    simp only [trTg] at h
    split at h
    · split at h
      · rename_i x p hl
        simp only [Option.map_eq_some_iff] at h
        obtain ⟨i, hi, rfl⟩ := h
        obtain ⟨l1, l2⟩ := loc_of k hl
        have hN : X.N[i]? = some x := by rw [k.N]; exact nix_get hi
        exact ⟨pg_name (by rw [k.N]; exact k.nd) hN l1 l2, fun _ _ z => by cases z⟩
      · cases h
    · simp only [Option.map_eq_some_iff] at h
      obtain ⟨ts, h1, rfl⟩ := h
      obtain ⟨i1, i2, i3⟩ := hs h1
      exact ⟨pg_tup k.calm i1 i2 i3, fun _ _ z => by cases z⟩
    · cases h
end
end DL
set_option Elab.async false
set_option linter.all false
set_option maxRecDepth 100000
set_option maxHeartbeats 4000000
/-! D11: the translation of expressions, as a whole. -/
namespace DL
open PySem PySem.Spec PyProof.Rows L2

def SndE (n : Nat) : Prop := ∀ {X : Cx} {c : Tc} {C : Nat → Fs} {E : XK} {lv : Nat}, Cok X c C E lv → ∀ {e : Expr} {x : Ex}, trE n c e = some x → PE X e (tE X C E x)
def SndT (n : Nat) : Prop := ∀ {X : Cx} {c : Tc} {C : Nat → Fs} {E : XK} {lv : Nat}, Cok X c C E lv → ∀ {e : Expr} {x : Ex}, trT n c e = some x → PT X e (tT X C E x)
def SndI (n : Nat) : Prop := ∀ {X : Cx} {c : Tc} {C : Nat → Fs} {E : XK} {lv : Nat}, Cok X c C E lv → ∀ {tg e : Expr} {x : It}, trI n c (isTupE tg) e = some x → PI X tg e (tI X C E x)

section
variable {X : Cx} {c : Tc} {C : Nat → Fs} {E : XK} {lv n : Nat}
theorem snd_bi (k : Cok X c C E lv) {f : Str} {b : Bi} {a : Expr} {es : List Expr} {xs : Exs} {p pos : Pos} (hb : biOf f = some b) (hg : glK (c.kind f) = true) (hA : PA X (a :: es) (tA X C E xs)) (ns : ∀ v p, a ≠ .Starred v p) (hpl : (backTo pos (starEach es X.env)).any (·.1) = false) :
    PE X (.Call (.Name f p) (a :: es) [] pos) (tE X C E (.bi b xs)) := by
  have G := gl_of k hg
  unfold biOf at hb
  repeat' split at hb
  all_goals first
    | cases hb
    | skip
  all_goals rename_i e1 <;> (try subst e1)
  · exact sd_len rfl G (k.bi _ (by decide)) hA ns hpl
  · exact sd_abs rfl G (k.bi _ (by decide)) hA ns hpl
  · exact sd_max k.sy k.calm k.hu rfl G (k.bi _ (by decide)) hA ns hpl
  · exact sd_min k.sy k.calm k.hu rfl G (k.bi _ (by decide)) hA ns hpl
  · exact sd_int rfl G (k.bi _ (by decide)) hA ns hpl
  · exact sd_tupleOf rfl G (k.bi _ (by decide)) hA ns hpl
  · exact sd_listOf rfl G (k.bi _ (by decide)) hA ns hpl
  · exact sd_sum k.calm rfl G (k.bi _ (by decide)) hA ns hpl
  · exact sd_repr k.sy k.gd k.hu rfl G (k.bi _ (by decide)) hA ns hpl
  · exact sd_sorted k.sy k.hu rfl G (k.bi _ (by decide)) hA ns hpl
  · exact sd_all k.calm rfl G (k.bi _ (by decide)) hA ns hpl
  · exact sd_any k.calm rfl G (k.bi _ (by decide)) hA ns hpl
theorem isa_ok (k : Cok X c C E lv) {a : Expr} {es : List Expr} {x : Ex} {p q : Pos} {f : Expr → Option Ex} (hg : glK (c.kind ("isinstance" : Str)) = true) (hf : ∀ e x, f e = some x → PE X e (tE X C E x)) (hn : ∀ e x, f e = some x → ∀ v p, e ≠ .Starred v p)
    (h : isaOf c f a es = some x) : PE X (.Call (.Name ("isinstance" : Str) q) (a :: es) [] p) (tE X C E x) := by
  unfold isaOf at h
  split at h
  · rename_i t tp
    split at h
    · rename_i hgt
      split at h
      · rename_i T y h1 h2
        cases h
        have key : t = Str.ofString (tyN T) ∧ t ∈ blts := by
          unfold tyOf at h1
          repeat' split at h1
          all_goals first
            | cases h1
            | skip
          all_goals (rename_i e1; subst e1; exact ⟨rfl, by decide⟩)
        exact sd_isa k.sy key.1 rfl (gl_of k hg) (k.bi _ (by decide)) (gl_of k hgt) (k.bi _ key.2) (hf _ _ h2) (hn _ _ h2)
      · cases h
    · cases h
  · cases h
theorem mapX_one {f : Expr → Option Ex} {es : List Expr} {xs : Exs} (h : mapX f es = some xs) (hl : es.length ≤ 1) : (es = [] ∧ xs = .nil) ∨ ∃ e y, es = [e] ∧ xs = .cons y .nil ∧ f e = some y := by
  cases es with
  | nil => cases h; exact .inl ⟨rfl, rfl⟩
  | cons e r =>
    cases r with
    | nil =>
      obtain ⟨y, ys, h1, h2, rfl⟩ := mapX_cons h
      cases h2
      exact .inr ⟨e, y, rfl, rfl, h1⟩
    | cons _ _ => simp at hl
theorem subB_mem {a b : List Nat} (h : subB a b = true) : ∀ i ∈ a, i ∈ b := fun i hi => by
  unfold subB at h
  have := List.all_eq_true.mp h i hi
  simpa using this
theorem snd_lc (hE : SndE n) (hT : SndT n) (hI : SndI n) (k : Cok X c C E lv) {elt : Expr} {g : Comprehension} {scope : Scope} {pos : Pos} {x : Ex}
    (h : trE (n + 1) c (.ListComp elt [g] scope pos) = some x) : ∃ (it : It) (t : Tg) (cs : Exs) (e : Ex), x = .comp e t it cs ((ownOf c.N scope).map (·.2)) ∧ g.is_async = 0 ∧ BlkOk X.N X.env.scope scope (ownOf c.N scope) ∧ PI X g.target g.iter (tI X C E it) ∧
      (∀ (s : Shared) (H : Hp) (C' : Addr) (cl : List (Str × Addr)) (fp : List Addr), PG (X.blk s H scope (compEnvC scope cl C' X.env) fp) g.target (tgR X.K t)) ∧
      (∀ (s : Shared) (H : Hp) (C' : Addr) (cl : List (Str × Addr)) (fp : List Addr), PTs (X.blk s H scope (compEnvC scope cl C' X.env) fp) g.ifs (tTs X C E0 cs)) ∧
      (∀ (s : Shared) (H : Hp) (C' : Addr) (cl : List (Str × Addr)) (fp : List Addr), PE (X.blk s H scope (compEnvC scope cl C' X.env) fp) elt (tE X C E0 e)) ∧
      (∀ x, foldedSetIterable g.iter X.env x = pure x) ∧ (∀ {σ H Q}, tE X C E x σ H Q → tLc (tI X C E it) (tgR X.K t) (tTs X C E0 cs) (tE X C E0 e) ((ownOf c.N scope).map (·.2)) σ H Q) := by
  simp only [trE] at h
  split at h
  · rename_i hc
    simp only [Bool.and_eq_true, decide_eq_true_eq, Bool.not_eq_true'] at hc
    obtain ⟨⟨⟨h1, h2⟩, h3⟩, h4⟩ := hc
    split at h
    · rename_i it t cs y e1 e2 e3 e4
      split at h
      · rename_i hs
        cases h
        have ok := blkOk_of k h1
        have kb := fun s H C' cl fp => k.blk (scope := scope) ok.kind s H C' cl fp
        have hi := hI k (tg := g.target) e1
        have hg := fun s H C' cl fp => (trTg_ok n (kb s H C' cl fp) e2).1
        have he : ∀ (s : Shared) (H : Hp) (C' : Addr) (cl : List (Str × Addr)) (fp : List Addr), PE (X.blk s H scope (compEnvC scope cl C' X.env) fp) elt (tE X C E0 y) := fun s H C' cl fp =>
          PE.imp (hE (kb s H C' cl fp) e4) fun σ H Q ⟨S, G, env, Ep, Q', p, h⟩ => ⟨S, G, env, Ep, Q', ⟨p.st, p.rz, p.fin⟩, h⟩
        have hcs := mapX_one e3 h4
        have ht : ∀ (s : Shared) (H : Hp) (C' : Addr) (cl : List (Str × Addr)) (fp : List Addr), PTs (X.blk s H scope (compEnvC scope cl C' X.env) fp) g.ifs (tTs X C E0 cs) := fun s H C' cl fp => by
          rcases hcs with ⟨z1, z2⟩ | ⟨e0, y0, z1, z2, z3⟩
          · rw [z1, z2]; exact pts_nil
          · rw [z1, z2]; exact pts_one (hT (kb s H C' cl fp) z3)
        have hcs' : cs = .nil ∨ ∃ c0, cs = .cons c0 .nil := by
          rcases hcs with ⟨_, z2⟩ | ⟨_, y0, _, z2, _⟩
          · exact .inl z2
          · exact .inr ⟨y0, z2⟩
        exact ⟨it, t, cs, y, rfl, h2, ok, hi, hg, ht, he, folded_of h3, sd_comp (pos := pos) k.calm (by rw [k.N]; exact k.nd) ok (subB_mem hs) (fun w => trTg_tp e2 (trI_wk e1 w)) hcs' hi hg ht he (folded_of h3)⟩
      · cases h
    · cases h
  · cases h
theorem snd_E (hE : SndE n) (hT : SndT n) (hI : SndI n) : SndE (n + 1) := by
  intro X c C E lv k e x h
  have fE : ∀ e x, trE n c e = some x → PE X e (tE X C E x) := fun e x h => hE k h
  have fn : ∀ e x, trE n c e = some x → ∀ v p, e ≠ .Starred v p := fun e x h => ns_of h
  cases e with
  | Name y p =>
    simp only [trE] at h
    exact name_ok k h
  | Dict ks vs p =>
    cases ks <;> cases vs <;> simp [trE] at h
    subst h
    exact sd_dic0
  | Constant q j p =>
    simp only [trE, Option.map_eq_some_iff] at h
    obtain ⟨d, hd, rfl⟩ := h
    exact trC_ok hd
  | Tuple es q p =>
    simp only [trE, Option.map_eq_some_iff] at h
    obtain ⟨xs, h1, rfl⟩ := h
    exact sd_tup (mapX_A fE fn h1)
  | List es p =>
    simp only [trE, Option.map_eq_some_iff] at h
    obtain ⟨xs, h1, rfl⟩ := h
    exact sd_lst (mapX_A fE fn h1)
  | BinOp a op b p =>
    simp only [trE] at h
    split at h
    · rename_i o y z h1 h2 h3; cases h; exact trOp_ok h1 (fE _ _ h2) (fE _ _ h3)
    · cases h
  | UnaryOp op a p =>
    cases op with
    | USub => simp only [trE, Option.map_eq_some_iff] at h; obtain ⟨y, h1, rfl⟩ := h; exact sd_neg (fE _ _ h1)
    | Not => simp only [trE, Option.map_eq_some_iff] at h; obtain ⟨y, h1, rfl⟩ := h; exact sd_not (fE _ _ h1)
    | UAdd => simp [trE] at h
    | Invert => simp [trE] at h
  | BoolOp op vs p => simp only [trE] at h; exact trB_E fE h
  | Compare a ops bs p => simp only [trE] at h; exact (trCmp_ok k.hu fE h).1
  | IfExp t a b p =>
    simp only [trE] at h
    split at h
    · rename_i z y w h1 h2 h3; cases h; exact sd_ite (hT k h1) (fE _ _ h2) (fE _ _ h3)
    · cases h
  | Call f args kws p =>
    cases f with
    | Name g q =>
      cases args with
      | nil => cases kws <;> simp [trE] at h
      | cons a es =>
        cases kws with
        | cons _ _ => simp [trE] at h
        | nil =>
          simp only [trE] at h
          split at h
          · rename_i hg
            split at h
            · rename_i b hb
              simp only [Option.map_eq_some_iff] at h
              obtain ⟨xs, h1, rfl⟩ := h
              obtain ⟨y, ys, h2, h3, rfl⟩ := mapX_cons h1
              exact snd_bi k hb hg (mapX_A fE fn h1) (fn _ _ h2) (plain_of fn h3)
            · split at h
              · rename_i hf
                subst hf
                exact isa_ok k hg fE fn h
              split at h
              · rename_i j xs h1 h2
                split at h
                · cases h
                · rename_i hdb
                  cases h
                  obtain ⟨hA, _⟩ := mapA_ok fE (fun y i p hv => (trV_ok k hv).1) fn h2
                  have ha : ∃ ys, mapA (trV c) (trE n c) es = some ys ∧ ∀ v p, a ≠ .Starred v p := by
                    unfold mapA at h2
                    split at h2
                    · cases h2
                    · rename_i ys hr
                      refine ⟨ys, hr, fun v p z => ?_⟩
                      subst z
                      split at h2
                      · rename_i zz; cases zz
                      · rw [nostar] at h2; cases h2
                  obtain ⟨ys, hr, ns⟩ := ha
                  exact sd_call k.room k.gd (k.fns _ _ (fnIx_get h1)) (gl_of k hg) k.pass hA ns ((mapA_ok fE (fun y i p hv => (trV_ok k hv).1) fn hr).2) (by simpa using hdb)
              · cases h
          · cases h
    | Attribute o m ap =>
      cases args with
      | cons a es =>
        cases kws with
        | cons _ _ => simp [trE] at h
        | nil =>
          simp only [trE] at h
          split at h
          · rename_i t y ys h1 h2 h3
            split at h
            · rename_i hc
              cases h
              simp only [Bool.and_eq_true, decide_eq_true_eq, Bool.not_eq_true'] at hc
              obtain ⟨⟨c1, c2⟩, c3⟩ := hc
              obtain ⟨e1, nb⟩ := mtOf_ok h1
              subst e1
              obtain ⟨z, zs, h4, h5, rfl⟩ := mapX_cons h3
              exact sd_mth k.hu nb (fE _ _ h2) (mapX_A fE fn h3) (base_of c1) c2 c3 (fn _ _ h4) (plain_of fn h3) (plain_of fn h5)
            · cases h
          · cases h
      | nil =>
        cases kws with
        | cons _ _ => simp [trE] at h
        | nil =>
          simp only [trE] at h
          split at h
          · rename_i hc
            simp only [Bool.and_eq_true, decide_eq_true_eq, Bool.not_eq_true'] at hc
            obtain ⟨⟨h1, h2⟩, h3⟩ := hc
            subst h1
            simp only [Option.map_eq_some_iff] at h
            obtain ⟨y, h4, rfl⟩ := h
            exact sd_bits (fE _ _ h4) (base_of h2) h3
          · cases h
    | _ => cases args <;> cases kws <;> simp [trE] at h
  | Subscript o i p =>
    cases i with
    | Slice lo hi st q =>
      cases st with
      | some s =>
        cases lo <;> cases hi <;> simp only [trE] at h <;> first | cases h | skip
        split at h
        · rename_i hm
          simp only [Option.map_eq_some_iff] at h
          obtain ⟨y, h1, rfl⟩ := h
          have sh : ∃ k p1 p2, s = .UnaryOp .USub (.Constant (.int 1) k p1) p2 := by
            unfold isM1 at hm
            split at hm
            · exact ⟨_, _, _, rfl⟩
            · cases hm
          obtain ⟨k1, p1, p2, rfl⟩ := sh
          exact sd_rev (fE _ _ h1)
        · cases h
      | none =>
        simp only [trE] at h
        have fO : ∀ {e : Option Expr} {y : Exo}, trO (trE n c) e = some y → PO X e (tO X C E y) := fun {e y} h => by
          cases e with
          | none => cases h; exact so_no
          | some e => simp only [trO, Option.map_eq_some_iff] at h; obtain ⟨z, h1, rfl⟩ := h; exact so_so (fE _ _ h1)
        split at h
        · rename_i y l u h1 h2 h3; cases h; exact sd_slc (fE _ _ h1) (fO h2) (fO h3)
        · cases h
    | _ =>
      simp only [trE] at h
      split at h
      · rename_i y z h1 h2; cases h; exact sd_ix k.hu (plainIx_of (by intros _ _ _ z; cases z)) (fE _ _ h1) (fE _ _ h2)
      · cases h
  | ListComp elt gs scope p =>
    cases gs with
    | nil => simp [trE] at h
    | cons g r =>
      cases r with
      | cons _ _ => simp [trE] at h
      | nil =>
        obtain ⟨it, t, cs, y, rfl, ha, ok, hi, hg, ht, he, hs, imp⟩ := snd_lc hE hT hI k h
        obtain ⟨tg, iter, ifs, asy⟩ := g
        cases ha
        exact PE.imp (pe_lc k.calm (by rw [k.N]; exact k.nd) hi ok hg ht he hs) fun σ H Q q => imp q
  | _ => simp [trE] at h
theorem isTrue_plain {e : Expr} {env : PySem.Env} (h1 : ∀ a p, e ≠ .UnaryOp .Not a p) (h2 : ∀ o v p, e ≠ .BoolOp o v p) (h3 : ∀ a b c p, e ≠ .IfExp a b c p) (h4 : ∀ a b c p, e ≠ .Compare a b c p) :
    ∀ whole, isTrue e env whole = (do let v ← whole; standAt e.pos; holding [v] (truthy v)) := fun whole => by
  cases e with
  | UnaryOp op a p =>
    cases op with
    | Not => exact absurd rfl (h1 _ _)
    | _ => rfl
  | BoolOp o v p => exact absurd rfl (h2 _ _ _)
  | IfExp a b c p => exact absurd rfl (h3 _ _ _ _)
  | Compare a b c p => exact absurd rfl (h4 _ _ _ _)
  | _ => rfl
theorem snd_T (hE : SndE n) (hT : SndT n) (hI : SndI n) : SndT (n + 1) := by
  intro X c C E lv k e x h
  have fE : ∀ e x, trE n c e = some x → PE X e (tE X C E x) := fun e x h => hE k h
  have fT : ∀ e x, trT n c e = some x → PT X e (tT X C E x) := fun e x h => hT k h
  cases e with
  | BoolOp op vs p => simp only [trT] at h; exact (trB_T fT h).pt
  | Compare a ops bs p => simp only [trT] at h; exact (trCmp_ok k.hu fE h).2
  | IfExp t a b p => simp [trT] at h
  | UnaryOp op a p =>
    cases op with
    | Not => simp only [trT, Option.map_eq_some_iff] at h; obtain ⟨y, h1, rfl⟩ := h; exact st_not (fT _ _ h1)
    | _ => simp only [trT] at h; exact st_plain (fE _ _ h) (isTrue_plain (by intros; intro z; cases z) (by intros; intro z; cases z) (by intros; intro z; cases z) (by intros; intro z; cases z))
  | _ => simp only [trT] at h; exact st_plain (fE _ _ h) (isTrue_plain (by intros; intro z; cases z) (by intros; intro z; cases z) (by intros; intro z; cases z) (by intros; intro z; cases z))
theorem tup_of {tg : Expr} (h : isTupE tg = true) : ∃ ts k p, tg = .Tuple ts k p := by
  cases tg <;> first | exact ⟨_, _, _, rfl⟩ | cases h
theorem kw_of {ks : List Keyword} (h : kwOf ks = true) : ∃ cj cp kp, ks = [⟨some "strict", .Constant (.bool true) cj cp, kp⟩] := by
  unfold kwOf at h
  split at h
  · rename_i k cj cp kp
    have e : k = ("strict" : Str) := by simpa using h
    subst e
    exact ⟨_, _, _, rfl⟩
  · cases h
theorem snd_I (hE : SndE n) (hT : SndT n) (hI : SndI n) : SndI (n + 1) := by
  intro X c C E lv k tg e x h
  have fE : ∀ e x, trE n c e = some x → PE X e (tE X C E x) := fun e x h => hE k h
  have fn : ∀ e x, trE n c e = some x → ∀ v p, e ≠ .Starred v p := fun e x h => ns_of h
  have seq : (trE n c e).map It.seq = some x → PI X tg e (tI X C E x) := fun h => by
    simp only [Option.map_eq_some_iff] at h
    obtain ⟨y, h1, rfl⟩ := h
    exact si_seq (fE _ _ h1)
  simp only [trI] at h
  split at h
  · split at h
    · rename_i hf
      subst hf
      split at h
      · rename_i hg
        simp only [Option.map_eq_some_iff] at h
        obtain ⟨y, h1, rfl⟩ := h
        exact si_range1 (gl_of k hg) (k.bi _ (by decide)) (fE _ _ h1) (fn _ _ h1)
      · cases h
    · split at h
      · rename_i hf
        subst hf
        split at h
        · rename_i hg
          simp only [Bool.and_eq_true] at hg
          simp only [Option.map_eq_some_iff] at h
          obtain ⟨y, h1, rfl⟩ := h
          obtain ⟨ts, kk, tp, rfl⟩ := tup_of hg.2
          exact si_enum (gl_of k hg.1) (k.bi _ (by decide)) (fE _ _ h1) (fn _ _ h1)
        · cases h
      · exact seq h
  · split at h
    · rename_i hf
      subst hf
      split at h
      · rename_i hg
        split at h
        · rename_i y z h1 h2
          cases h
          exact si_range2 (gl_of k hg) (k.bi _ (by decide)) (fE _ _ h1) (fE _ _ h2) (fn _ _ h1) (fn _ _ h2)
        · cases h
      · cases h
    · split at h
      · rename_i hf
        subst hf
        split at h
        · rename_i hg
          simp only [Bool.and_eq_true] at hg
          split at h
          · rename_i y z h1 h2
            cases h
            obtain ⟨ts, kk, tp, rfl⟩ := tup_of hg.2
            exact si_zip (gl_of k hg.1) (k.bi _ (by decide)) (fE _ _ h1) (fE _ _ h2) (fn _ _ h1) (fn _ _ h2)
          · cases h
        · cases h
      · exact seq h
  · split at h
    · rename_i hg
      simp only [Bool.and_eq_true, decide_eq_true_eq] at hg
      obtain ⟨⟨⟨hf, hg⟩, ht⟩, hk⟩ := hg
      subst hf
      split at h
      · rename_i y z h1 h2
        cases h
        obtain ⟨ts, kk, tp, rfl⟩ := tup_of ht
        obtain ⟨cj, cp, kp, ek⟩ := kw_of hk
        rw [ek]
        exact si_zips (gl_of k hg) (k.bi _ (by decide)) (fE _ _ h1) (fE _ _ h2) (fn _ _ h1) (fn _ _ h2)
      · cases h
    · cases h
  · exact seq h
end
theorem snd : ∀ n, SndE n ∧ SndT n ∧ SndI n
  | 0 => ⟨fun {X c C E lv} k {e x} h => by simp [trE] at h, fun {X c C E lv} k {e x} h => by simp [trT] at h, fun {X c C E lv} k {tg e x} h => by simp [trI] at h⟩
  | n + 1 => let ⟨a, b, c⟩ := snd n; ⟨snd_E a b c, snd_T a b c, snd_I a b c⟩
end DL
set_option Elab.async false
set_option linter.all false
set_option maxRecDepth 100000
set_option maxHeartbeats 4000000
/-! D12: the translation of statements; a def keeps the promise of its reading. -/
namespace DL
open PySem PySem.Spec PyProof.Rows L2

def notStar : Expr → Bool
  | .Starred .. => false | _ => true
section
variable {x y z : Str} {px py pz pt pt2 : Pos} {kt k2 : Nat} {a b d : Expr} {env : PySem.Env}
theorem sw2_yes (hk : env.scope.kind = .function) (hx : env.scope.names.lookup x = some .local) (hy : env.scope.names.lookup y = some .local) (hl : py.line = px.line) (hxy : x ≠ y) (sa : notStar a = true) (sb : notStar b = true)
    (hf : (foldedForSure 8 a && foldedForSure 8 b) = false) (hc : (constantsAlone 8 a && constantsAlone 8 b) = false) : swappedStores [.Tuple [.Name x px, .Name y py] kt pt] (.Tuple [a, b] k2 pt2) env = pure (some [x, y]) := by
  have hb : env.blockKind = .function := by unfold Env.blockKind; rw [hk]; rfl
  have kx : env.kindOf x = some .local := hx
  have ky : env.kindOf y = some .local := hy
  unfold swappedStores
  simp only [List.length_cons, List.length_nil, hb, List.any_cons, List.any_nil, List.filterMap_cons, List.filterMap_nil, kx, ky, List.head?_cons, Option.map_some, Option.getD_some, Expr.pos, hl, List.all_cons, List.all_nil, Bool.and_true, hf, hc]
  have hd : [x, y].eraseDups = [x, y] := by
    simp [List.eraseDups_cons, hxy, Ne.symm hxy, beq_eq_false_iff_ne.mpr (Ne.symm hxy)]
  simp [hd]
  intro h
  exfalso
  rcases h with h | h
  · split at h
    · cases sa
    · cases h
  · split at h
    · cases sb
    · cases h
theorem sw2_no (hk : env.scope.kind = .function) (h : env.scope.names.lookup x ≠ some .local ∨ env.scope.names.lookup y ≠ some .local) : swappedStores [.Tuple [.Name x px, .Name y py] kt pt] (.Tuple [a, b] k2 pt2) env = pure none := by
  have hb : env.blockKind = .function := by unfold Env.blockKind; rw [hk]; rfl
  unfold swappedStores
  simp only []
  split
  · rfl
  split
  · rfl
  rw [if_pos]
  rw [Bool.or_eq_true]
  left
  rcases h with h | h
  · have kx : (env.kindOf x == some .local) = false := by
      rw [beq_eq_false_iff_ne]; exact h
    simp only [List.filterMap_cons, List.filterMap_nil, kx, Bool.false_and, Bool.false_eq_true, if_false]
    split <;> simp_all <;> (split <;> simp)
  · have kx : (env.kindOf y == some .local) = false := by
      rw [beq_eq_false_iff_ne]; exact h
    simp only [List.filterMap_cons, List.filterMap_nil, kx, Bool.false_and, Bool.false_eq_true, if_false]
    split <;> simp_all <;> (split <;> simp)
theorem sw3_yes (hk : env.scope.kind = .function) (hx : env.scope.names.lookup x = some .local) (hy : env.scope.names.lookup y = some .local) (hz : env.scope.names.lookup z = some .local) (hl : py.line = px.line) (hl2 : pz.line = px.line) (hxy : x ≠ y) (hxz : x ≠ z) (hyz : y ≠ z) (sa : notStar a = true) (sb : notStar b = true) (sd : notStar d = true)
    (hf : (foldedForSure 8 a && (foldedForSure 8 b && foldedForSure 8 d)) = false) (hc : (constantsAlone 8 a && (constantsAlone 8 b && constantsAlone 8 d)) = false) : swappedStores [.Tuple [.Name x px, .Name y py, .Name z pz] kt pt] (.Tuple [a, b, d] k2 pt2) env = pure (some [x, y, z]) := by
  have hb : env.blockKind = .function := by unfold Env.blockKind; rw [hk]; rfl
  have kx : env.kindOf x = some .local := hx
  have ky : env.kindOf y = some .local := hy
  have kz : env.kindOf z = some .local := hz
  unfold swappedStores
  simp only [List.length_cons, List.length_nil, hb, List.any_cons, List.any_nil, List.filterMap_cons, List.filterMap_nil, kx, ky, kz, List.head?_cons, Option.map_some, Option.getD_some, Expr.pos, hl, hl2, List.all_cons, List.all_nil, Bool.and_true, hf, hc]
  have hd : [x, y, z].eraseDups = [x, y, z] := by
    simp [List.eraseDups_cons, Ne.symm hxy, Ne.symm hxz, Ne.symm hyz, beq_eq_false_iff_ne.mpr (Ne.symm hxy), beq_eq_false_iff_ne.mpr (Ne.symm hxz), beq_eq_false_iff_ne.mpr (Ne.symm hyz)]
  simp [hd]
  intro h
  exfalso
  rcases h with h | h | h
  · split at h
    · cases sa
    · cases h
  · split at h
    · cases sb
    · cases h
  · split at h
    · cases sd
    · cases h
theorem sw3_no (hk : env.scope.kind = .function) (h : env.scope.names.lookup x ≠ some .local ∨ env.scope.names.lookup y ≠ some .local ∨ env.scope.names.lookup z ≠ some .local) : swappedStores [.Tuple [.Name x px, .Name y py, .Name z pz] kt pt] (.Tuple [a, b, d] k2 pt2) env = pure none := by
  have hb : env.blockKind = .function := by unfold Env.blockKind; rw [hk]; rfl
  unfold swappedStores
  simp only []
  split
  · rfl
  split
  · rfl
  rw [if_pos]
  rw [Bool.or_eq_true]
  left
  have lt : ∀ {f : Expr → Option Str} {l : List Expr} {e : Expr}, e ∈ l → f e = none → ((l.filterMap f).length != l.length) = true := fun {f l e} he hf => by
    have : ∀ l : List Expr, (l.filterMap f).length ≤ l.length := fun l => List.length_filterMap_le ..
    rw [bne_iff_ne]
    induction l with
    | nil => cases he
    | cons u r ih =>
      rw [List.filterMap_cons]
      rcases List.mem_cons.mp he with rfl | he
      · rw [hf]
        have h1 := this r
        simp only [List.length_cons]
        omega
      · have i := ih he
        have h1 := this r
        split <;> simp only [List.length_cons] <;> omega
  rcases h with h | h | h
  · refine lt (e := .Name x px) (by simp) ?_
    have kx : (env.kindOf x == some .local) = false := by
      rw [beq_eq_false_iff_ne]; exact h
    simp [kx]
  · refine lt (e := .Name y py) (by simp) ?_
    have kx : (env.kindOf y == some .local) = false := by
      rw [beq_eq_false_iff_ne]; exact h
    simp [kx]
  · refine lt (e := .Name z pz) (by simp) ?_
    have kx : (env.kindOf z == some .local) = false := by
      rw [beq_eq_false_iff_ne]; exact h
    simp [kx]
theorem swn_no {ts vs : List Expr} (hk : env.scope.kind = .function) (h : ts.length ≠ 2 ∧ ts.length ≠ 3) : swappedStores [.Tuple ts kt pt] (.Tuple vs k2 pt2) env = pure none := by
  unfold swappedStores
  simp only []
  rw [if_pos]
  simp [h.1, h.2]
theorem swf_no {ts vs : List Expr} (h : vs.all (foldedForSure 8) = true) : swappedStores [.Tuple ts kt pt] (.Tuple vs k2 pt2) env = pure none := by
  unfold swappedStores
  simp only [h, if_true]
  repeat' split
  all_goals rfl
end

def isComp : Expr → Bool
  | .ListComp .. => true | .SetComp .. => true | .DictComp .. => true | _ => false
theorem swp_no {e : Expr} {t : Option Expr} {l : Nat} {env : PySem.Env} (h : isComp e = false) : swapsWith e t l env = pure false := by
  cases e <;> first | rfl | cases h
theorem swl_no {elt : Expr} {gs : List Comprehension} {scope : Scope} {p py : Pos} {y : Str} {l : Nat} {env : PySem.Env} (h : env.scope.names.lookup y ≠ some .local) : swapsWith (.ListComp elt gs scope p) (some (.Name y py)) l env = pure false := by
  have k : (env.kindOf y == some .local) = false := by
    rw [beq_eq_false_iff_ne]; exact h
  unfold swapsWith
  simp only [k, Bool.and_false, Bool.false_and]
theorem sst_name {y : Str} {p : Pos} {e : Expr} {env : PySem.Env} : swappedStores [.Name y p] e env = pure none := by cases e <;> rfl
theorem sst_sub {o i : Expr} {p : Pos} {e : Expr} {env : PySem.Env} : swappedStores [.Subscript o i p] e env = pure none := by cases e <;> rfl
theorem sst_tup {ts : List Expr} {k : Nat} {p : Pos} {e : Expr} {env : PySem.Env} (h : isTupE e = false) : swappedStores [.Tuple ts k p] e env = pure none := by cases e <;> first | rfl | cases h

def kLoc (c : Tc) (x : Str) : Bool := decide (c.kind x = some .local)
def trNms (c : Tc) : List Expr → Option (List Nat)
  | [] => some []
  | .Name x _ :: r => match locK (c.kind x), nix c.N x, trNms c r with
    | true, some i, some is => some (i :: is)
    | _, _, _ => none
  | _ => none
/-- whether the stores are swapped -/
def trPar (c : Tc) (ts vs : List Expr) : Option Bool :=
  if vs.all (foldedForSure 8) then some false else
  if ts.length ≠ 2 ∧ ts.length ≠ 3 then some false else
  match ts, vs with
  | [.Name x px, .Name y py], [a, b] =>
    if kLoc c x && kLoc c y then
      (if decide (py.line = px.line) && decide (x ≠ y) && notStar a && notStar b && !(constantsAlone 8 a && constantsAlone 8 b) then some true else none)
    else some false
  | [.Name x px, .Name y py, .Name z pz], [a, b, d] =>
    if kLoc c x && (kLoc c y && kLoc c z) then
      (if decide (py.line = px.line) && decide (pz.line = px.line) && decide (x ≠ y) && decide (x ≠ z) && decide (y ≠ z) && notStar a && notStar b && notStar d && !(constantsAlone 8 a && (constantsAlone 8 b && constantsAlone 8 d)) then some true else none)
    else some false
  | _, _ => none
def trAug : Operator → Option Bop
  | .Add => some .add | .Sub => some .sub | .Mult => some .mul | .FloorDiv => some .fdiv | .Mod => some .mod | .LShift => some .shl | .RShift => some .shr
  | .BitAnd => some .band | .BitOr => some .bor | .BitXor => some .bxor | _ => none
def ownHas (sc : Scope) (y : Str) : Bool := sc.names.any fun (n, k) => n == y && (k == .local || k == .cell)
def mapS (f : Stmt → Option Sm) : List Stmt → Option Sms
  | [] => some .nil
  | s :: r => match f s, mapS f r with
    | some x, some xs => some (.cons x xs)
    | _, _ => none
def isSl : Expr → Bool
  | .Slice .. => true | _ => false
/-- y = v, v no comprehension -/
def asgOf (c : Tc) (f : Expr → Option Ex) (y : Str) (v : Expr) : Option Sm := match isComp v, locK (c.kind y), nix c.N y, f v with
  | false, true, some i, some x => some (.asg (.nm i) x)
  | _, _, _, _ => none
/-- y = [..] -/
def asgLc (c : Tc) (f : Expr → Option Ex) (y : Str) (py p : Pos) (scope : Scope) (v : Expr) : Option Sm := match kLoc c y, locK (c.kind y), nix c.N y, f v with
  | true, _, some i, some x => if decide (py.line = p.line) && !ownHas scope y then some (.asg (.nm i) x) else none
  | false, true, some i, some x => some (.asg (.nm i) x)
  | _, _, _, _ => none
def asgTp (c : Tc) (g : Expr → Option Tg) (f : Expr → Option Ex) (tg v : Expr) : Option Sm := match isComp v, g tg, f v with
  | false, some t, some x => some (.asg t x)
  | _, _, _ => none
def asgPar (c : Tc) (f : Expr → Option Ex) (ts vs : List Expr) : Option Sm := match trNms c ts, trPar c ts vs, mapX f vs with
  | some is, some _, some xs => if ts.length = vs.length ∧ ts.length ≤ 1000 ∧ is.Nodup then some (.par is xs) else none
  | _, _, _ => none
def asgSub (c : Tc) (f : Expr → Option Ex) (o j v : Expr) : Option Sm := match o with
  | .Name y _ => match isComp v, isSl j, trV c y, f j, f v with
    | false, false, some i, some z, some x => some (.setx i z x)
    | _, _, _, _, _ => none
  | _ => none
def retOf (f : Expr → Option Ex) (e : Expr) : Option Sm := match f e with
  | some x => if isVar x then none else some (.ret x)
  | none => none
def exprOf (f : Expr → Option Ex) (e : Expr) : Option Sm := match isComp e, f e with
  | false, some x => some (.expr x)
  | _, _ => none
def extOf (c : Tc) (f : Expr → Option Ex) (m y : Str) (ap cp : Pos) (a : Expr) : Option Sm := match decide (m = ("extend" : Str)), decide (ap.endLine = cp.line), trV c y, f a with
  | true, true, some i, some x => some (.ext i x)
  | _, _, _, _ => none
def appOf (c : Tc) (f : Expr → Option Ex) (m y : Str) (ap cp : Pos) (a : Expr) : Option Sm := match decide (m = ("append" : Str)), decide (ap.endLine = cp.line), trV c y, f a with
  | true, true, some i, some x => some (.app i x)
  | _, _, _, _ => none
/-- x.m(a) as a statement -/
def mcall : Expr → Option (Str × Pos × Str × Pos × Expr × Pos)
  | .Call (.Attribute (.Name y yp) m ap) [a] [] cp => some (y, yp, m, ap, a, cp)
  | _ => none
theorem mcall_eq {e a : Expr} {y m : Str} {yp ap cp : Pos} (h : mcall e = some (y, yp, m, ap, a, cp)) : e = .Call (.Attribute (.Name y yp) m ap) [a] [] cp := by
  unfold mcall at h
  split at h
  · cases h; rfl
  · cases h
def trAsg (n : Nat) (c : Tc) (tg v : Expr) : Option Sm := match tg with
  | .Name y py => match v with
    | .ListComp elt gs scope p => asgLc c (trE n c) y py p scope (.ListComp elt gs scope p)
    | v => asgOf c (trE n c) y v
  | .Tuple ts k p => match v with
    | .Tuple vs _ _ => asgPar c (trE n c) ts vs
    | v => asgTp c (trTg n c) (trE n c) (.Tuple ts k p) v
  | .Subscript o j _ => asgSub c (trE n c) o j v
  | _ => none
/-- x = y[j] -/
def asxOf (c : Tc) (g : Expr → Option Tg) (f : Expr → Option Ex) (tg v : Expr) : Option Sm := match v with
  | .Subscript (.Name y _) j _ => match isSl j, trV c y, f j, g tg with
    | false, some i, some z, some t => some (.asx t i z)
    | _, _, _, _ => none
  | _ => none
def trRet (n : Nat) (c : Tc) (e : Expr) : Option Sm := match e with
  | .Name y _ => (trV c y).map fun i => .ret (.var i)
  | e => retOf (trE n c) e
def trS : Nat → Tc → Stmt → Option Sm
  | 0, _, _ => none
  | n + 1, c, s => match s with
    | .Assign [tg] v _ => match asxOf c (trTg n c) (trE n c) tg v with
      | some z => some z
      | none => trAsg n c tg v
    | .AugAssign (.Name y _) op e _ => match locK (c.kind y), nix c.N y, trAug op, trE n c e with
      | true, some i, some o, some x => some (.aug i o x)
      | _, _, _, _ => none
    | .AugAssign (.Subscript (.Name y _) j _) op e _ => match isSl j, trV c y, trAug op, trE n c j, trE n c e with
      | false, some i, some o, some z, some x => some (.augx i z o x)
      | _, _, _, _, _ => none
    | .Expr e _ => match mcall e with
      | some (y, _, m, ap, a, cp) => match appOf c (trE n c) m y ap cp a with
        | some z => some z
        | none => extOf c (trE n c) m y ap cp a
      | none => exprOf (trE n c) e
    | .If t a b _ => match trT n c t, mapS (trS n c) a, mapS (trS n c) b with
      | some z, some x, some y => some (.ite z x y)
      | _, _, _ => none
    | .For tg it b [] _ => match isSet it, trTg n c tg, trI n c (isTupE tg) it, mapS (trS n c) b with
      | false, some t, some i, some x => some (.for_ t i x)
      | _, _, _, _ => none
    | .While t b [] _ => match trT n c t, mapS (trS n c) b with
      | some z, some x => some (.whl z x)
      | _, _ => none
    | .Return none _ => some .retn
    | .Return (some e) _ => trRet n c e
    | .Pass _ => some .pass
    | .Break _ => some .brk
    | .Continue _ => some .cnt
    | _ => none
structure CokS (X : Cx) (c : Tc) (C : Nat → Fs) (E : XK) (lv : Nat) : Prop extends Cok X c C E lv where
  sc : X.env.scope = c.sc
  pow : PassesOwn (model X.prog X.w) X.A X.env X.xe
section
variable {X : Cx} {c : Tc} {C : Nat → Fs} {E : XK} {lv n : Nat}
theorem mapS_ok {f : Stmt → Option Sm} (hf : ∀ s x, f s = some x → PS X s (tS X C E x)) : ∀ {ss : List Stmt} {xs : Sms}, mapS f ss = some xs → PSs X ss (tSs X C E xs)
  | [], xs, h => by cases h; exact ss_nil
  | s :: r, xs, h => by
    simp only [mapS] at h
    split at h
    · rename_i y ys h1 h2; cases h; exact ss_cons (hf _ _ h1) (mapS_ok hf h2)
    · cases h
theorem kLoc_of (k : CokS X c C E lv) {x : Str} (h : kLoc c x = true) : X.env.scope.names.lookup x = some .local := by
  rw [k.sc]; exact of_decide_eq_true h
theorem kLoc_no (k : CokS X c C E lv) {x : Str} (h : kLoc c x = false) : X.env.scope.names.lookup x ≠ some .local := by
  rw [k.sc]; exact of_decide_eq_false h
theorem trNms_ok (k : Cok X c C E lv) : ∀ {ts : List Expr} {is : List Nat}, trNms c ts = some is → PGs X ts (nmsR is) ∧ (assignEach ts X.env).length = is.length ∧ (assignEach ts X.env).findIdx? (·.1) = none ∧ ts.length = is.length
  | [], is, h => by cases h; exact ⟨pgs_nil, rfl, rfl, rfl⟩
  | .Name x p :: r, is, h => by
    simp only [trNms] at h
    split at h
    · rename_i i js h1 h2 h3
      cases h
      obtain ⟨i1, i2, i3, i4⟩ := trNms_ok k h3
      obtain ⟨l1, l2⟩ := loc_of k h1
      have hN : X.N[i]? = some x := by rw [k.N]; exact nix_get h2
      have ea : assignEach (.Name x p :: r) X.env = (false, assign (.Name x p) X.env) :: assignEach r X.env := rfl
      refine ⟨pgs_cons (pg_name (by rw [k.N]; exact k.nd) hN l1 l2) i1 rfl, by rw [ea, List.length_cons, i2, List.length_cons], ?_, by rw [List.length_cons, i4, List.length_cons]⟩
      rw [ea, List.findIdx?_cons]
      simp [i3]
    · cases h
theorem trAug_ok {op : Operator} {o : Bop} (h : trAug op = some o) : (op = .Add ∧ o = .add) ∨ (op = .Sub ∧ o = .sub) ∨ (op = .Mult ∧ o = .mul) ∨ (op = .FloorDiv ∧ o = .fdiv) ∨ (op = .Mod ∧ o = .mod) ∨ (op = .LShift ∧ o = .shl) ∨ (op = .RShift ∧ o = .shr) ∨ (op = .BitAnd ∧ o = .band) ∨ (op = .BitOr ∧ o = .bor) ∨ (op = .BitXor ∧ o = .bxor) := by
  cases op <;> cases h <;> simp
theorem snd_par (k : CokS X c C E lv) {ts vs : List Expr} {is : List Nat} {b : Bool} {xs : Exs} {kt k2 : Nat} {p p2 pos : Pos} (h1 : trNms c ts = some is) (h2 : trPar c ts vs = some b) (hl : ts.length = vs.length) (hz : ts.length ≤ 1000) (nd : is.Nodup) (hF : PA X vs (tF X C E xs)) :
    PS X (.Assign [.Tuple ts kt p] (.Tuple vs k2 p2) pos) (tS X C E (.par is xs)) := by
  obtain ⟨g1, g2, g3, g4⟩ := trNms_ok k.toCok h1
  have reg : swappedStores [.Tuple ts kt p] (.Tuple vs k2 p2) X.env = pure none → PS X (.Assign [.Tuple ts kt p] (.Tuple vs k2 p2) pos) (tS X C E (.par is xs)) := fun hw =>
    sm_parT (by omega) (ps_asg (pe_tup hF) (pg_tup k.calm g1 g2 g3) rfl hw)
  unfold trPar at h2
  split at h2
  · rename_i hf; exact reg (swf_no hf)
  split at h2
  · rename_i hn; exact reg (swn_no k.sk hn)
  split at h2
  · rename_i x px y py a b' hn hf
    split at h2
    · rename_i hk
      rw [Bool.and_eq_true] at hk
      split at h2
      · rename_i hc
        simp only [Bool.and_eq_true, decide_eq_true_eq, Bool.not_eq_true'] at hc
        obtain ⟨⟨⟨⟨c1, c2⟩, c3⟩, c4⟩, c5⟩ := hc
        have hf' : (foldedForSure 8 a && foldedForSure 8 b') = false := by simpa using hf
        have lx := kLoc_of k hk.1
        have ly := kLoc_of k hk.2
        simp only [trNms] at h1
        split at h1
        · rename_i i js q1 q2 q3
          split at q3
          · rename_i j ls r1 r2 r3
            cases r3; cases q3; cases h1
            have hij : i ≠ j := by
              intro z; subst z; simp at nd
            exact sm_par2 (ps_par k.calm (by rw [k.N]; exact k.nd) (by rw [k.N]; exact nix_get q2) (by rw [k.N]; exact nix_get r2) hij lx ly hF (sw2_yes k.sk lx ly c1 c2 c3 c4 hf' c5) rfl)
          · cases q3
        · cases h1
      · cases h2
    · rename_i hk
      refine reg (sw2_no k.sk ?_)
      rw [Bool.and_eq_true, Classical.not_and_iff_not_or_not] at hk
      rcases hk with hk | hk
      · exact .inl (kLoc_no k (by simpa using hk))
      · exact .inr (kLoc_no k (by simpa using hk))
  · rename_i x px y py z pz a b' d hn hf
    split at h2
    · rename_i hk
      rw [Bool.and_eq_true, Bool.and_eq_true] at hk
      split at h2
      · rename_i hc
        simp only [Bool.and_eq_true, decide_eq_true_eq, Bool.not_eq_true'] at hc
        obtain ⟨⟨⟨⟨⟨⟨⟨⟨c1, c1'⟩, c2⟩, c2'⟩, c2''⟩, c3⟩, c4⟩, c4'⟩, c5⟩ := hc
        have hf' : (foldedForSure 8 a && (foldedForSure 8 b' && foldedForSure 8 d)) = false := by simpa using hf
        have lx := kLoc_of k hk.1
        have ly := kLoc_of k hk.2.1
        have lz := kLoc_of k hk.2.2
        simp only [trNms] at h1
        split at h1
        · rename_i i js q1 q2 q3
          split at q3
          · rename_i j ls r1 r2 r3
            split at r3
            · rename_i l us s1 s2 s3
              cases s3; cases r3; cases q3; cases h1
              have hij : i ≠ j := by intro z; subst z; simp at nd
              have hil : i ≠ l := by intro z; subst z; simp at nd
              have hjl : j ≠ l := by intro z; subst z; simp at nd
              exact sm_par3 (ps_par3 k.calm (by rw [k.N]; exact k.nd) (by rw [k.N]; exact nix_get q2) (by rw [k.N]; exact nix_get r2) (by rw [k.N]; exact nix_get s2) hij hil hjl lx ly lz hF (sw3_yes k.sk lx ly lz c1 c1' c2 c2' c2'' c3 c4 c4' hf' c5) rfl)
            · cases r3
          · cases q3
        · cases h1
      · cases h2
    · rename_i hk
      refine reg (sw3_no k.sk ?_)
      rw [Bool.and_eq_true, Bool.and_eq_true, Classical.not_and_iff_not_or_not, Classical.not_and_iff_not_or_not] at hk
      rcases hk with hk | hk | hk
      · exact .inl (kLoc_no k (by simpa using hk))
      · exact .inr (.inl (kLoc_no k (by simpa using hk)))
      · exact .inr (.inr (kLoc_no k (by simpa using hk)))
  · cases h2
end
end DL
set_option Elab.async false
set_option linter.all false
set_option maxRecDepth 100000
set_option maxHeartbeats 4000000
/-! D13: the translation of statements is sound; a def keeps the promise of its reading. -/
namespace DL
open PySem PySem.Spec PyProof.Rows L2
section
variable {X : Cx} {c : Tc} {C : Nat → Fs} {E : XK} {lv : Nat}
theorem notVar {x : Ex} (h : isVar x = false) : ∀ i, x ≠ .var i := fun i z => by subst z; cases h
theorem swsole {t v : Expr} {l : Nat} {env : PySem.Env} (h : isComp v = false) : swapsWithSole [t] v l env = pure false := swp_no (e := v) (t := some t) h
theorem notSl {e : Expr} (h : isSl e = false) : ∀ a b d p, e ≠ .Slice a b d p := fun a b d p z => by subst z; cases h
theorem snd_asg (k : CokS X c C E lv) {y : Str} {py pos : Pos} {v : Expr} {i : Nat} {x : Ex} (hy : locK (c.kind y) = true) (hi : nix c.N y = some i) (hv : PE X v (tE X C E x)) (hs : swapsWith v (some (.Name y py)) pos.line X.env = pure false) : PS X (.Assign [.Name y py] v pos) (tS X C E (.asg (.nm i) x)) := by
  obtain ⟨l1, l2⟩ := loc_of k.toCok hy
  exact sm_asg (tg := v) (e := v) (ps_asg hv (pg_name (by rw [k.N]; exact k.nd) (by rw [k.N]; exact nix_get hi) l1 l2) hs sst_name)
theorem snd_asgs (k : CokS X c C E lv) {n : Nat} {tg v : Expr} {pos : Pos} {x : Sm} (h : trAsg n c tg v = some x) : PS X (.Assign [tg] v pos) (tS X C E x) := by
  have hE : ∀ {e x}, trE n c e = some x → PE X e (tE X C E x) := fun h => (snd n).1 k.toCok h
  have fn : ∀ e x, trE n c e = some x → ∀ v p, e ≠ .Starred v p := fun e x h => ns_of h
  cases tg with
  | Name y py =>
    by_cases hc : ∃ elt gs scope p, v = .ListComp elt gs scope p
    · obtain ⟨elt, gs, scope, p, rfl⟩ := hc
      have h' : asgLc c (trE n c) y py p scope (.ListComp elt gs scope p) = some x := h
      unfold asgLc at h'
      split at h'
      · rename_i i z hy h1 h2
        split at h'
        · rename_i hl
          cases h'
          simp only [Bool.and_eq_true, decide_eq_true_eq, Bool.not_eq_true'] at hl
          cases n with
          | zero => simp [trE] at h2
          | succ n =>
            match gs, h2 with
            | [g], h2 =>
              obtain ⟨it, t, cs, e, rfl, ha, ok, hi, hg, ht, he, hs, imp⟩ := snd_lc (snd n).1 (snd n).2.1 (snd n).2.2 k.toCok h2
              obtain ⟨tg, iter, ifs, asy⟩ := g
              cases ha
              have ly := kLoc_of k hy
              exact sm_asg (tg := .Name y py) (e := .Name y py) (PS.imp (ps_setLc (i := i) k.calm (by rw [k.N]; exact k.nd) (by rw [k.N]; exact nix_get h1) ly (sw_true k.sk ly (by rw [hl.1]; exact beq_self_eq_true _) hl.2) hi ok hg ht he hs) fun D σ H q => imp q)
            | [], h2 => simp [trE] at h2
            | _ :: _ :: _, h2 => simp [trE] at h2
        · cases h'
      · rename_i i z hy hy2 h1 h2
        cases h'
        exact snd_asg k hy2 h1 (hE h2) (swl_no (kLoc_no k hy))
      · cases h'
    · have h' : asgOf c (trE n c) y v = some x := by
        cases v <;> first | exact absurd ⟨_, _, _, _, rfl⟩ hc | exact h
      unfold asgOf at h'
      split at h'
      · rename_i i z h1 h2 h3 h4
        cases h'
        exact snd_asg k h2 h3 (hE h4) (swp_no h1)
      · cases h'
  | Tuple ts kt p =>
    by_cases hc : ∃ vs k2 p2, v = .Tuple vs k2 p2
    · obtain ⟨vs, k2, p2, rfl⟩ := hc
      have h' : asgPar c (trE n c) ts vs = some x := h
      unfold asgPar at h'
      split at h'
      · rename_i is b xs h1 h2 h3
        split at h'
        · rename_i hl
          cases h'
          exact snd_par k h1 h2 hl.1 hl.2.1 hl.2.2 (mapX_F (fun e x h => hE h) fn h3)
        · cases h'
      · cases h'
    · have h' : asgTp c (trTg n c) (trE n c) (.Tuple ts kt p) v = some x := by
        cases v <;> first | exact absurd ⟨_, _, _, rfl⟩ hc | exact h
      have ht : isTupE v = false := by
        cases v <;> first | exact absurd ⟨_, _, _, rfl⟩ hc | rfl
      unfold asgTp at h'
      split at h'
      · rename_i t z h1 h2 h3
        cases h'
        have g := (trTg_ok n k.toCok h2).1
        have tt : ∃ u, t = .tp u := by
          cases n with
          | zero => simp [trTg] at h2
          | succ n =>
            simp only [trTg, Option.map_eq_some_iff] at h2
            obtain ⟨u, _, rfl⟩ := h2
            exact ⟨u, rfl⟩
        obtain ⟨u, rfl⟩ := tt
        exact sm_asgT (ps_asg (hE h3) g (swsole h1) (sst_tup ht))
      · cases h'
  | Subscript o j tp =>
    have h' : asgSub c (trE n c) o j v = some x := h
    unfold asgSub at h'
    split at h'
    · split at h'
      · rename_i i z w h1 h2 h3 h4 h5
        cases h'
        exact sm_setx k.toCok.hu (trV_ok k.toCok h3).1 (hE h4) (notSl h2) (hE h5) (swsole h1) sst_sub
      · cases h'
    · cases h'
  | _ => cases h
theorem snd_asx (k : CokS X c C E lv) {n : Nat} {tg v : Expr} {pos : Pos} {x : Sm} (h : asxOf c (trTg n c) (trE n c) tg v = some x) : PS X (.Assign [tg] v pos) (tS X C E x) := by
  unfold asxOf at h
  split at h
  · rename_i y yp j sp
    split at h
    · rename_i i z t h1 h2 h3 h4
      cases h
      have g := (trTg_ok n k.toCok h4).1
      refine sm_asx (o := .Name y yp) (sp := sp) k.toCok.hu (trV_ok k.toCok h2).1 ((snd n).1 k.toCok h3) (plainIx_of (by intros lo hi p e; subst e; cases h1)) fun he => ?_
      cases n with
      | zero => simp [trTg] at h4
      | succ n =>
        cases tg with
        | Name q qp => exact ps_asg he g (swsole rfl) sst_name
        | Tuple ts kk qp => exact ps_asg he g (swsole rfl) (sst_tup rfl)
        | _ => simp [trTg] at h4
    · cases h
  · cases h
theorem snd_S : ∀ (n : Nat), CokS X c C E lv → ∀ {s : Stmt} {x : Sm}, trS n c s = some x → PS X s (tS X C E x)
  | 0, k, s, x, h => by simp [trS] at h
  | n + 1, k, s, x, h => by
    have hE : ∀ {e x}, trE n c e = some x → PE X e (tE X C E x) := fun h => (snd n).1 k.toCok h
    have hT : ∀ {e x}, trT n c e = some x → PT X e (tT X C E x) := fun h => (snd n).2.1 k.toCok h
    have hI : ∀ {tg e x}, trI n c (isTupE tg) e = some x → PI X tg e (tI X C E x) := fun h => (snd n).2.2 k.toCok h
    have hS : ∀ s x, trS n c s = some x → PS X s (tS X C E x) := fun s x h => snd_S n k h
    have fn : ∀ e x, trE n c e = some x → ∀ v p, e ≠ .Starred v p := fun e x h => ns_of h
    cases s with
    | Assign ts v pos =>
      match ts, h with
      | [tg], h =>
        simp only [trS] at h
        split at h
        · rename_i z hz
          cases h
          exact snd_asx k hz
        · exact snd_asgs k (n := n) h
      | [], h => simp [trS] at h
      | _ :: _ :: _, h => simp [trS] at h
    | AugAssign tg op e pos =>
      cases tg with
      | Name y py =>
        simp only [trS] at h
        split at h
        · rename_i i o z h1 h2 h3 h4
          cases h
          obtain ⟨l1, l2⟩ := loc_of k.toCok h1
          have hN : X.N[i]? = some y := by rw [k.N]; exact nix_get h2
          exact sm_aug (trAug_ok h3) (by rw [k.N]; exact k.nd) hN l1 l2 (fun he ho => ps_aug (by rw [k.N]; exact k.nd) hN l1 he ho l2) (hE h4)
        · cases h
      | Subscript ob j tp =>
        cases ob with
        | Name y py =>
          simp only [trS] at h
          split at h
          · rename_i i o z w h1 h2 h3 h4 h5
            cases h
            exact sm_augx k.toCok.hu (trAug_ok h3) (trV_ok k.toCok h2).1 (hE h4) (notSl h1) (hE h5)
          · cases h
        | _ => simp [trS] at h
      | _ => simp [trS] at h
    | Expr e pos =>
      simp only [trS] at h
      split at h
      · rename_i y yp m ap a cp hm
        have e1 := mcall_eq hm
        subst e1
        split at h
        · rename_i z0 ha
          cases h
          unfold appOf at ha
          split at ha
          · rename_i i z h1 h2 h3 h4
            cases ha
            have hm' := of_decide_eq_true h1
            subst hm'
            exact sm_app (trV_ok k.toCok h3).1 (hE h4) (fn _ _ h4) rfl (by rw [of_decide_eq_true h2]; exact beq_self_eq_true _) (by rw [star_of (fn _ _ h4)]; rfl)
          · cases ha
        · unfold extOf at h
          split at h
          · rename_i i z h1 h2 h3 h4
            cases h
            have hm' := of_decide_eq_true h1
            subst hm'
            exact sm_ext (trV_ok k.toCok h3).1 (hE h4) (fn _ _ h4) rfl (by rw [of_decide_eq_true h2]; exact beq_self_eq_true _) (by rw [star_of (fn _ _ h4)]; rfl)
          · cases h
      · unfold exprOf at h
        split at h
        · rename_i z h1 h2; cases h; exact sm_expr (hE h2) (swp_no h1)
        · cases h
    | If t a b pos =>
      simp only [trS] at h
      split at h
      · rename_i z y w h1 h2 h3; cases h; exact sm_ite (hT h1) (mapS_ok hS h2) (mapS_ok hS h3)
      · cases h
    | For tg it b els pos =>
      cases els with
      | cons _ _ => simp [trS] at h
      | nil =>
        simp only [trS] at h
        split at h
        · rename_i t i y h1 h2 h3 h4
          cases h
          exact sm_for k.pow k.calm (hI h3) (trTg_ok n k.toCok h2).1 (mapS_ok hS h4) (fun w => trTg_tp h2 (trI_wk h3 w)) (folded_of h1)
        · cases h
    | While t b els pos =>
      cases els with
      | cons _ _ => simp [trS] at h
      | nil =>
        simp only [trS] at h
        split at h
        · rename_i z y h1 h2; cases h; exact sm_whl k.pow (hT h1) (mapS_ok hS h2)
        · cases h
    | Return v pos =>
      cases v with
      | none => simp only [trS] at h; cases h; exact sm_retn
      | some e =>
        have h0 : trRet n c e = some x := by simpa only [trS] using h
        by_cases hc : ∃ y p, e = .Name y p
        · obtain ⟨y, p, rfl⟩ := hc
          simp only [trRet, Option.map_eq_some_iff] at h0
          obtain ⟨i, h1, rfl⟩ := h0
          exact sm_retv (trV_ok k.toCok h1).1
        · have h' : retOf (trE n c) e = some x := by
            cases e <;> first | exact absurd ⟨_, _, rfl⟩ hc | exact h0
          unfold retOf at h'
          split at h'
          · rename_i z h1
            split at h'
            · cases h'
            · rename_i hv
              cases h'
              exact sm_ret (notVar (by simpa using hv)) (hE h1)
          · cases h'
    | Pass pos => simp only [trS] at h; cases h; exact sm_pass
    | Break pos => simp only [trS] at h; cases h; exact sm_brk
    | Continue pos => simp only [trS] at h; cases h; exact sm_cnt
    | _ => simp [trS] at h

/-! ### a def -/
def envOf (N : List Str) (sl : List Sl) : Env := sl ++ List.replicate (N.length - sl.length) .un
theorem paired_get {α β : Type} {F : α → β → Prop} : ∀ {xs : List α} {ys : List β}, Paired F xs ys → ∀ {i : Nat} {y : β}, ys[i]? = some y → ∃ x, xs[i]? = some x ∧ F x y
  | _, _, .nil, i, y, e => by simp at e
  | _, _, .cons h t, 0, y, e => by simp at e; subst e; exact ⟨_, rfl, h⟩
  | _, _, .cons h t, i + 1, y, e => by
    obtain ⟨x, e', r⟩ := paired_get t (i := i) (y := y) (by simpa using e)
    exact ⟨x, by simpa using e', r⟩
theorem start_ok {K : PySem.W.Frag} {S : Sx} {G H : Hp} {N : List Str} {ws : List V} {sl : List Sl} (s : Sub G H) (so : SrcOk S G H) (r : Paired (ArgOk K S G) ws sl) : StS K S G H G H (L2.start N ws) (envOf N sl) := by
  have hl : ws.length = sl.length := Paired.length r
  have at_ : ∀ (i : Nat) (l : Sl), (envOf N sl)[i]? = some l → (∃ v, (L2.start N ws)[i]? = some (some v) ∧ ArgOk K S G v l) ∨ l = .un := fun i l e => by
    unfold envOf at e
    by_cases hi : i < sl.length
    · rw [List.getElem?_append_left hi] at e
      obtain ⟨v, ev, h⟩ := paired_get r e
      refine .inl ⟨v, ?_, h⟩
      unfold L2.start
      rw [List.getElem?_append_left (by rw [List.length_map, hl]; exact hi), List.getElem?_map, ev]
      rfl
    · rw [List.getElem?_append_right (by omega)] at e
      rw [List.getElem?_replicate] at e
      split at e
      · cases e; exact .inr rfl
      · cases e
  refine ⟨.refl s so, so, fun i l e => ?_, fun i j d d' v _ e _ _ _ => ?_, by unfold L2.start envOf; simp [hl]⟩
  · rcases at_ i l e with ⟨v, ev, h⟩ | rfl
    · cases l with
      | un => trivial
      | sh d => exact ⟨v, ev, h⟩
      | src => obtain ⟨sa, ca, h1, rfl⟩ := h; exact ⟨sa, ca, h1, ev⟩
      | ow d => exact h.elim
    · trivial
  · rcases at_ i _ e with ⟨_, _, h⟩ | h
    · exact h.elim
    · cases h
/-- a def of the module, by its reading -/
theorem def_ok {P : Program} {w : World} {K : PySem.W.Frag} {mg : Str → Option Value} {base : Heap} {x qual : Str} {params : Arguments} {body : List Stmt} {scope : Scope} {f : Addr} {fd : FuncData} {N ps : List Str} {ft : List (Str × Nat)} {gl : List (Str × PyData)} {lv n : Nat} {c : Fs} {b : Sms}
    (F : FunD K x qual params body scope [] [] f fd) (Sc : FnScope N ps scope) (tr : mapS (trS n ⟨N, scope, ft, gl⟩) body = some b)
    (fns : ∀ (j : Nat) (y : Str), (y, j) ∈ ft → ∃ g gd qs, mg y = some (.ref g) ∧ PySem.W.keepIn K (.ref g) = true ∧ L2.Binds K gd qs [] ∧ FnG P w K mg base lv g gd qs (SpOf K mg (C j)))
    (bi : ∀ y ∈ blts, mg y = none) (sy : SysD base) (gls : ∀ x d, gl.lookup x = some d → GlV mg x d) (ar : ∀ sl Q Ep, c sl Q Ep → sl.length = ps.length)
    (rd : ∀ sl Q Ep, c sl Q Ep → b.rd C (envOf N sl) { nx := fun _ => Q false .none, rt := Q, ex := Ep }) : FnG P w K mg base (lv + 1) f fd ps (SpOf K mg c) := by
  refine fn_g F Sc (fun ws H Q E h => ?_) (fun cdv A outer s H ws Q E hr hcl h => ?_)
  · obtain ⟨S, G, sl, Qp, Ep, _, _, r, hc, _, _⟩ := h
    rw [Paired.length r]
    exact ar _ _ _ hc
  · obtain ⟨S, G, sl, Qp, Ep, s1, so, r, hc, rz, fin⟩ := h
    have ck : CokS (cxOf (L2.CX P w) P w K mg base N qual scope f cdv A outer s H E) ⟨N, scope, ft, gl⟩ C E lv := by
      refine ⟨⟨rfl, Sc.nd, Sc.kind, fun _ _ h _ => h, fun y h => ?_, fun _ _ => rfl, rfl, hr, hcl, passes_call (takes_of rfl rfl rfl rfl) (fun _ _ _ _ h => h), fun j y hj => fns j y hj, bi, sy, gls⟩, rfl, passes_of rfl⟩
      exact .inl h
    refine ⟨tSs (cxOf (L2.CX P w) P w K mg base N qual scope f cdv A outer s H E) C E b, mapS_ok (fun s x h => snd_S n ck h) tr, ?_⟩
    refine ⟨S, G, H, G, G, envOf N sl, { nx := fun _ => Qp false .none, rt := Qp, ex := Ep }, start_ok s1 so r, .refl G, ⟨fun G' H' σ' env' st' _ h' => ?_, fun _ _ _ _ _ _ h' => h'.elim, fun _ _ _ _ _ _ h' => h'.elim, fun v H' p => fin v H' p, rz⟩, rd _ _ _ hc⟩
    exact fin _ _ (.of st'.x .non h')
end
end DL
set_option Elab.async false
set_option linter.all false
set_option maxRecDepth 100000
set_option maxHeartbeats 4000000
/-! Ds: the source of picks: what a pick does. -/
namespace DL
open PySem PySem.Spec PyProof.Rows L2
def srcD (ca : Addr) (l m t : Int) : List (Key × V) := [(kCells, .ref ca), (kLeft, .int l), (kMixed, .int m), (kTurn, .int t)]
section
variable {ca : Addr} {l m t : Int} {v : V}
theorem val_cells : valV (srcD ca l m t) kCells = some (.ref ca) := rfl
theorem val_left : valV (srcD ca l m t) kLeft = some (.int l) := rfl
theorem val_mixed : valV (srcD ca l m t) kMixed = some (.int m) := rfl
theorem val_turn : valV (srcD ca l m t) kTurn = some (.int t) := rfl
theorem put_left {i : Int} : putK (srcD ca l m t) kLeft (.int i) = srcD ca i m t := rfl
theorem put_mixed {i : Int} : putK (srcD ca l m t) kMixed (.int i) = srcD ca l i t := rfl
theorem put_turn {i : Int} : putK (srcD ca l m t) kTurn (.int i) = srcD ca l m i := rfl
end
/-- only the source has changed -/
structure SrcStep (H H' : Hp) (sa ca : Addr) : Prop where
  at_ : SrcAt H' sa ca
  same : ∀ a, a ≠ sa → a ≠ ca → H' a = H a
def rInt1 : List V → Hp → VK → Prop := fun xs H Q => (∃ i, xs = [V.int i] ∧ Q (.int i) H) ∨ ∃ k, xs = [V.bl k] ∧ Q (.int (if k = true then 1 else 0)) H
def rMax2 : List V → Hp → VK → Prop := fun xs H Q => ∃ i j, xs = [V.int i, V.int j] ∧ Q (.int (if j > i then j else i)) H
def rLen1 (K : PySem.W.Frag) : List V → Hp → VK → Prop := fun xs H Q => ∃ x n, xs = [x] ∧ LenV K x H n ∧ Q (.int (n : Nat)) H
def gSrc (k : Str) : TE := tDGet (tVar 0) (tC (.str k))
def pSrc (k : Str) (t : TE) : TS := sDPut (tVar 0) (tC (.str k)) t
def eMany : TE := tCB rMax2 (tCons (tC (.int 1)) (tCons (tVar 1) tNil))
def eInt (t : TE) : TE := tCB rInt1 (tCons t tNil)
def eMod (a b : TE) : TE := tOp (rI (fun _ j => 0 < j) fun i j => V.int (i % j)) a b
def eAdd (a b : TE) : TE := tOp (rI0 fun i j => V.int (i + j)) a b
def eMul (a b : TE) : TE := tOp (rI CMul fun i j => V.int (i * j)) a b
def eDiv (a b : TE) : TE := tOp (rI CDivW fun i j => V.int (i / j)) a b
def cPick (K : PySem.W.Frag) : TT := tAnd (tB (tGt (tVar 1) (tC (.int 1)))) (tAnd (tB (tLt (gSrc "left") (tC (.int 2)))) (tB (tGt (tCB (rLen1 K) (tCons (gSrc "cells") tNil)) (tC (.int 0)))))
def lPick (K : PySem.W.Frag) : TS := tWhile (cPick K) (pSrc "left" (tBM0 K "list" rPop (gSrc "cells")))
def iPick : TS := tIfS (tOr (tB (tLt (tVar 1) (tC (.int 2)))) (tB (tGt (tVar 2) (tC (.int 1))))) (tSeq (pSrc "left" (eDiv (tVar 2) eMany)) (tRet (eMod (eInt (tVar 2)) eMany))) tNext
def tPick (K : PySem.W.Frag) : TS := tSeq (lPick K) (tSeq (tAsg (gSrc "left") (gName 2)) (tSeq iPick (tSeq (pSrc "turn" (eAdd (gSrc "turn") (tC (.int 1))))
  (tSeq (tAsg (eMod (eInt (eAdd (gSrc "mixed") (eMul (gSrc "turn") (tC (.int 104729))))) (tC (.int 998244353))) (gName 3))
  (tSeq (tAsg (eMod (eInt (eAdd (eMul (tVar 3) (tVar 3)) (eMul (gSrc "turn") (tC (.int 17))))) (tC (.int 2147483647))) (gName 3))
  (tSeq (pSrc "mixed" (tVar 3)) (tRet (eMod (eInt (eDiv (tVar 3) (tC (.int 16)))) (tVar 1)))))))))
section
variable {K : PySem.W.Frag} {H : Hp} {sa ca : Addr} {m : Int}
theorem dget_src {l mi t : Int} {k : Key} {u : V} (e : H sa = some (.dK (srcD ca l mi t))) (hv : valV (srcD ca l mi t) k = some u) : DGet H sa (kV k) (some u) := .inl ⟨_, k, .inl e, rfl, hv.symm⟩
theorem small4 {l mi t : Int} : (srcD ca l mi t).length < sizeLine := by rw [sizeLine_eq]; show 4 < _; decide
theorem g_src {σ : L2.St} {Q : VK} {l mi t : Int} {k : Str} {u : V} (e0 : σ[0]? = some (some (.ref sa))) (e : H sa = some (.dK (srcD ca l mi t))) (hv : valV (srcD ca l mi t) (.inr k) = some u) (q : Q u H) : gSrc k σ H Q :=
  ⟨_, e0, sa, u, rfl, .inl ⟨_, .inr k, .inl e, rfl, hv.symm⟩, q⟩
theorem p_src {σ : L2.St} {D : Ends} {l mi t l' mi' t' : Int} {k : Str} {v : V} (e0 : σ[0]? = some (some (.ref sa))) (e : H sa = some (.dK (srcD ca l mi t))) (hp : putK (srcD ca l mi t) (.inr k) v = srcD ca l' mi' t')
    (q : D.nx σ (upd H sa (.dK (srcD ca l' mi' t')))) : tVar 0 σ H fun x H2 => tC (.str k) σ H2 fun y H3 => ∃ a H4, x = .ref a ∧ DPut H3 a y v H4 ∧ D.nx σ H4 :=
  ⟨_, e0, sa, _, rfl, .inl ⟨_, .inr k, e, rfl, small4, by rw [hp]⟩, q⟩
theorem e_many {σ : L2.St} {Q : VK} (e1 : σ[1]? = some (some (.int m))) (q : Q (.int (if m > 1 then m else 1)) H) : eMany σ H Q := ⟨_, e1, 1, m, rfl, q⟩
def RngP (m r : Int) : Prop := 0 ≤ r ∧ (1 ≤ m → r < m) ∧ (m < 1 → r = 0)
theorem upd2 {H : Hp} {a : Addr} {o o' : HO} : upd (upd H a o) a o' = upd H a o' := by
  funext b
  by_cases h : b = a
  · subst h; rw [upd_same, upd_same]
  · rw [upd_ne h, upd_ne h, upd_ne h]
theorem log2_small {n : Int} (h : n.natAbs < 2147483648) : n.natAbs.log2 < 9000 := by
  by_cases z : n.natAbs = 0
  · rw [z]; decide
  · have := (Nat.log2_lt z (k := 9000)).mpr (Nat.lt_of_lt_of_le h (by
      have : (2147483648 : Nat) = 2 ^ 31 := by decide
      rw [this]; exact Nat.pow_le_pow_right (by decide) (by decide)))
    exact this
/-- behind the loop -/
theorem pick_rest {D : Ends} (ne : sa ≠ ca) {H0 : Hp} {ns : List Int} {l mi t : Int} (e1 : H sa = some (.dK (srcD ca l mi t))) (e2 : H ca = some (.lst (ns.map V.int))) (n0 : ∀ n ∈ ns, 0 ≤ n) (l0 : 0 ≤ l) (m0 : 0 ≤ mi) (m1 : mi < 2147483647) (t0 : 0 ≤ t) (len : ns.length ≤ 63)
    (same : ∀ a, a ≠ sa → a ≠ ca → H a = H0 a) (big : m.natAbs.log2 < 9000) (want : ∀ r H', RngP m r → SrcStep H0 H' sa ca → D.rt (.int r) H') :
    tSeq (tAsg (gSrc "left") (gName 2)) (tSeq iPick (tSeq (pSrc "turn" (eAdd (gSrc "turn") (tC (.int 1))))
      (tSeq (tAsg (eMod (eInt (eAdd (gSrc "mixed") (eMul (gSrc "turn") (tC (.int 104729))))) (tC (.int 998244353))) (gName 3))
      (tSeq (tAsg (eMod (eInt (eAdd (eMul (tVar 3) (tVar 3)) (eMul (gSrc "turn") (tC (.int 17))))) (tC (.int 2147483647))) (gName 3))
      (tSeq (pSrc "mixed" (tVar 3)) (tRet (eMod (eInt (eDiv (tVar 3) (tC (.int 16)))) (tVar 1)))))))) D [some (.ref sa), some (.int m), none, none] H := by
  have at_ : ∀ {H' : Hp} {l' mi' t' : Int}, H' = upd H sa (.dK (srcD ca l' mi' t')) → 0 ≤ l' → 0 ≤ mi' → mi' < 2147483647 → 0 ≤ t' → SrcStep H0 H' sa ca := fun {H' l' mi' t'} e a b c d => by
    subst e
    refine ⟨⟨ne, ns, l', mi', t', upd_same, ?_, n0, a, b, c, d, len⟩, fun x h1 h2 => ?_⟩
    · rw [upd_ne ne.symm]; exact e2
    · rw [upd_ne h1]; exact same x h1 h2
  refine g_src (σ := [some (.ref sa), some (.int m), none, none]) rfl e1 val_left ?_
  have b1 : (if m > 1 then m else 1 : Int) > 0 := by split <;> omega
  have b2 : (if m > 1 then m else 1 : Int).natAbs.log2 < 9000 := by
    split
    · exact big
    · exact log2_small (by decide)
  have yes : (m < 2 ∨ 1 < l) → (tSeq (pSrc "left" (eDiv (tVar 2) eMany)) (tRet (eMod (eInt (tVar 2)) eMany))) D [some (.ref sa), some (.int m), some (.int l), none] H := fun _ => by
    refine ⟨.int l, rfl, e_many (σ := [some (.ref sa), some (.int m), some (.int l), none]) rfl ⟨l, _, rfl, rfl, ⟨b1, b2⟩, p_src (σ := [some (.ref sa), some (.int m), some (.int l), none]) rfl e1 put_left ?_⟩⟩
    refine ⟨.int l, rfl, .inl ⟨l, rfl, e_many (σ := [some (.ref sa), some (.int m), some (.int l), none]) rfl ⟨l, _, rfl, rfl, b1, ?_⟩⟩⟩
    refine want _ _ ⟨Int.emod_nonneg _ (by omega), fun h => ?_, fun h => ?_⟩ (at_ rfl (Int.ediv_nonneg l0 (by omega)) m0 m1 t0)
    · have := Int.emod_lt_of_pos l b1
      split at this <;> split <;> omega
    · have := Int.emod_lt_of_pos l b1
      have := Int.emod_nonneg l (b := if m > 1 then m else 1) (by omega)
      split at * <;> omega
  have no : ¬ m < 2 → (tSeq (pSrc "turn" (eAdd (gSrc "turn") (tC (.int 1))))
      (tSeq (tAsg (eMod (eInt (eAdd (gSrc "mixed") (eMul (gSrc "turn") (tC (.int 104729))))) (tC (.int 998244353))) (gName 3))
      (tSeq (tAsg (eMod (eInt (eAdd (eMul (tVar 3) (tVar 3)) (eMul (gSrc "turn") (tC (.int 17))))) (tC (.int 2147483647))) (gName 3))
      (tSeq (pSrc "mixed" (tVar 3)) (tRet (eMod (eInt (eDiv (tVar 3) (tC (.int 16)))) (tVar 1))))))) D [some (.ref sa), some (.int m), some (.int l), none] H := fun hm => by
    have e3 : upd H sa (.dK (srcD ca l mi (t + 1))) sa = some (.dK (srcD ca l mi (t + 1))) := upd_same
    have s2 : ∀ y, 0 ≤ y → y < 2147483647 → (tSeq (pSrc "mixed" (tVar 3)) (tRet (eMod (eInt (eDiv (tVar 3) (tC (.int 16)))) (tVar 1)))) D [some (.ref sa), some (.int m), some (.int l), some (.int y)] (upd H sa (.dK (srcD ca l mi (t + 1)))) := fun y y0 y1 => by
      refine ⟨.int y, rfl, p_src (σ := [some (.ref sa), some (.int m), some (.int l), some (.int y)]) rfl e3 put_mixed ?_⟩
      refine ⟨.int y, rfl, y, 16, rfl, rfl, ⟨by decide, by decide⟩, .inl ⟨_, rfl, .int m, rfl, y / 16, m, rfl, rfl, (by show 0 < m; omega), ?_⟩⟩
      refine want _ _ ⟨Int.emod_nonneg _ (by omega), fun h => Int.emod_lt_of_pos _ (by omega), fun h => by omega⟩ (at_ upd2 l0 y0 y1 (by omega))
    have s1 : ∀ x, 0 ≤ x → x < 998244353 → (tSeq (tAsg (eMod (eInt (eAdd (eMul (tVar 3) (tVar 3)) (eMul (gSrc "turn") (tC (.int 17))))) (tC (.int 2147483647))) (gName 3))
      (tSeq (pSrc "mixed" (tVar 3)) (tRet (eMod (eInt (eDiv (tVar 3) (tC (.int 16)))) (tVar 1))))) D [some (.ref sa), some (.int m), some (.int l), some (.int x)] (upd H sa (.dK (srcD ca l mi (t + 1)))) := fun x x0 x1 => by
      refine ⟨.int x, rfl, .int x, rfl, x, x, rfl, rfl, .inl ⟨by omega, by omega⟩, ?_⟩
      refine g_src (σ := [some (.ref sa), some (.int m), some (.int l), some (.int x)]) rfl e3 val_turn ⟨t + 1, 17, rfl, rfl, .inr ⟨by decide, by decide⟩, x * x, (t + 1) * 17, rfl, rfl, ?_⟩
      exact .inl ⟨_, rfl, x * x + (t + 1) * 17, 2147483647, rfl, rfl, (by show (0 : Int) < 2147483647; decide), s2 _ (Int.emod_nonneg _ (by decide)) (Int.emod_lt_of_pos _ (by decide))⟩
    refine g_src (σ := [some (.ref sa), some (.int m), some (.int l), none]) rfl e1 val_turn ⟨t, 1, rfl, rfl, p_src (σ := [some (.ref sa), some (.int m), some (.int l), none]) rfl e1 put_turn ?_⟩
    refine g_src (σ := [some (.ref sa), some (.int m), some (.int l), none]) rfl e3 val_mixed (g_src (σ := [some (.ref sa), some (.int m), some (.int l), none]) rfl e3 val_turn ⟨t + 1, 104729, rfl, rfl, .inr ⟨by decide, by decide⟩, mi, (t + 1) * 104729, rfl, rfl, ?_⟩)
    exact .inl ⟨_, rfl, mi + (t + 1) * 104729, 998244353, rfl, rfl, (by show (0 : Int) < 998244353; decide), s1 _ (Int.emod_nonneg _ (by decide)) (Int.emod_lt_of_pos _ (by decide))⟩
  refine ⟨.int m, rfl, m, 2, rfl, rfl, decide (m < 2), rfl, ?_⟩
  by_cases hm : m < 2
  · rw [decide_eq_true hm]
    exact yes (.inl hm)
  · rw [decide_eq_false hm]
    refine ⟨.int l, rfl, l, 1, rfl, rfl, decide (1 < l), rfl, ?_⟩
    by_cases hl : 1 < l
    · rw [decide_eq_true hl]
      exact yes (.inr hl)
    · rw [decide_eq_false hl]
      exact no hm
theorem pick_sem {D : Ends} (h : SrcAt H sa ca) (big : m.natAbs.log2 < 9000) (want : ∀ r H', RngP m r → SrcStep H H' sa ca → D.rt (.int r) H') :
    tPick K D [some (.ref sa), some (.int m), none, none] H := by
  refine while_by (fun σ G => σ = [some (.ref sa), some (.int m), none, none] ∧ SrcStep H G sa ca) (fun _ G => match G ca with
    | some (.lst xs) => xs.length
    | _ => 0) ⟨rfl, h, fun _ _ _ => rfl⟩ ?_ ?_
  · rintro σ G ⟨rfl, ⟨ne, ns, l, mi, t, e1, e2, n0, l0, m0, m1, t0, len⟩, same⟩
    replace e1 : G sa = some (.dK (srcD ca l mi t)) := e1
    have rest := pick_rest (D := D) ne e1 e2 n0 l0 m0 m1 t0 len same big want
    refine ⟨.int m, rfl, m, 1, rfl, rfl, decide (1 < m), rfl, ?_⟩
    by_cases hm : 1 < m
    · rw [decide_eq_true hm]
      refine g_src (σ := [some (.ref sa), some (.int m), none, none]) rfl e1 val_left ⟨l, 2, rfl, rfl, decide (l < 2), rfl, ?_⟩
      by_cases hl : l < 2
      · rw [decide_eq_true hl]
        refine g_src (σ := [some (.ref sa), some (.int m), none, none]) rfl e1 val_cells ⟨.ref ca, ns.length, rfl, .inl ⟨ns.map V.int, SqL.of e2, by simp⟩, _, _, rfl, rfl, decide (0 < ((ns.length : Nat) : Int)), rfl, ?_⟩
        by_cases hn : 0 < ((ns.length : Nat) : Int)
        · rw [decide_eq_true hn]
          have hn' : 0 < ns.length := by omega
          have last : (ns.map V.int)[(ns.map V.int).length - 1]? = some (.int (ns[ns.length - 1]'(by omega))) := by
            rw [List.length_map, List.getElem?_map, List.getElem?_eq_getElem (by omega)]; rfl
          have e4 : upd G ca (.lst (ns.map V.int).dropLast) sa = some (.dK (srcD ca l mi t)) := by rw [upd_ne ne]; exact e1
          refine g_src (σ := [some (.ref sa), some (.int m), none, none]) rfl e1 val_cells ⟨.inl ⟨rfl, _, SqL.of e2⟩, ca, _, _, rfl, rfl, e2, last, p_src (σ := [some (.ref sa), some (.int m), none, none]) rfl e4 put_left ?_⟩
          have e5 : (upd (upd G ca (.lst (ns.map V.int).dropLast)) sa (.dK (srcD ca (ns[ns.length - 1]'(by omega)) mi t))) ca = some (.lst (ns.dropLast.map V.int)) := by
            rw [upd_ne ne.symm, upd_same, List.map_dropLast]
          refine ⟨⟨rfl, ⟨ne, ns.dropLast, _, mi, t, upd_same, e5, fun n hn => n0 n ((List.dropLast_sublist ns).subset hn), n0 _ (List.getElem_mem _), m0, m1, t0, by simp; omega⟩, fun x h1 h2 => ?_⟩, ?_⟩
          · rw [upd_ne h1, upd_ne h2]; exact same x h1 h2
          · rw [e5, e2]
            show (ns.dropLast.map V.int).length < (ns.map V.int).length
            simp
            omega
        · rw [decide_eq_false hn]
          exact rest
      · rw [decide_eq_false hl]
        exact rest
    · rw [decide_eq_false hm]
      exact rest
  · rintro σ G Q Q' k ⟨v, e, i, j, p1, p2, c, p3, h⟩
    refine ⟨v, e, i, j, p1, p2, c, p3, ?_⟩
    cases c with
    | false => exact k _ _ h
    | true =>
      obtain ⟨x, e0, a, u, ex, dg, i', j', q1, q2, c', q3, h'⟩ := h
      refine ⟨x, e0, a, u, ex, dg, i', j', q1, q2, c', q3, ?_⟩
      cases c' with
      | false => exact k _ _ h'
      | true =>
        obtain ⟨y, f0, b, z, ey, dg2, o, n, r1, r2, r3, r4, r5, r6, c'', r7, h''⟩ := h'
        exact ⟨y, f0, b, z, ey, dg2, o, n, r1, r2, r3, r4, r5, r6, c'', r7, k _ _ h''⟩
end
/-- what a pick is worth -/
def cPickF : Fs := fun sl Q _ => ∃ m : Int, sl = [.src, .sh (.int m)] ∧ m.natAbs.log2 < 9000 ∧ ∀ r, RngP m r → Q false (.int r)
theorem pick_spec {K : PySem.W.Frag} {mg : Str → Option Value} {xs : List V} {H : Hp} {Q : VK} {E : XK} (h : SpOf K mg cPickF xs H Q E) : tPick K { nx := fun _ G => Q .non G, rt := Q } (L2.start ["source", "many", "left", "mixed"] xs) H := by
  obtain ⟨S, G, sl, Qp, Ep, sub, so, pr, ⟨m, rfl, big, hq⟩, rz, fin⟩ := h
  cases pr with
  | cons a1 pr =>
  cases pr with
  | cons a2 pr =>
  cases pr
  obtain ⟨sa, ca, eS, rfl⟩ := a1
  have e2 := R.int' a2
  subst e2
  obtain ⟨g1, g2, at_⟩ := so sa ca eS
  refine pick_sem at_ big fun r H' hr st => fin _ _ ⟨G, false, .int r, ?_, .int r, hq r hr⟩
  have keep : ∀ a o, a ≠ sa → a ≠ ca → H a = some o → H' a = some o := fun a o h1 h2 e => by rw [st.same a h1 h2]; exact e
  refine ⟨.refl G, fun a o e => ?_, fun a o e n => ?_, fun _ _ => rfl, fun sa' ca' z => ?_⟩
  · exact keep a o (fun z => by subst z; rw [g1] at e; cases e) (fun z => by subst z; rw [g2] at e; cases e) (sub a o e)
  · obtain ⟨h1, h2⟩ := n sa ca eS
    exact keep a o h1 h2 e
  · rw [eS] at z
    cases z
    exact ⟨g1, g2, st.at_⟩

/-! ### the making of the source -/
def rAbs : List V → Hp → VK → Prop := fun xs H Q => ∃ i, xs = [V.int i] ∧ Q (.int (if i < 0 then -i else i)) H
def tSource (K : PySem.W.Frag) : TS := tSeq (tAsg (tC (.int 11)) (gName 1))
  (tSeq (tFor (iList K (tVar 0)) (gName 2) (tAsg (eMod (eInt (eAdd (eAdd (eMul (tVar 1) (tC (.int 69069))) (eMul (tVar 2) (tC (.int 31)))) (tC (.int 5)))) (tC (.int 2147483629))) (gName 1)))
  (tRet (tDisp [(tC (.str "cells"), tRevA K (tLc (iList K (tVar 0)) (gName 2) tYes (tCB rAbs (tCons (tVar 2) tNil)) [3, 2])), (tC (.str "left"), tC (.int 1)), (tC (.str "mixed"), tVar 1), (tC (.str "turn"), tC (.int 0))])))
def absI (i : Int) : Int := if i < 0 then -i else i
theorem source_sem {K : PySem.W.Frag} {D : Ends} {H : Hp} {a : Addr} {ns : List Int} (hS : SqL K H a (ns.map V.int)) (len : ns.length ≤ 63)
    (want : ∀ sa ca H', SrcAt H' sa ca → (∀ b o, H b = some o → H' b = some o) → H sa = none → H ca = none → D.rt (.ref sa) H') : tSource K D [some (.ref a), none, none, none] H := by
  refine ⟨_, rfl, a, rfl, ⟨_, hS⟩, for_list (fun i σ G => G = H ∧ ∃ m c, σ = [some (.ref a), some (.int m), c, none] ∧ 0 ≤ m ∧ m < 2147483647) ⟨rfl, 11, none, rfl, by decide, by decide⟩ (fun i σ G _ h => by obtain ⟨rfl, _⟩ := h; exact hS) ?_ ?_⟩
  · rintro i x σ G hx ⟨rfl, m, c, rfl, m0, m1⟩
    have xi : ∃ n, x = .int n := by
      rw [List.getElem?_map, Option.map_eq_some_iff] at hx
      obtain ⟨n, _, e⟩ := hx
      exact ⟨n, e.symm⟩
    obtain ⟨n, rfl⟩ := xi
    refine ⟨.int m, rfl, m, 69069, rfl, rfl, .inr ⟨by decide, by decide⟩, .int n, rfl, n, 31, rfl, rfl, .inr ⟨by decide, by decide⟩, m * 69069, n * 31, rfl, rfl, m * 69069 + n * 31, 5, rfl, rfl, ?_⟩
    refine .inl ⟨_, rfl, m * 69069 + n * 31 + 5, 2147483629, rfl, rfl, (by show (0 : Int) < 2147483629; decide), rfl, _, some (.int n), rfl, Int.emod_nonneg _ (by decide), ?_⟩
    have := Int.emod_lt_of_pos (m * 69069 + n * 31 + 5) (b := 2147483629) (by decide)
    omega
  · rintro σ G ⟨rfl, m, c, rfl, m0, m1⟩
    intro p np
    have s1 : Sub G (upd G p (.dK [])) := .nw np
    refine ⟨_, rfl, a, rfl, ⟨_, s1.l hS⟩, fun D0 nD => ?_⟩
    have gD : G D0 = none := s1.gnone nD
    have pD : p ≠ D0 := fun z => by rw [z, upd_same] at nD; cases nD
    let L := fun i => ((ns.take i).map fun n => V.int (absI n))
    refine ⟨fun i k I => k + i = ns.length ∧ I = upd (upd G p (.dK [])) D0 (.lst (L i)), ⟨ns.length, rfl, rfl⟩, ?_⟩
    rintro i k I ⟨hk, rfl⟩
    have s2 : Sub G (upd (upd G p (.dK [])) D0 (.lst (L i))) := s1.trans (.nw nD)
    by_cases hi : i < ns.length
    · have ex : (ns.map V.int)[i]? = some (.int ns[i]) := by rw [List.getElem?_map, List.getElem?_eq_getElem hi]; rfl
      refine .inr ⟨⟨_, _, s2.l hS, ex⟩, fun J => J = upd (upd G p (.dK [])) D0 (.lst (L (i + 1))), fun J e => ⟨k - 1, by omega, by omega, e⟩, ?_⟩
      rintro x J ⟨rfl, hx⟩
      have e2 := hx _ (s2.l hS)
      rw [ex] at e2
      cases e2
      refine ⟨rfl, ?_⟩
      refine ⟨.int ns[i], rfl, ns[i], rfl, L i, upd_same, ?_, ?_⟩
      · have : (L i).length ≤ 63 := by simp [L]; omega
        rw [sizeLine_eq]
        omega
      · have e5 : L (i + 1) = L i ++ [V.int (if ns[i] < 0 then -ns[i] else ns[i])] := by
          show (ns.take (i + 1)).map _ = _
          rw [List.take_succ, List.getElem?_eq_getElem hi, List.map_append]
          rfl
        rw [upd2, e5]
    · refine .inl ⟨⟨_, s2.l hS, by simp; omega⟩, D0, L i, rfl, .inl ⟨SqL.of upd_same, fun q nq => ?_⟩⟩
      have gq : G q = none := s2.gnone nq
      have qD : q ≠ D0 := fun z => by rw [z, upd_same] at nq; cases nq
      have qp : q ≠ p := fun z => by rw [z, upd_ne pD, upd_same] at nq; cases nq
      refine ⟨.int m, rfl, ?_, srcD q 1 m 0, rfl, (by show 4 ≤ 15; decide), want p q _ ⟨qp.symm, (ns.map absI).reverse, 1, m, 0, ?_, ?_, ?_, by decide, m0, m1, by decide, by simpa using len⟩ (fun b o e => ?_) np gq⟩
      · rw [upd_ne qp.symm, upd_ne pD, upd_same]
      · rw [upd_same]; rfl
      · have e6 : ns.take i = ns := List.take_of_length_le (by omega)
        rw [upd_ne qp, upd_same]
        show some (HO.lst (((ns.take i).map fun n => V.int (absI n)).reverse)) = _
        rw [e6, List.map_reverse, List.map_map]
        rfl
      · intro n hn
        rw [List.mem_reverse, List.mem_map] at hn
        obtain ⟨z, _, rfl⟩ := hn
        unfold absI
        split <;> omega
      · have b1 : b ≠ p := fun z => by subst z; rw [np] at e; cases e
        have b2 : b ≠ q := fun z => by subst z; rw [gq] at e; cases e
        have b3 : b ≠ D0 := fun z => by subst z; rw [gD] at e; cases e
        rw [upd_ne b1, upd_ne b2, upd_ne b3, upd_ne b1]
        exact e
end DL
set_option Elab.async false
set_option linter.all false
set_option maxRecDepth 100000
set_option maxHeartbeats 4000000
/-! Dl: a law by its reading: it makes its source, the rest is read. -/
namespace DL
open PySem PySem.Spec PyProof.Rows L2
def spSource (K : PySem.W.Frag) : Sp := fun vs H Q _ => ∃ (a : Addr) (ns : List Int), vs = [.ref a] ∧ SqL K H a (ns.map V.int) ∧ ns.length ≤ 63 ∧
  ∀ sa ca H', SrcAt H' sa ca → (∀ b o, H b = some o → H' b = some o) → H sa = none → H ca = none → Q (.ref sa) H'
def spLaw (K : PySem.W.Frag) : Sp := fun vs H Q _ => ∃ (a : Addr) (ns : List Int), vs = [.ref a] ∧ SqL K H a (ns.map V.int) ∧ ns.length ≤ 63 ∧ ∀ H', Q (.bl true) H'
def lawKp : Kp := { nx := fun _ => False, rt := fun _ d => d = .bool true, ex := fun _ => False }
theorem law_g {P : Program} {w : World} {K : PySem.W.Frag} {mg : Str → Option Value} {base : Heap} {x qual : Str} {params : Arguments} {rest : List Stmt} {scope : Scope} {f fs : Addr} {fd fds : FuncData} {N : List Str} {ft : List (Str × Nat)} {gl : List (Str × PyData)} {lv n i : Nat} {C : Nat → Fs} {b : Sms}
    {y g px : Str} {p1 p2 p3 p4 p5 : Pos} {ps' : List Str}
    (F : FunD K x qual params (.Assign [.Name y p1] (.Call (.Name g p2) [.Name px p3] [] p4) p5 :: rest) scope [] [] f fd) (Sc : FnScope N [px] scope)
    (hy : locK (Tc.kind ⟨N, scope, ft, gl⟩ y) = true) (hi : nix N y = some i) (hi0 : i ≠ 0) (hx : trV ⟨N, scope, ft, gl⟩ px = some 0) (hg : glK (Tc.kind ⟨N, scope, ft, gl⟩ g) = true) (hdb : (g == ("__debug__" : Str)) = false)
    (ms : mg g = some (.ref fs)) (ks : PySem.W.keepIn K (.ref fs) = true) (bs : L2.Binds K fds ps' []) (os : FnG P w K mg base lv fs fds ps' (spSource K))
    (tr : mapS (trS n ⟨N, scope, ft, gl⟩) rest = some b)
    (fns : ∀ (j : Nat) (y : Str), (y, j) ∈ ft → ∃ g gd qs, mg y = some (.ref g) ∧ PySem.W.keepIn K (.ref g) = true ∧ L2.Binds K gd qs [] ∧ FnG P w K mg base lv g gd qs (SpOf K mg (C j)))
    (bi : ∀ y ∈ blts, mg y = none) (sy : SysD base) (gls : ∀ x d, gl.lookup x = some d → GlV mg x d)
    (rd : b.rd C ((List.replicate N.length Sl.un).set i .src) lawKp) : FnG P w K mg base (lv + 1) f fd [px] (spLaw K) := by
  refine fn_g F Sc (fun ws H Q E h => by obtain ⟨a, ns, rfl, _⟩ := h; rfl) (fun cdv A outer s H ws Q E hr hcl h => ?_)
  obtain ⟨a, ns, rfl, hS, len, want⟩ := h
  have ck : CokS (cxOf (L2.CX P w) P w K mg base N qual scope f cdv A outer s H E) ⟨N, scope, ft, gl⟩ C E lv := by
    refine ⟨⟨rfl, Sc.nd, Sc.kind, fun _ _ h _ => h, fun y h => ?_, fun _ _ => rfl, rfl, hr, hcl, passes_call (takes_of rfl rfl rfl rfl) (fun _ _ _ _ h => h), fun j y hj => fns j y hj, bi, sy, gls⟩, rfl, passes_of rfl⟩
    exact .inl h
  have k := ck.toCok
  obtain ⟨l1, l2⟩ := loc_of k hy
  have hN : (cxOf (L2.CX P w) P w K mg base N qual scope f cdv A outer s H E).N[i]? = some y := nix_get hi
  have first := ps_asg (pos := p5) (pe_callG (E := E) (p := p2) (pos := p4) os hr hcl (gl_of k hg) ms ks bs k.pass (pa_cons (trV_ok k hx (pos := p3)).1 pa_nil (by rfl)) hdb (by rfl) (by rfl)) (pg_name Sc.nd hN l1 l2) (swsole (t := .Name y p1) (by rfl)) (sst_name (y := y) (p := p1))
  refine ⟨_, pss_cons first (mapS_ok (fun s x h => snd_S n ck h) tr), ?_⟩
  have el : (L2.start N [V.ref a]).length = N.length := by
    have l := congrArg List.length Sc.pre
    simp only [List.length_take, List.length_cons, List.length_nil] at l
    unfold L2.start
    simp
    omega
  refine ⟨.ref a, rfl, ?_⟩
  refine ⟨a, ns, rfl, hS, len, fun sa ca H' at_ keep na nc => ?_⟩
  have il : i < N.length := (List.getElem?_eq_some_iff.mp hN).1
  have none_ : ∀ (b : Addr) (o : HO), (fun _ => none : Hp) b = some o → False := fun b o e => nomatch e
  have so : SrcOk (some (sa, ca)) (fun _ => none) H' := fun sa' ca' e => by cases e; exact ⟨rfl, rfl, at_⟩
  refine ⟨some (sa, ca), fun _ => none, H', fun _ => none, fun _ => none, _, lawKp, ⟨.refl (fun b o e => nomatch e) so, so, fun j l e => ?_, fun j j' d d' v _ e _ _ _ => ?_, ?_⟩, .refl _, ⟨fun _ _ _ _ _ _ z => z.elim, fun _ _ _ _ _ _ z => z.elim, fun _ _ _ _ _ _ z => z.elim, fun v G p => ?_, fun _ _ _ _ _ z => z.elim⟩, rd⟩
  · by_cases hj : j = i
    · subst hj
      rw [List.getElem?_set_self (by simpa using il)] at e
      cases e
      exact ⟨sa, ca, rfl, by rw [List.getElem?_set_self (by omega)]⟩
    · rw [List.getElem?_set_ne (Ne.symm hj), List.getElem?_replicate] at e
      split at e
      · cases e; trivial
      · cases e
  · by_cases hj : j = i
    · subst hj
      rw [List.getElem?_set_self (by simpa using il)] at e
      cases e
    · rw [List.getElem?_set_ne (Ne.symm hj), List.getElem?_replicate] at e
      split at e <;> cases e
  · rw [List.length_set, el, List.length_set, List.length_replicate]
  · obtain ⟨G1, fr, d, x1, r1, q⟩ := p
    have q : d = .bool true := q
    subst q
    cases fr with
    | false =>
      simp only [RF, Bool.false_eq_true, if_false] at r1
      have e := R.bl' r1
      subst e
      exact want _
    | true =>
      simp only [RF, if_true] at r1
      exact r1.1.elim
end DL
set_option Elab.async false
set_option linter.all false
set_option maxRecDepth 100000
set_option maxHeartbeats 4000000
/-! Df: the defs of a module, one behind another. -/
namespace DL
open PySem PySem.Spec PyProof.Rows L2
/-- a def as the head's facts tell it -/
structure DefAt (K : PySem.W.Frag) (mg : Str → Option Value) (d : He.DefD) (f : Addr) (fd : FuncData) : Prop where
  mg_ : mg d.name = some (.ref f)
  fun_ : FunD K d.name d.qual d.params d.body d.scope [] [] f fd
/-- all names of ft are defs, and what each is worth at this level -/
def Good (P : Program) (w : World) (K : PySem.W.Frag) (mg : Str → Option Value) (B : Heap) (ft : List (Str × Nat)) (lv : Nat) (C : Nat → Fs) : Prop :=
  ∀ (j : Nat) (y : Str), (y, j) ∈ ft → ∃ g gd qs, mg y = some (.ref g) ∧ PySem.W.keepIn K (.ref g) = true ∧ L2.Binds K gd qs [] ∧ FnG P w K mg B lv g gd qs (SpOf K mg (C j))
def upC (C : Nat → Fs) (j : Nat) (c : Fs) : Nat → Fs := fun i => if i = j then c else C i
def C0 : Nat → Fs := fun _ _ _ _ => False
theorem upC_same {C : Nat → Fs} {j : Nat} {c : Fs} : upC C j c j = c := if_pos rfl
theorem upC_ne {C : Nat → Fs} {i j : Nat} {c : Fs} (h : i ≠ j) : upC C j c i = C i := if_neg h
section
variable {P : Program} {w : World} {K : PySem.W.Frag} {mg : Str → Option Value} {B : Heap} {ft : List (Str × Nat)} {lv : Nat} {C : Nat → Fs}
theorem FnG.no {g : Addr} {gd : FuncData} {qs : List Str} {c : Fs} (h : ∀ sl Q Ep, ¬ c sl Q Ep) : FnG P w K mg B lv g gd qs (SpOf K mg c) :=
  ⟨fun xs H Q E ⟨_, _, sl, Qp, Ep, _, _, _, z, _⟩ => (h _ _ _ z).elim, fun A fr t H ar ys xs Q E _ _ _ _ _ ⟨_, _, sl, Qp, Ep, _, _, _, z, _⟩ => (h _ _ _ z).elim⟩
theorem Good.start (h : ∀ (j : Nat) (y : Str), (y, j) ∈ ft → ∃ g gd qs, mg y = some (.ref g) ∧ PySem.W.keepIn K (.ref g) = true ∧ L2.Binds K gd qs []) : Good P w K mg B ft 0 C0 := fun j y hj => by
  obtain ⟨g, gd, qs, h1, h2, h3⟩ := h j y hj
  exact ⟨g, gd, qs, h1, h2, h3, .no fun _ _ _ z => z⟩
theorem Good.step (G : Good P w K mg B ft lv C) {j : Nat} {y : Str} {c : Fs} {f : Addr} {fd : FuncData} {ps : List Str} (hj : ∀ z, (z, j) ∈ ft → z = y) (m : mg y = some (.ref f)) (kp : PySem.W.keepIn K (.ref f) = true) (b : L2.Binds K fd ps [])
    (F : FnG P w K mg B (lv + 1) f fd ps (SpOf K mg c)) : Good P w K mg B ft (lv + 1) (upC C j c) := fun i z hi => by
  by_cases e : i = j
  · subst e
    have := hj z hi
    subst this
    rw [upC_same]
    exact ⟨f, fd, ps, m, kp, b, F⟩
  · rw [upC_ne e]
    obtain ⟨g, gd, qs, h1, h2, h3, h4⟩ := G i z hi
    exact ⟨g, gd, qs, h1, h2, h3, h4.mono (Nat.le_succ _)⟩
/-- a def of the module by its reading -/
theorem Good.def_ (G : Good P w K mg B ft lv C) {j n : Nat} {d : He.DefD} {c : Fs} {f : Addr} {fd : FuncData} {N ps : List Str} {gl : List (Str × PyData)} {b : Sms} (D : DefAt K mg d f fd) (hj : ∀ z, (z, j) ∈ ft → z = d.name) (Sc : FnScope N ps d.scope)
    (hb : L2.Binds K fd ps []) (tr : mapS (trS n ⟨N, d.scope, ft, gl⟩) d.body = some b)
    (bi : ∀ y ∈ blts, mg y = none) (sy : SysD B) (gls : ∀ x v, gl.lookup x = some v → GlV mg x v) (ar : ∀ sl Q Ep, c sl Q Ep → sl.length = ps.length)
    (rd : ∀ sl Q Ep, c sl Q Ep → b.rd C (envOf N sl) { nx := fun _ => Q false .none, rt := Q, ex := Ep }) : Good P w K mg B ft (lv + 1) (upC C j c) :=
  G.step hj D.mg_ D.fun_.kp hb (def_ok D.fun_ Sc tr G bi sy gls ar rd)
end

/-! ### the head's facts with the table of modules -/
def sysB (g : Addr → Option Obj) : Bool := match g sysModules with
  | some o => decide (o.cls = .type "dict") && (match o.data with | .dict _ _ => true | _ => false)
  | none => false
theorem sysB_ok {h : Heap} (e : sysB h.get? = true) : SysD h := by
  unfold sysB at e
  split at e
  · rename_i o ho
    rw [Bool.and_eq_true] at e
    obtain ⟨e1, e2⟩ := e
    split at e2
    · rename_i es ep hd
      exact ⟨o, es, ep, ho, of_decide_eq_true e1, hd⟩
    · cases e2
  · cases e
def hookS (n : Nat) (fa : List He.Fa) (fn : List He.DefD) : PySem.W.Hook where
  α := He.AlD × Bool
  obs := fun s => (He.obsDG n fa fn s.heap.get?, sysB s.heap.get?)
  val := fun _ => (He.valD fn, true)
  says := fun _ h => (∃ K : PySem.W.Frag, K.In h ∧ He.SaysD fa fn K) ∧ SysD h
  of := fun _ _ e => ⟨⟨_, He.frG_in, congrArg Prod.fst e⟩, sysB_ok (congrArg Prod.snd e)⟩
  keeps := fun _ _ _ ⟨⟨K, hK, c⟩, o, es, ep, q, q2, q3⟩ k => ⟨⟨K, PySem.W.Frag.In.keeps hK k, c⟩, o, es, ep, k _ _ q, q2, q3⟩
def obS (n : Nat) (fa : List He.Fa) (fn : List He.DefD) (s : PySem.W.SharedT) : He.AlD × Bool := (He.obsDG n fa fn (HandSHeadRun.getT s), sysB (HandSHeadRun.getT s))
theorem obS_eq (n : Nat) (fa : List He.Fa) (fn : List He.DefD) (s : PySem.W.SharedT) : obS n fa fn s = (hookS n fa fn).obs s.abs := by
  have e : HandSHeadRun.getT s = s.abs.heap.get? := funext (HandSHeadRun.getT_eq s)
  unfold obS
  rw [e]
  rfl
theorem gls_of {mg : Str → Option Value} {gl : List (Str × PyData)} (h : ∀ p ∈ gl, GlV mg p.1 p.2) : ∀ x d, gl.lookup x = some d → GlV mg x d := fun x d e => by
  induction gl with
  | nil => cases e
  | cons p r ih =>
    obtain ⟨a, b⟩ := p
    rw [List.lookup_cons] at e
    split at e
    · rename_i q
      cases e
      have : x = a := by simpa using q
      subst this
      exact h _ (List.mem_cons_self ..)
    · exact ih (fun p hp => h p (List.mem_cons_of_mem _ hp)) e
theorem bi_of {K : PySem.W.Frag} {h : Heap} {mg : Str → Option Value} {fa : List He.Fa} {fn : List He.DefD} (X : K.In h) (G : h.Ns mainGlobals mg) (c : He.SaysD fa fn K) (m : ∀ y ∈ blts, He.Fa.free y ∈ fa) : ∀ y ∈ blts, mg y = none := fun y hy => by
  obtain ⟨i, hi⟩ := List.getElem?_of_mem (m y hy)
  exact He.free_ok X G (c.fact i hi)
end DL
set_option Elab.async false
set_option linter.all false
set_option maxRecDepth 100000
set_option maxHeartbeats 4000000
/-! Dq: reading: loops by invariants. -/
namespace DL
open PySem PySem.Spec PyProof.Rows L2
theorem foldS_inv {step : PyData → Env → (Env → Prop) → Prop} {Q : Env → Prop} : ∀ {xs : List PyData} {env : Env} (I : Nat → Env → Prop), I 0 env →
    (∀ i x e K, xs[i]? = some x → I i e → (∀ e', I (i + 1) e' → K e') → step x e K) → (∀ e, I xs.length e → Q e) → foldS step xs env Q
  | [], env, I, h0, hs, hd => hd _ h0
  | x :: xs, env, I, h0, hs, hd => hs 0 x env _ rfl h0 fun e' h' => foldS_inv (xs := xs) (fun i => I (i + 1)) h' (fun i y e K hy hi k => hs (i + 1) y e K (by simpa using hy) hi k) fun e he => hd e he
theorem foldC_inv {step : PyData → List PyData → (List PyData → Prop) → Prop} {Q : List PyData → Prop} : ∀ {xs acc : List PyData} (I : Nat → List PyData → Prop), I 0 acc →
    (∀ i x e K, xs[i]? = some x → I i e → (∀ e', I (i + 1) e' → K e') → step x e K) → (∀ e, I xs.length e → Q e) → foldC step xs acc Q
  | [], acc, I, h0, hs, hd => hd _ h0
  | x :: xs, acc, I, h0, hs, hd => hs 0 x acc _ rfl h0 fun e' h' => foldC_inv (xs := xs) (fun i => I (i + 1)) h' (fun i y e K hy hi k => hs (i + 1) y e K (by simpa using hy) hi k) fun e he => hd e he
/-- a comprehension that maps -/
theorem foldC_map {step : PyData → List PyData → (List PyData → Prop) → Prop} {Q : List PyData → Prop} {f : PyData → PyData} : ∀ {xs acc : List PyData}, (∀ x acc K, x ∈ xs → K (acc ++ [f x]) → step x acc K) → Q (acc ++ xs.map f) → foldC step xs acc Q
  | [], acc, hs, hq => by
    show Q acc
    simpa using hq
  | x :: xs, acc, hs, hq => hs x acc _ (List.mem_cons_self ..) (foldC_map (fun y a K hy k => hs y a K (List.mem_cons_of_mem _ hy) k) (by simpa using hq))
theorem foldS_ints {step : PyData → Env → (Env → Prop) → Prop} {Q : Env → Prop} {a : Int} {n : Nat} {env : Env} (I : Nat → Env → Prop) (h0 : I 0 env)
    (hs : ∀ (i : Nat) e K, i < n → I i e → (∀ e', I (i + 1) e' → K e') → step (.int (a + (i : Nat))) e K) (hd : ∀ e, I n e → Q e) : foldS step (intsD a n) env Q :=
  foldS_inv I h0 (fun i x e K hx hi k => by
    obtain ⟨h1, rfl⟩ := intsD_get hx
    exact hs i e K h1 hi k) fun e he => hd e (by rw [intsD_length] at he; exact he)
theorem foldC_ints {step : PyData → List PyData → (List PyData → Prop) → Prop} {Q : List PyData → Prop} {a : Int} {n : Nat} {f : Nat → PyData} {acc : List PyData} (hs : ∀ (i : Nat) acc K, i < n → K (acc ++ [f i]) → step (.int (a + (i : Nat))) acc K)
    (hq : Q (acc ++ (List.range n).map f)) : foldC step (intsD a n) acc Q :=
  foldC_inv (fun i e => e = acc ++ (List.range i).map f) (by simp) (fun i x e K hx hi k => by
    obtain ⟨h1, rfl⟩ := intsD_get hx
    subst hi
    exact hs i _ K h1 (k _ (by rw [List.range_succ, List.map_append, List.append_assoc]; rfl))) fun e he => by
      rw [intsD_length] at he
      rw [he]
      exact hq
/-- no slot is owned -/
def noOw : Env → Bool
  | [] => true
  | .ow _ :: _ => false
  | _ :: r => noOw r
theorem frz_no {vs : List Nat} {env : Env} (h : noOw env = true) : frz vs env = env := by
  unfold frz
  have key : ∀ (e : Env), noOw e = true → ∀ s ∈ e, ∀ d, s ≠ .ow d := fun e => by
    induction e with
    | nil => intro _ s hs; cases hs
    | cons a r ih =>
      intro h s hs d z
      subst z
      rcases List.mem_cons.mp hs with q | q
      · subst q; cases h
      · cases a with
        | ow _ => cases h
        | un => exact ih h _ q d rfl
        | sh _ => exact ih h _ q d rfl
        | src => exact ih h _ q d rfl
  apply List.ext_getElem
  · simp
  · intro i h1 h2
    rw [List.getElem_mapIdx]
    have q := key env h env[i] (List.getElem_mem _)
    unfold frz1
    split
    · rename_i d e; exact absurd e (q d)
    · rfl
theorem aft_no {vs : List Nat} {fr : Bool} {d : PyData} {env : Env} (h : noOw env = true) : aft vs fr d env = env := by
  unfold aft
  split
  · rfl
  · exact frz_no h
/-- a while loop by what falls -/
theorem loop_meas {step : Env → (Env → Prop) → (Env → Prop) → Prop} {env : Env} {Q : Env → Prop} (I : Env → Prop) (μ : Env → Nat) (h0 : I env) (hs : ∀ e K, I e → (∀ e', I e' → μ e' < μ e → K e') → step e K Q) : ∃ n, loopS step n env Q := by
  have key : ∀ (n : Nat) (e : Env), I e → μ e < n → loopS step n e Q := fun n => by
    induction n with
    | zero => intro e _ h; omega
    | succ n ih => exact fun e he hm => hs e _ he fun e' he' hl => ih e' he' (by omega)
  exact ⟨μ env + 1, key _ _ h0 (Nat.lt_succ_self _)⟩
/-- a while loop that is gone through m times -/
theorem loop_count {step : Env → (Env → Prop) → (Env → Prop) → Prop} {Q : Env → Prop} (m : Nat) : ∀ {env : Env} (I : Nat → Env → Prop), I 0 env → (∀ i e K, i < m → I i e → (∀ e', I (i + 1) e' → K e') → step e K Q) → (∀ e K, I m e → step e K Q) → ∃ n, loopS step n env Q := by
  intro env I h0 hs hd
  refine ⟨m + 1, ?_⟩
  have key : ∀ (k i : Nat) (e : Env), i + k = m → I i e → loopS step (k + 1) e Q := fun k => by
    induction k with
    | zero => intro i e hi he; have : i = m := by omega
              subst this; exact hd e _ he
    | succ k ih => exact fun i e hi he => hs i e _ (by omega) he fun e' he' => ih (i + 1) e' (by omega) he'
  exact key m 0 env (by omega) h0
end DL
set_option Elab.async false
set_option linter.all false
set_option maxRecDepth 100000
set_option maxHeartbeats 4000000
/-! Dn: ints from nought on. -/
namespace DL
open PySem PySem.Spec PyProof.Rows L2
theorem bxorN (a b : Nat) : Builtin.bitXor (a : Int) (b : Int) = ((a ^^^ b : Nat) : Int) := by rw [Bits.bitXor_pp (Int.natCast_nonneg a) (Int.natCast_nonneg b), Int.toNat_natCast, Int.toNat_natCast]
theorem bandN (a b : Nat) : Builtin.bitAnd (a : Int) (b : Int) = ((a &&& b : Nat) : Int) := PySem.W.os_band a b
theorem shrN (y i : Nat) : (y : Int) / 2 ^ i = ((y >>> i : Nat) : Int) := by rw [Nat.shiftRight_eq_div_pow]; norm_cast
theorem shlN (x i : Nat) : (x : Int) * 2 ^ i = ((x <<< i : Nat) : Int) := by rw [Nat.shiftLeft_eq]; norm_cast
/-- how many bits -/
def bl (p : Nat) : Nat := if p = 0 then 0 else p.log2 + 1
theorem intBits_nat (p : Nat) : Builtin.Int.intBits (p : Int) = bl p := by
  unfold Builtin.Int.intBits bl
  by_cases h : p = 0
  · subst h; rfl
  · rw [if_neg h, if_neg (by simp; omega)]; rfl
theorem bl_le {p k : Nat} : bl p ≤ k ↔ p < 2 ^ k := by
  unfold bl
  split
  · rename_i h; subst h; simp [Nat.two_pow_pos]
  · rename_i h
    rw [← Nat.log2_lt h]
    omega
theorem lt_bl {p : Nat} : p < 2 ^ bl p := bl_le.mp (Nat.le_refl _)
theorem bl_zero : bl 0 = 0 := rfl
theorem bl_pos {p : Nat} (h : p ≠ 0) : 0 < bl p := by unfold bl; rw [if_neg h]; omega
theorem log_of_bl {p k : Nat} (h : bl p ≤ k + 1) : p.log2 ≤ k := by
  unfold bl at h
  split at h
  · rename_i z; subst z; simp
  · omega
end DL
set_option Elab.async false
set_option linter.all false
set_option maxRecDepth 100000
set_option maxHeartbeats 4000000
/-! E0: the small trees evaluated, no picks: values, exceptions, or nothing known. -/
namespace DL
open PySem PySem.Spec PyProof.Rows L2

/-- what is known of a pick's size -/
def smP (m : Int) : Prop := m.natAbs.log2 < 9000
inductive Ev (α : Type) where
  | ok (a : α) | ex (s : Str) | bad | pk (m : Int) (k : Int → Ev α)
namespace Ev
variable {α β : Type}
def bind : Ev α → (α → Ev β) → Ev β
  | .ok a, f => f a
  | .ex s, _ => .ex s
  | .bad, _ => .bad
  | .pk m k, f => .pk m fun r => (k r).bind f
/-- what is wanted of it -/
def wp : Ev α → (α → Prop) → (Str → Prop) → Prop
  | .ok a, Q, _ => Q a
  | .ex s, _, E => E s
  | .bad, _, _ => False
  | .pk m k, Q, E => smP m ∧ ∀ r, RngP m r → (k r).wp Q E
@[simp] theorem ok_bind (a : α) (f : α → Ev β) : (Ev.ok a).bind f = f a := (rfl)
@[simp] theorem ex_bind (s : Str) (f : α → Ev β) : (Ev.ex s : Ev α).bind f = .ex s := (rfl)
@[simp] theorem bad_bind (f : α → Ev β) : (Ev.bad : Ev α).bind f = .bad := (rfl)
@[simp] theorem pk_bind (m : Int) (k : Int → Ev α) (f : α → Ev β) : (Ev.pk m k).bind f = .pk m fun r => (k r).bind f := (rfl)
theorem wp_bind {r : Ev α} {f : α → Ev β} {Q : β → Prop} {E : Str → Prop} (h : (r.bind f).wp Q E) : r.wp (fun a => (f a).wp Q E) E := by
  induction r with
  | pk m k ih => exact ⟨h.1, fun r hr => ih r (h.2 r hr)⟩
  | _ => exact h
theorem wp.imp {r : Ev α} {Q Q' : α → Prop} {E : Str → Prop} (h : r.wp Q E) (k : ∀ a, Q a → Q' a) : r.wp Q' E := by
  induction r with
  | ok a => exact k a h
  | ex s => exact h
  | bad => exact h
  | pk m k ih => exact ⟨h.1, fun r hr => ih r (h.2 r hr)⟩
theorem wp.imp2 {r : Ev α} {Q Q' : α → Prop} {E E' : Str → Prop} (h : r.wp Q E) (k : ∀ a, Q a → Q' a) (l : ∀ s, E s → E' s) : r.wp Q' E' := by
  induction r with
  | ok a => exact k a h
  | ex s => exact l s h
  | bad => exact h
  | pk m k ih => exact ⟨h.1, fun r hr => ih r (h.2 r hr)⟩
/-- what is known of a computation is used where it stands -/
theorem use {r : Ev α} {P : α → Prop} {Φ : Ev α → Prop} (h : r.wp P fun _ => False) (lin : ∀ m k, smP m → (∀ r, RngP m r → Φ (k r)) → Φ (.pk m k)) (f : ∀ a, P a → Φ (.ok a)) : Φ r := by
  induction r with
  | ok a => exact f a h
  | ex s => exact h.elim
  | bad => exact h.elim
  | pk m k ih => exact lin m k h.1 fun r hr => ih r (h.2 r hr)
end Ev
/-- if the test holds -/
def gd (c : Bool) (r : Ev α) : Ev α := match c with
  | true => r
  | false => .bad
@[simp] theorem gd_true (r : Ev α) : gd true r = r := (rfl)
@[simp] theorem gd_false (r : Ev α) : gd false r = .bad := (rfl)
theorem gd_wp {c : Bool} {r : Ev α} {Q : α → Prop} {E : Str → Prop} (h : (gd c r).wp Q E) : c = true ∧ r.wp Q E := by
  cases c with
  | true => exact ⟨rfl, h⟩
  | false => exact h.elim
abbrev Val := Bool × PyData
abbrev FV := List Sl → Ev Val
abbrev okv (d : PyData) : Ev Val := .ok (false, d)
abbrev okn (d : PyData) : Ev Val := .ok (true, d)
def leN (a b : Nat) : Bool := decide (a ≤ b)
def mulOk (i j : Int) : Bool := decide (i.natAbs.log2 + j.natAbs.log2 < 1000000)
def shlOk (i j : Int) : Bool := decide (0 ≤ j) && decide ((Builtin.Int.intBits i : Int) + j ≤ 2 ^ 27)
def divOk (j : Int) : Bool := decide (0 < j) && decide (j.natAbs.log2 < 9000)
def powOk (i j : Int) : Bool := decide (0 ≤ j) && (decide (j ≤ 1000000) && decide (i.natAbs < 2 ^ 64))
def BinV : Bop → PyData → PyData → Ev Val
  | .add, .int i, .int j => okv (.int (i + j))
  | .add, .str x, .str y => gd (leN (x.length + y.length) lim) (okv (.str (x ++ y)))
  | .add, .list x, .list y => gd (leN (x.length + y.length) lim) (okn (.list (x ++ y)))
  | .add, .tuple x, .tuple y => gd (leN (x.length + y.length) lim) (okv (.tuple (x ++ y)))
  | .sub, .int i, .int j => okv (.int (i - j))
  | .mul, .int i, .int j => gd (mulOk i j) (okv (.int (i * j)))
  | .mul, .tuple x, .int k => gd (!x.isEmpty && (decide (1 ≤ k) && (decide (k ≤ 1000) && leN x.length 1000))) (okv (.tuple (List.replicate k.toNat x).flatten))
  | .mul, .list x, .int k => gd (decide (-(2 ^ 62) ≤ k) && (decide (k ≤ 2 ^ 62) && leN (x.length * k.toNat) lim)) (okn (.list (List.replicate k.toNat x).flatten))
  | .fdiv, .int i, .int j => gd (divOk j) (okv (.int (i / j)))
  | .mod, .int i, .int j => gd (decide (0 < j)) (okv (.int (i % j)))
  | .pow, .int i, .int j => gd (powOk i j) (okv (.int (i ^ j.toNat)))
  | .shl, .int i, .int j => gd (shlOk i j) (okv (.int (i * 2 ^ j.toNat)))
  | .shr, .int i, .int j => gd (decide (0 ≤ j)) (okv (.int (i / 2 ^ j.toNat)))
  | .band, .int i, .int j => okv (.int (Builtin.bitAnd i j))
  | .bor, .int i, .int j => okv (.int (Builtin.bitOr i j))
  | .bxor, .int i, .int j => okv (.int (Builtin.bitXor i j))
  | _, _, _ => .bad
theorem leN_iff {a b : Nat} : leN a b = true ↔ a ≤ b := by unfold leN; simp
theorem mulOk_ok {i j : Int} (c : mulOk i j = true) : CMulW i j ∨ CMul i j := by
  unfold mulOk at c
  exact .inl (by simpa [CMulW] using c)
theorem divOk_ok {i j : Int} (c : divOk j = true) : CDivW i j := by
  unfold divOk at c
  simp only [Bool.and_eq_true, decide_eq_true_eq] at c
  exact c
theorem shlOk_ok {i j : Int} (c : shlOk i j = true) : CShl i j := by
  unfold shlOk at c
  simp only [Bool.and_eq_true, decide_eq_true_eq] at c
  exact c
theorem powOk_ok {i j : Int} (c : powOk i j = true) : CPow i j := by
  unfold powOk at c
  simp only [Bool.and_eq_true, decide_eq_true_eq] at c
  exact c
theorem BinV_ok {o : Bop} {x y : PyData} {Q : Bool → PyData → Prop} {E : Str → Prop} (h : (BinV o x y).wp (fun p => Q p.1 p.2) E) : BinP o x y Q := by
  cases o <;> cases x <;> cases y <;> first
    | exact h.elim
    | exact h
    | (obtain ⟨c, h⟩ := gd_wp h; exact ⟨leN_iff.mp c, h⟩)
    | (obtain ⟨c, h⟩ := gd_wp h; exact ⟨mulOk_ok c, h⟩)
    | (obtain ⟨c, h⟩ := gd_wp h; exact ⟨divOk_ok c, h⟩)
    | (obtain ⟨c, h⟩ := gd_wp h; exact ⟨shlOk_ok c, h⟩)
    | (obtain ⟨c, h⟩ := gd_wp h; exact ⟨powOk_ok c, h⟩)
    | (obtain ⟨c, h⟩ := gd_wp h; exact ⟨of_decide_eq_true c, h⟩)
    | (obtain ⟨c, h⟩ := gd_wp h
       simp only [leN, Bool.and_eq_true, decide_eq_true_eq, Bool.not_eq_true', List.isEmpty_eq_false_iff] at c
       exact ⟨c.1, c.2.1, c.2.2.1, c.2.2.2, h⟩)
    | (obtain ⟨c, h⟩ := gd_wp h
       simp only [leN, Bool.and_eq_true, decide_eq_true_eq] at c
       exact ⟨c.1, c.2.1, c.2.2, h⟩)
def mulS (i j : Int) : Bool := (decide (-(2 ^ 64) < i) && decide (i < 2 ^ 64)) || (decide (-(2 ^ 64) < j) && decide (j < 2 ^ 64))
theorem mulS_ok {i j : Int} (c : mulS i j = true) : CMul i j := by
  unfold mulS at c
  simp only [Bool.or_eq_true, Bool.and_eq_true, decide_eq_true_eq] at c
  exact c
def augV : Bop → Int → Int → Ev Int
  | .add, i, j => .ok (i + j)
  | .sub, i, j => .ok (i - j)
  | .mul, i, j => gd (mulS i j) (.ok (i * j))
  | .fdiv, i, j => gd (divOk j) (.ok (i / j))
  | .mod, i, j => gd (decide (0 < j)) (.ok (i % j))
  | .shl, i, j => gd (shlOk i j) (.ok (i * 2 ^ j.toNat))
  | .shr, i, j => gd (decide (0 ≤ j)) (.ok (i / 2 ^ j.toNat))
  | .band, i, j => .ok (Builtin.bitAnd i j)
  | .bor, i, j => .ok (Builtin.bitOr i j)
  | .bxor, i, j => .ok (Builtin.bitXor i j)
  | .pow, _, _ => .bad
theorem augV_ok {o : Bop} {i j : Int} {Q : Int → Prop} {E : Str → Prop} (h : (augV o i j).wp Q E) : AugP o i j Q := by
  cases o <;> first
    | exact h.elim
    | exact h
    | (obtain ⟨c, h⟩ := gd_wp h; exact ⟨mulS_ok c, h⟩)
    | (obtain ⟨c, h⟩ := gd_wp h; exact ⟨divOk_ok c, h⟩)
    | (obtain ⟨c, h⟩ := gd_wp h; exact ⟨shlOk_ok c, h⟩)
    | (obtain ⟨c, h⟩ := gd_wp h; exact ⟨of_decide_eq_true c, h⟩)
def CmpV : Cop → PyData → PyData → Ev Bool
  | .eq, .int i, .int j => .ok (i == j)
  | .ne, .int i, .int j => .ok (!(i == j))
  | .eq, x, y => gd (SeqAt.shaped x && SeqAt.shaped y) (.ok (PyData.eqv x y))
  | .ne, x, y => gd (SeqAt.shaped x && SeqAt.shaped y) (.ok (!PyData.eqv x y))
  | .lt, .int i, .int j => .ok (decide (i < j))
  | .le, .int i, .int j => .ok (decide (i ≤ j))
  | .gt, .int i, .int j => .ok (decide (j < i))
  | .ge, .int i, .int j => .ok (decide (j ≤ i))
  | .isnt k, x, .none => .ok (match x with | .none => k | _ => !k)
  | .in_ k, x, .list ys => gd (SeqAt.shaped x && SeqAt.shaped (.list ys)) (.ok (if k = true then ys.any (fun z => PyData.eqv z x) else !ys.any (fun z => PyData.eqv z x)))
  | .in_ k, x, .dict kvs => gd (keyFor kvs x) (.ok (if k = true then (lookD kvs x).isSome else !(lookD kvs x).isSome))
  | .in_ k, x, .tuple ys => gd (SeqAt.shaped x && SeqAt.shaped (.tuple ys)) (.ok (if k = true then ys.any (fun z => PyData.eqv z x) else !ys.any (fun z => PyData.eqv z x)))
  | _, _, _ => .bad
theorem cmp_gd {x y : PyData} {b : Bool} {Q : Bool → Prop} {E : Str → Prop} (h : (gd (SeqAt.shaped x && SeqAt.shaped y) (.ok b)).wp Q E) : okD x ∧ okD y ∧ Q b := by
  obtain ⟨c, h⟩ := gd_wp h
  rw [Bool.and_eq_true] at c
  exact ⟨c.1, c.2, h⟩
theorem key_gd {α : Type} {c : Bool} {r : Ev α} {Q : α → Prop} {E : Str → Prop} (h : (gd c r).wp Q E) : c = true ∧ r.wp Q E := gd_wp h
theorem CmpV_ok {o : Cop} {x y : PyData} {Q : Bool → Prop} {E : Str → Prop} (h : (CmpV o x y).wp Q E) : CmpP o x y Q := by
  cases o <;> cases x <;> cases y <;> first
    | exact h.elim
    | exact cmp_gd (E := E) h
    | exact ⟨rfl, h⟩
    | exact key_gd (E := E) h
    | exact h
def okMB (xs : List PyData) : Bool := alikeB xs && decide (PyData.depthAll xs ≤ 60)
theorem okMB_ok {xs : List PyData} (c : okMB xs = true) : okM xs := by
  unfold okMB at c
  rw [Bool.and_eq_true] at c
  exact ⟨c.1, of_decide_eq_true c.2⟩
def okSB (xs : List PyData) : Bool := okMB xs && (xs.all isTup1 || xs.all isOth)
theorem okSB_ok {xs : List PyData} (c : okSB xs = true) : okS xs := by
  unfold okSB at c
  rw [Bool.and_eq_true] at c
  exact ⟨okMB_ok c.1, c.2⟩
def okRB (d : PyData) : Bool := d.showable && (leN d.shown.length sizeLine && decide (d.depth ≤ 60))
theorem okRB_ok {d : PyData} (c : okRB d = true) : okR d := by
  unfold okRB at c
  rw [Bool.and_eq_true, Bool.and_eq_true] at c
  exact ⟨c.1, leN_iff.mp c.2.1, of_decide_eq_true c.2.2⟩
def optV {α : Type} : Option α → Ev α
  | some a => .ok a
  | none => .bad
@[simp] theorem optV_some {α : Type} (a : α) : optV (some a) = .ok a := (rfl)
@[simp] theorem optV_none {α : Type} : optV (none : Option α) = .bad := (rfl)
def BiV : Bi → List PyData → Ev Val
  | .len, [.list xs] => okv (.int xs.length)
  | .len, [.tuple xs] => okv (.int xs.length)
  | .len, [.str x] => gd (leN x.length lim) (okv (.int x.length))
  | .abs, [.int i] => okv (.int (if i < 0 then -i else i))
  | .max, [.int i, .int j] => okv (.int (if j > i then j else i))
  | .min, [.int i, .int j] => okv (.int (if j < i then j else i))
  | .int, [.int i] => okv (.int i)
  | .int, [.bool b] => okv (.int (if b then 1 else 0))
  | .tuple, [.list xs] => okv (.tuple xs)
  | .tuple, [.tuple xs] => okv (.tuple xs)
  | .list, [.list xs] => okn (.list xs)
  | .list, [.tuple xs] => okn (.list xs)
  | .max, [.list (x :: xs)] => gd (okMB (x :: xs)) (okv (PySem.W.maxD x xs))
  | .max, [.tuple (x :: xs)] => gd (okMB (x :: xs)) (okv (PySem.W.maxD x xs))
  | .min, [.list (x :: xs)] => gd (okMB (x :: xs)) (okv (PySem.W.minD x xs))
  | .min, [.tuple (x :: xs)] => gd (okMB (x :: xs)) (okv (PySem.W.minD x xs))
  | .repr, [d] => gd (okRB d) (okv (.str d.shown))
  | .all, [.list xs] => (optV (allBools xs)).bind fun bs => okv (.bool (bs.all _root_.id))
  | .any, [.list xs] => (optV (allBools xs)).bind fun bs => okv (.bool (bs.any _root_.id))
  | .sorted, [.list xs] => gd (okSB xs && leN xs.length lim) (okn (.list (sortD xs)))
  | .sum, [.list xs] => (optV (allInts xs)).bind fun ns => okv (.int ns.sum)
  | _, _ => .bad
theorem optV_wp {α β : Type} {o : Option α} {f : α → Ev β} {Q : β → Prop} {E : Str → Prop} (h : ((optV o).bind f).wp Q E) : ∃ a, o = some a ∧ (f a).wp Q E := by
  cases o with
  | none => exact h.elim
  | some a => exact ⟨a, rfl, h⟩
theorem BiV_ok {b : Bi} {ds : List PyData} {Q : Bool → PyData → Prop} {E : Str → Prop} (h : (BiV b ds).wp (fun p => Q p.1 p.2) E) : BiP b ds Q := by
  unfold BiV at h
  split at h <;> first
    | exact h.elim
    | exact h
    | (obtain ⟨c, h⟩ := gd_wp h; exact ⟨leN_iff.mp c, h⟩)
    | (obtain ⟨c, h⟩ := gd_wp h; exact ⟨okMB_ok c, h⟩)
    | (obtain ⟨c, h⟩ := gd_wp h; exact ⟨okRB_ok c, h⟩)
    | (obtain ⟨c, h⟩ := gd_wp h; rw [Bool.and_eq_true] at c; exact ⟨okSB_ok c.1, leN_iff.mp c.2, h⟩)
    | exact optV_wp h
def MtV : Mt → PyData → List PyData → Ev Val
  | .bits, .int i, [] => okv (.int (Builtin.Int.intBits i : Nat))
  | .index, .list ds, [x] => gd (SeqAt.shaped x && SeqAt.shaped (.list ds)) ((optV (idxD ds x)).bind fun n => okv (.int (n : Nat)))
  | .index, .tuple ds, [x] => gd (SeqAt.shaped x && SeqAt.shaped (.list ds)) ((optV (idxD ds x)).bind fun n => okv (.int (n : Nat)))
  | .get, .dict kvs, [k] => gd (keyFor kvs k) (okv ((lookD kvs k).getD .none))
  | .get, .dict kvs, [k, d] => gd (keyFor kvs k) (okv ((lookD kvs k).getD d))
  | _, _, _ => .bad
theorem MtV_ok {m : Mt} {x : PyData} {ds : List PyData} {Q : Bool → PyData → Prop} {E : Str → Prop} (h : (MtV m x ds).wp (fun p => Q p.1 p.2) E) : MtP m x ds Q := by
  unfold MtV at h
  split at h <;> first
    | exact h.elim
    | exact h
    | exact gd_wp h
    | (obtain ⟨c, h⟩ := gd_wp h; rw [Bool.and_eq_true] at c; exact ⟨c.1, c.2, optV_wp h⟩)
def IxV : PyData → PyData → Ev Val
  | .list xs, .int i => (optV (atI xs i)).bind okv
  | .tuple xs, .int i => (optV (atI xs i)).bind okv
  | .dict kvs, k => gd (keyFor kvs k) ((optV (lookD kvs k)).bind okv)
  | _, _ => .bad
theorem IxV_ok {x y : PyData} {Q : Bool → PyData → Prop} {E : Str → Prop} (h : (IxV x y).wp (fun p => Q p.1 p.2) E) : IxP x y Q := by
  unfold IxV at h
  split at h <;> first
    | exact h.elim
    | exact optV_wp h
    | (obtain ⟨c, h⟩ := gd_wp h; exact ⟨c, optV_wp h⟩)
def SlV : PyData → Option Int → Option Int → Ev Val
  | .list xs, lo, hi => okn (.list (cutD xs lo hi))
  | .tuple xs, lo, hi => okv (.tuple (cutD xs lo hi))
  | _, _, _ => .bad
theorem SlV_ok {x : PyData} {a b : Option Int} {Q : Bool → PyData → Prop} {E : Str → Prop} (h : (SlV x a b).wp (fun p => Q p.1 p.2) E) : SlP x a b Q := by
  unfold SlV at h
  split at h <;> first
    | exact h.elim
    | exact h
def revV : PyData → Ev Val
  | .list xs => okn (.list xs.reverse)
  | .tuple xs => okv (.tuple xs.reverse)
  | _ => .bad
theorem revV_ok {x : PyData} {Q : Bool → PyData → Prop} {E : Str → Prop} (h : (revV x).wp (fun p => Q p.1 p.2) E) : revD x Q := by
  unfold revV at h
  split at h <;> first
    | exact h.elim
    | exact h
def intV {α : Type} (d : PyData) (f : Int → Ev α) : Ev α := match d with
  | .int i => f i
  | _ => .bad
@[simp] theorem intV_int {α : Type} (i : Int) (f : Int → Ev α) : intV (.int i) f = f i := (rfl)
theorem intV_ok {α : Type} {d : PyData} {f : Int → Ev α} {Q : α → Prop} {E : Str → Prop} (h : (intV d f).wp Q E) : isInt d fun i => (f i).wp Q E := by
  cases d <;> first | exact h | exact h.elim
def seqV {α : Type} (d : PyData) (f : List PyData → Ev α) : Ev α := match d with
  | .list xs => f xs
  | .tuple xs => f xs
  | _ => .bad
@[simp] theorem seqV_list {α : Type} (i : List PyData) (f : List PyData → Ev α) : seqV (.list i) f = f i := (rfl)
@[simp] theorem seqV_tuple {α : Type} (i : List PyData) (f : List PyData → Ev α) : seqV (.tuple i) f = f i := (rfl)
theorem seqV_ok {α : Type} {d : PyData} {f : List PyData → Ev α} {Q : α → Prop} {E : Str → Prop} (h : (seqV d f).wp Q E) : isSeq d fun i => (f i).wp Q E := by
  cases d <;> first | exact h | exact h.elim
def lstV {α : Type} (d : PyData) (f : List PyData → Ev α) : Ev α := match d with
  | .list xs => f xs
  | _ => .bad
@[simp] theorem lstV_list {α : Type} (i : List PyData) (f : List PyData → Ev α) : lstV (.list i) f = f i := (rfl)
theorem lstV_ok {α : Type} {d : PyData} {f : List PyData → Ev α} {Q : α → Prop} {E : Str → Prop} (h : (lstV d f).wp Q E) : isLst d fun i => (f i).wp Q E := by
  cases d <;> first | exact h | exact h.elim
def twoV {α : Type} (a b : PyData) (f : List PyData → List PyData → Ev α) : Ev α := match a, b with
  | .list xs, .list ys => f xs ys
  | .tuple xs, .tuple ys => f xs ys
  | .list xs, .tuple ys => f xs ys
  | .tuple xs, .list ys => f xs ys
  | _, _ => .bad
@[simp] theorem twoV_list {α : Type} (i j : List PyData) (f : List PyData → List PyData → Ev α) : twoV (.list i) (.list j) f = f i j := (rfl)
@[simp] theorem twoV_tuple {α : Type} (i j : List PyData) (f : List PyData → List PyData → Ev α) : twoV (.tuple i) (.tuple j) f = f i j := (rfl)
@[simp] theorem twoV_listT {α : Type} (i j : List PyData) (f : List PyData → List PyData → Ev α) : twoV (.list i) (.tuple j) f = f i j := (rfl)
@[simp] theorem twoV_tupleL {α : Type} (i j : List PyData) (f : List PyData → List PyData → Ev α) : twoV (.tuple i) (.list j) f = f i j := (rfl)
theorem twoV_ok {α : Type} {a b : PyData} {f : List PyData → List PyData → Ev α} {Q : α → Prop} {E : Str → Prop} (h : (twoV a b f).wp Q E) : two a b fun i j => (f i j).wp Q E := by
  cases a <;> cases b <;> first | exact h | exact h.elim
/-- a test's answer -/
def tstV {α : Type} (d : PyData) (f : Bool → Ev α) : Ev α := (optV (truth d)).bind f
@[simp] theorem tstV_bool {α : Type} (b : Bool) (f : Bool → Ev α) : tstV (.bool b) f = f b := (rfl)
theorem tstV_ok {α : Type} {d : PyData} {f : Bool → Ev α} {Q : α → Prop} {E : Str → Prop} (h : (tstV d f).wp Q E) : ∃ c, truth d = some c ∧ (f c).wp Q E := optV_wp h
/-- an exception is not looked for -/
def noex {α : Type} : Ev α → Ev α
  | .ok a => .ok a
  | .pk m k => .pk m fun r => noex (k r)
  | _ => .bad
@[simp] theorem noex_ok {α : Type} (a : α) : noex (.ok a) = .ok a := (rfl)
@[simp] theorem noex_pk {α : Type} (m : Int) (k : Int → Ev α) : noex (.pk m k) = .pk m fun r => noex (k r) := (rfl)
theorem noex_wp {α : Type} {r : Ev α} {Q : α → Prop} {E : Str → Prop} (h : (noex r).wp Q E) : r.wp Q fun _ => False := by
  induction r with
  | ok a => exact h
  | ex s => exact h.elim
  | bad => exact h.elim
  | pk m k ih => exact ⟨h.1, fun r hr => ih r (h.2 r hr)⟩
/-- a comprehension's items -/
def filV (f : PyData → Ev (Option PyData)) : List PyData → Ev (List PyData)
  | [] => .ok []
  | x :: xs => (f x).bind fun o => (filV f xs).bind fun r => .ok (match o with
    | some d => d :: r
    | none => r)
mutual
def Tg.bv : Tg → PyData → Env → Option Env
  | .nm i, d, env => some (env.set i (.sh d))
  | .tp ts, .tuple ds, env => ts.bv ds env
  | .tp _, _, _ => none
def Tgs.bv : Tgs → List PyData → Env → Option Env
  | .nil, [], env => some env
  | .cons t r, d :: ds, env => (t.bv d env).bind (r.bv ds)
  | _, _, _ => none
end
mutual
theorem Tg.bv_ok : ∀ {t : Tg} {d : PyData} {env env' : Env} {k : Env → Prop}, t.bv d env = some env' → k env' → t.bnd d env k
  | .nm i, d, env, env', k, e, h => by cases e; exact h
  | .tp ts, .tuple ds, env, env', k, e, h => Tgs.bv_ok (t := ts) e h
  | .tp ts, .none, env, env', k, e, h => by cases e
  | .tp ts, .bool _, env, env', k, e, h => by cases e
  | .tp ts, .int _, env, env', k, e, h => by cases e
  | .tp ts, .str _, env, env', k, e, h => by cases e
  | .tp ts, .list _, env, env', k, e, h => by cases e
  | .tp ts, .dict _, env, env', k, e, h => by cases e
theorem Tgs.bv_ok : ∀ {t : Tgs} {ds : List PyData} {env env' : Env} {k : Env → Prop}, t.bv ds env = some env' → k env' → t.bnd ds env k
  | .nil, [], env, env', k, e, h => by cases e; exact h
  | .nil, _ :: _, env, env', k, e, h => by cases e
  | .cons t r, [], env, env', k, e, h => by cases e
  | .cons t r, d :: ds, env, env', k, e, h => by
    cases z : t.bv d env with
    | none => simp [Tgs.bv, z] at e
    | some env2 =>
      have e' : r.bv ds env2 = some env' := by simpa [Tgs.bv, z] using e
      exact Tg.bv_ok (t := t) z (Tgs.bv_ok (t := r) e' h)
end
/-- a slot handed on -/
def slotA (env : Env) (i : Nat) : Ev Sl := match env[i]? with
  | some (.sh d) => .ok (.sh d)
  | some (.ow d) => .ok (.sh d)
  | some .src => .ok .src
  | _ => .bad
/-- a name -/
def Ex.vr : Ex → Option Nat
  | .var i => some i
  | _ => none
/-- a slot's data -/
def slotV (env : Env) (i : Nat) : Ev PyData := match env[i]? with
  | some (.sh d) => .ok d
  | some (.ow d) => .ok d
  | _ => .bad
section
variable (F : Nat → FV)
mutual
def Ex.ev : Ex → Env → Ev Val
  | .var i, env => (slotV env i).bind okv
  | .lit d, _ => okv d
  | .tup es, env => (es.ev env).bind fun ds => gd (leN ds.length lim) (okv (.tuple ds))
  | .lst es, env => (es.ev env).bind fun ds => gd (leN ds.length lim) (okn (.list ds))
  | .bin o a b, env => (a.ev env).bind fun x => (b.ev env).bind fun y => BinV o x.2 y.2
  | .neg a, env => (a.ev env).bind fun x => intV x.2 fun i => okv (.int (-i))
  | .cmp o a b, env => (a.ev env).bind fun x => (b.ev env).bind fun y => (CmpV o x.2 y.2).bind fun c => okv (.bool c)
  | .cmp2 o p a b c, env => (a.ev env).bind fun x => (b.ev env).bind fun y => (CmpV o x.2 y.2).bind fun r => match r with
    | true => (c.ev env).bind fun z => (CmpV p y.2 z.2).bind fun r' => okv (.bool r')
    | false => okv (.bool false)
  | .and_ a b, env => (a.ev env).bind fun x => tstV x.2 fun c => match c with
    | true => b.ev env
    | false => .ok x
  | .or_ a b, env => (a.ev env).bind fun x => tstV x.2 fun c => match c with
    | true => .ok x
    | false => b.ev env
  | .not_ a, env => (a.ev env).bind fun x => tstV x.2 fun c => okv (.bool !c)
  | .ite t a b, env => (t.ev env).bind fun x => tstV x.2 fun c => match c with
    | true => a.ev env
    | false => b.ev env
  | .call j es, env => (es.eva env).bind fun sl => F j sl
  | .bi b es, env => (es.ev env).bind fun ds => BiV b ds
  | .mth m o es, env => (o.ev env).bind fun x => gd (mtT m x.2) ((es.ev env).bind fun ds => MtV m x.2 ds)
  | .ix o i, env => (o.ev env).bind fun x => (i.ev env).bind fun y => IxV x.2 y.2
  | .slc o lo hi, env => (o.ev env).bind fun x => (lo.ev env).bind fun l => (hi.ev env).bind fun h => SlV x.2 l h
  | .isa e T, env => (e.ev env).bind fun x => okv (.bool (isaD T x.2))
  | .rev o, env => (o.ev env).bind fun x => revV x.2
  | .dic0, _ => okn (.dict [])
  | .comp e tg it cs own, env => (it.ev env).bind fun p => gd (leN p.2.length lim) ((filV (fun x => (optV (tg.bv x (wipeE env own))).bind fun env' => noex ((cs.evt env').bind fun b => match b with
      | true => (e.ev env').bind fun d => .ok (some d.2)
      | false => .ok none)) p.2).bind fun L => okn (.list L))
def Exo.ev : Exo → Env → Ev (Option Int)
  | .no, _ => .ok none
  | .so e, env => (e.ev env).bind fun x => intV x.2 fun i => .ok (some i)
def Exs.ev : Exs → Env → Ev (List PyData)
  | .nil, _ => .ok []
  | .cons e r, env => (e.ev env).bind fun x => (r.ev env).bind fun ds => .ok (x.2 :: ds)
def Exs.eva : Exs → Env → Ev (List Sl)
  | .nil, _ => .ok []
  | .cons e r, env => (match e.vr with
    | some i => slotA env i
    | none => (e.ev env).bind fun x => .ok (.sh x.2)).bind fun s => (r.eva env).bind fun ds => .ok (s :: ds)
def Exs.evt : Exs → Env → Ev Bool
  | .nil, _ => .ok true
  | .cons e r, env => (e.ev env).bind fun x => tstV x.2 fun c => match c with
    | true => r.evt env
    | false => .ok false
def It.ev : It → Env → Ev (Bool × List PyData)
  | .seq e, env => (e.ev env).bind fun x => seqV x.2 fun xs => .ok (leafy x.1 x.2, xs)
  | .range1 e, env => (e.ev env).bind fun x => intV x.2 fun n => gd (decide (-(2 ^ 60) ≤ n) && decide (n ≤ 2 ^ 60)) (.ok (true, intsD 0 n.toNat))
  | .range2 a b, env => (a.ev env).bind fun x => (b.ev env).bind fun y => intV x.2 fun m => intV y.2 fun n => gd (decide (-(2 ^ 60) ≤ m) && (decide (m ≤ 2 ^ 60) && (decide (-(2 ^ 60) ≤ n) && decide (n ≤ 2 ^ 60)))) (.ok (true, intsD m (n - m).toNat))
  | .enum e, env => (e.ev env).bind fun x => seqV x.2 fun xs => .ok (false, enumD xs)
  | .zips a b, env => (a.ev env).bind fun x => (b.ev env).bind fun y => seqV x.2 fun xs => seqV y.2 fun ys => gd (decide (xs.length = ys.length)) (.ok (false, zipD xs ys))
  | .zip a b, env => (a.ev env).bind fun x => (b.ev env).bind fun y => twoV x.2 y.2 fun xs ys => .ok (false, zipD xs ys)
end
end
end DL
set_option Elab.async false
set_option linter.all false
set_option maxRecDepth 100000
set_option maxHeartbeats 4000000
/-! E1: what an evaluation gives is what a reading wants; statements. -/
namespace DL
open PySem PySem.Spec PyProof.Rows L2

def Under (F : Nat → FV) (C : Nat → Fs) : Prop := ∀ j sl Q E, (F j sl).wp (fun p => Q p.1 p.2) E → C j sl Q E
theorem bool_if {α : Type} {c : Bool} {a b : Ev α} {Q : α → Prop} {E : Str → Prop} (h : (match c with | true => a | false => b : Ev α).wp Q E) : (c = true ∧ a.wp Q E) ∨ (c = false ∧ b.wp Q E) := by
  cases c with
  | true => exact .inl ⟨rfl, h⟩
  | false => exact .inr ⟨rfl, h⟩
theorem slotV_ok {env : Env} {i : Nat} {Q : PyData → Prop} {E : Str → Prop} (h : (slotV env i).wp Q E) : ∃ d, (env[i]? = some (.sh d) ∨ env[i]? = some (.ow d)) ∧ Q d := by
  unfold slotV at h
  split at h
  · rename_i d e; exact ⟨d, .inl e, h⟩
  · rename_i d e; exact ⟨d, .inr e, h⟩
  · exact h.elim
theorem Ev.wp_bind_ok {α β : Type} {a : α} {f : α → Ev β} {Q : β → Prop} {E : Str → Prop} (h : ((Ev.ok a).bind f).wp Q E) : (f a).wp Q E := h
theorem slotA_ok {env : Env} {i : Nat} {Q : Sl → Prop} {E : Str → Prop} (h : (slotA env i).wp Q E) : match env[i]? with | some (.sh d) => Q (.sh d) | some (.ow d) => Q (.sh d) | some .src => Q .src | _ => False := by
  unfold slotA at h
  split at h
  · rename_i d e; first | exact h | (rw [e]; exact h)
  · rename_i d e; first | exact h | (rw [e]; exact h)
  · rename_i e; first | exact h | (rw [e]; exact h)
  · exact h.elim
theorem filV_ok {f : PyData → Ev (Option PyData)} {step : PyData → List PyData → (List PyData → Prop) → Prop} (hs : ∀ x acc K, (f x).wp (fun o => K (match o with | some d => acc ++ [d] | none => acc)) (fun _ => False) → step x acc K) (hn : ∀ x Q E, (f x).wp Q E → (f x).wp Q fun _ => False) :
    ∀ (xs acc : List PyData) (Q : List PyData → Prop) (E : Str → Prop), (filV f xs).wp (fun L => Q (acc ++ L)) E → foldC step xs acc Q
  | [], acc, Q, E, h => by
    have h' : Q (acc ++ []) := h
    rw [List.append_nil] at h'
    exact h'
  | x :: xs, acc, Q, E, h => by
    have h' : ((f x).bind fun o => (filV f xs).bind fun r => .ok (match o with | some d => d :: r | none => r)).wp (fun L => Q (acc ++ L)) E := h
    show step x acc fun acc' => foldC step xs acc' Q
    refine hs x acc _ ((hn x _ _ (Ev.wp_bind h')).imp fun o q => ?_)
    refine filV_ok hs hn xs _ Q E ((Ev.wp_bind q).imp fun L hL => ?_)
    cases o with
    | none => exact hL
    | some d =>
      have hL' : Q (acc ++ d :: L) := hL
      simpa using hL'
theorem noex_same {α : Type} {r : Ev α} {Q : α → Prop} {E : Str → Prop} (h : (noex r).wp Q E) : (noex r).wp Q fun _ => False := by
  induction r with
  | ok a => exact h
  | ex s => exact h
  | bad => exact h
  | pk m k ih => exact ⟨h.1, fun r hr => ih r (h.2 r hr)⟩
section
variable {F : Nat → FV} {C : Nat → Fs} (hC : Under F C)
include hC
mutual
theorem Ex.ev_ok : ∀ {e : Ex} {E : Str → Prop} {env : Env} {Q : Bool → PyData → Prop}, (e.ev F env).wp (fun p => Q p.1 p.2) E → e.rd C E env Q
  | .var i, E, env, Q, h => by
    simp only [Ex.ev] at h
    obtain ⟨d, e, q⟩ := slotV_ok (Ev.wp_bind h)
    simp only [Ex.rd]
    rcases e with e | e <;> (rw [e]; exact q)
  | .lit d, E, env, Q, h => by simp only [Ex.ev] at h; simp only [Ex.rd]; exact h
  | .tup es, E, env, Q, h => by
    simp only [Ex.ev] at h; simp only [Ex.rd]
    exact Exs.ev_ok (es := es) ((Ev.wp_bind h).imp fun ds q => by obtain ⟨c, q⟩ := gd_wp q; exact ⟨leN_iff.mp c, q⟩)
  | .lst es, E, env, Q, h => by
    simp only [Ex.ev] at h; simp only [Ex.rd]
    exact Exs.ev_ok (es := es) ((Ev.wp_bind h).imp fun ds q => by obtain ⟨c, q⟩ := gd_wp q; exact ⟨leN_iff.mp c, q⟩)
  | .bin o a b, E, env, Q, h => by
    simp only [Ex.ev] at h; simp only [Ex.rd]
    exact Ex.ev_ok (e := a) ((Ev.wp_bind h).imp fun x q => Ex.ev_ok (e := b) ((Ev.wp_bind q).imp fun y q => BinV_ok q))
  | .neg a, E, env, Q, h => by
    simp only [Ex.ev] at h; simp only [Ex.rd]
    exact Ex.ev_ok (e := a) ((Ev.wp_bind h).imp fun x q => intV_ok q)
  | .cmp o a b, E, env, Q, h => by
    simp only [Ex.ev] at h; simp only [Ex.rd]
    exact Ex.ev_ok (e := a) ((Ev.wp_bind h).imp fun x q => Ex.ev_ok (e := b) ((Ev.wp_bind q).imp fun y q => CmpV_ok (Ev.wp_bind q)))
  | .cmp2 o p a b c, E, env, Q, h => by
    simp only [Ex.ev] at h; simp only [Ex.rd]
    refine Ex.ev_ok (e := a) ((Ev.wp_bind h).imp fun x q => Ex.ev_ok (e := b) ((Ev.wp_bind q).imp fun y q => CmpV_ok ((Ev.wp_bind q).imp fun r q => ?_)))
    rcases bool_if q with ⟨rfl, q⟩ | ⟨rfl, q⟩
    · rw [if_pos rfl]
      exact Ex.ev_ok (e := c) ((Ev.wp_bind q).imp fun z q => CmpV_ok (Ev.wp_bind q))
    · rw [if_neg Bool.false_ne_true]
      exact q
  | .and_ a b, E, env, Q, h => by
    simp only [Ex.ev] at h; simp only [Ex.rd]
    refine Ex.ev_ok (e := a) ((Ev.wp_bind h).imp fun x q => ?_)
    obtain ⟨c, hc, q⟩ := tstV_ok q
    refine ⟨c, hc, ?_⟩
    rcases bool_if q with ⟨rfl, q⟩ | ⟨rfl, q⟩
    · rw [if_pos rfl]; exact Ex.ev_ok (e := b) q
    · rw [if_neg Bool.false_ne_true]; exact q
  | .or_ a b, E, env, Q, h => by
    simp only [Ex.ev] at h; simp only [Ex.rd]
    refine Ex.ev_ok (e := a) ((Ev.wp_bind h).imp fun x q => ?_)
    obtain ⟨c, hc, q⟩ := tstV_ok q
    refine ⟨c, hc, ?_⟩
    rcases bool_if q with ⟨rfl, q⟩ | ⟨rfl, q⟩
    · rw [if_pos rfl]; exact q
    · rw [if_neg Bool.false_ne_true]; exact Ex.ev_ok (e := b) q
  | .not_ a, E, env, Q, h => by
    simp only [Ex.ev] at h; simp only [Ex.rd]
    exact Ex.ev_ok (e := a) ((Ev.wp_bind h).imp fun x q => tstV_ok q)
  | .ite t a b, E, env, Q, h => by
    simp only [Ex.ev] at h; simp only [Ex.rd]
    refine Ex.ev_ok (e := t) ((Ev.wp_bind h).imp fun x q => ?_)
    obtain ⟨c, hc, q⟩ := tstV_ok q
    refine ⟨c, hc, ?_⟩
    rcases bool_if q with ⟨rfl, q⟩ | ⟨rfl, q⟩
    · rw [if_pos rfl]; exact Ex.ev_ok (e := a) q
    · rw [if_neg Bool.false_ne_true]; exact Ex.ev_ok (e := b) q
  | .call j es, E, env, Q, h => by
    simp only [Ex.ev] at h; simp only [Ex.rd]
    exact Exs.ev_oka (es := es) ((Ev.wp_bind h).imp fun sl q => hC j sl _ _ q)
  | .bi b es, E, env, Q, h => by
    simp only [Ex.ev] at h; simp only [Ex.rd]
    exact Exs.ev_ok (es := es) ((Ev.wp_bind h).imp fun ds q => BiV_ok q)
  | .mth m o es, E, env, Q, h => by
    simp only [Ex.ev] at h; simp only [Ex.rd]
    refine Ex.ev_ok (e := o) ((Ev.wp_bind h).imp fun x q => ?_)
    obtain ⟨c, q⟩ := gd_wp q
    exact ⟨c, Exs.ev_ok (es := es) ((Ev.wp_bind q).imp fun ds q => MtV_ok q)⟩
  | .ix o i, E, env, Q, h => by
    simp only [Ex.ev] at h; simp only [Ex.rd]
    exact Ex.ev_ok (e := o) ((Ev.wp_bind h).imp fun x q => Ex.ev_ok (e := i) ((Ev.wp_bind q).imp fun y q => IxV_ok q))
  | .slc o lo hi, E, env, Q, h => by
    simp only [Ex.ev] at h; simp only [Ex.rd]
    exact Ex.ev_ok (e := o) ((Ev.wp_bind h).imp fun x q => Exo.ev_ok (e := lo) ((Ev.wp_bind q).imp fun y q => Exo.ev_ok (e := hi) ((Ev.wp_bind q).imp fun z q => SlV_ok q)))
  | .isa e T, E, env, Q, h => by
    simp only [Ex.ev] at h; simp only [Ex.rd]
    exact Ex.ev_ok (e := e) (Ev.wp_bind h)
  | .rev o, E, env, Q, h => by
    simp only [Ex.ev] at h; simp only [Ex.rd]
    exact Ex.ev_ok (e := o) ((Ev.wp_bind h).imp fun x q => revV_ok q)
  | .dic0, E, env, Q, h => by simp only [Ex.ev] at h; simp only [Ex.rd]; exact h
  | .comp e tg it cs own, E, env, Q, h => by
    simp only [Ex.ev] at h; simp only [Ex.rd]
    refine It.ev_ok (it := it) ((Ev.wp_bind h).imp fun p q => ?_)
    obtain ⟨c, q⟩ := gd_wp q
    refine ⟨leN_iff.mp c, filV_ok (fun x acc K w => ?_) (fun x Q' E' z => ?_) _ _ _ _ (Ev.wp_bind q)⟩
    · obtain ⟨env', e1, w⟩ := optV_wp w
      refine Tg.bv_ok e1 (Exs.ev_okt (es := cs) ((Ev.wp_bind (noex_wp w)).imp fun b q => ?_))
      rcases bool_if q with ⟨rfl, q⟩ | ⟨rfl, q⟩
      · rw [if_pos rfl]; exact Ex.ev_ok (e := e) (Ev.wp_bind q)
      · rw [if_neg Bool.false_ne_true]; exact q
    · obtain ⟨env', e1, z⟩ := optV_wp z
      rw [e1]
      exact noex_same z
theorem Exo.ev_ok : ∀ {e : Exo} {E : Str → Prop} {env : Env} {Q : Option Int → Prop}, (e.ev F env).wp Q E → e.rd C E env Q
  | .no, E, env, Q, h => by simp only [Exo.ev] at h; simp only [Exo.rd]; exact h
  | .so e, E, env, Q, h => by
    simp only [Exo.ev] at h; simp only [Exo.rd]
    exact Ex.ev_ok (e := e) ((Ev.wp_bind h).imp fun x q => intV_ok q)
theorem Exs.ev_ok : ∀ {es : Exs} {E : Str → Prop} {env : Env} {Q : List PyData → Prop}, (es.ev F env).wp Q E → es.rd C E env Q
  | .nil, E, env, Q, h => by simp only [Exs.ev] at h; simp only [Exs.rd]; exact h
  | .cons e r, E, env, Q, h => by
    simp only [Exs.ev] at h; simp only [Exs.rd]
    exact Ex.ev_ok (e := e) ((Ev.wp_bind h).imp fun x q => Exs.ev_ok (es := r) (Ev.wp_bind q))
theorem Exs.ev_okt : ∀ {es : Exs} {E : Str → Prop} {env : Env} {Q : Bool → Prop}, (es.evt F env).wp Q E → es.rdt C E env Q
  | .nil, E, env, Q, h => by simp only [Exs.evt] at h; simp only [Exs.rdt]; exact h
  | .cons e r, E, env, Q, h => by
    simp only [Exs.evt] at h; simp only [Exs.rdt]
    refine Ex.ev_ok (e := e) ((Ev.wp_bind h).imp fun x q => ?_)
    obtain ⟨c, hc, q⟩ := tstV_ok q
    refine ⟨c, hc, ?_⟩
    rcases bool_if q with ⟨rfl, q⟩ | ⟨rfl, q⟩
    · rw [if_pos rfl]; exact Exs.ev_okt (es := r) q
    · rw [if_neg Bool.false_ne_true]; exact q
theorem Exs.ev_oka : ∀ {es : Exs} {E : Str → Prop} {env : Env} {Q : List Sl → Prop}, (es.eva F env).wp Q E → es.rda C E env Q
  | .nil, E, env, Q, h => by simp only [Exs.eva] at h; simp only [Exs.rda]; exact h
  | .cons e r, E, env, Q, h => by
    simp only [Exs.eva] at h
    have h1 := Ev.wp_bind h
    cases e with
    | var i =>
      have h2 := slotA_ok h1
      simp only [Exs.rda]
      split at h2
      · rename_i d e1; first | exact Exs.ev_oka (es := r) (Ev.wp_bind h2) | (rw [e1]; exact Exs.ev_oka (es := r) (Ev.wp_bind h2))
      · rename_i d e1; first | exact Exs.ev_oka (es := r) (Ev.wp_bind h2) | (rw [e1]; exact Exs.ev_oka (es := r) (Ev.wp_bind h2))
      · rename_i e1; first | exact Exs.ev_oka (es := r) (Ev.wp_bind h2) | (rw [e1]; exact Exs.ev_oka (es := r) (Ev.wp_bind h2))
      · exact h2.elim
    | _ =>
      simp only [Exs.rda]
      exact Ex.ev_ok ((Ev.wp_bind h1).imp fun x q => Exs.ev_oka (es := r) (Ev.wp_bind q))
theorem It.ev_ok : ∀ {it : It} {E : Str → Prop} {env : Env} {Q : Bool → List PyData → Prop}, (it.ev F env).wp (fun p => Q p.1 p.2) E → it.rd C E env Q
  | .seq e, E, env, Q, h => by
    simp only [It.ev] at h; simp only [It.rd]
    exact Ex.ev_ok (e := e) ((Ev.wp_bind h).imp fun x q => seqV_ok q)
  | .range1 e, E, env, Q, h => by
    simp only [It.ev] at h; simp only [It.rd]
    refine Ex.ev_ok (e := e) ((Ev.wp_bind h).imp fun x q => ?_)
    obtain ⟨i, e, q⟩ := isInt_iff (intV_ok q)
    rw [e]
    obtain ⟨c, q⟩ := gd_wp q
    simp only [Bool.and_eq_true, decide_eq_true_eq] at c
    exact ⟨c.1, c.2, q⟩
  | .range2 a b, E, env, Q, h => by
    simp only [It.ev] at h; simp only [It.rd]
    refine Ex.ev_ok (e := a) ((Ev.wp_bind h).imp fun x q => Ex.ev_ok (e := b) ((Ev.wp_bind q).imp fun y q => ?_))
    obtain ⟨i, e, q⟩ := isInt_iff (intV_ok q)
    obtain ⟨j, e', q⟩ := isInt_iff (intV_ok q)
    rw [e, e']
    obtain ⟨c, q⟩ := gd_wp q
    simp only [Bool.and_eq_true, decide_eq_true_eq] at c
    exact ⟨c.1, c.2.1, c.2.2.1, c.2.2.2, q⟩
  | .enum e, E, env, Q, h => by
    simp only [It.ev] at h; simp only [It.rd]
    exact Ex.ev_ok (e := e) ((Ev.wp_bind h).imp fun x q => seqV_ok q)
  | .zips a b, E, env, Q, h => by
    simp only [It.ev] at h; simp only [It.rd]
    refine Ex.ev_ok (e := a) ((Ev.wp_bind h).imp fun x q => Ex.ev_ok (e := b) ((Ev.wp_bind q).imp fun y q => ?_))
    obtain ⟨xs, e, q⟩ := isSeq_iff (seqV_ok q)
    obtain ⟨ys, e', q⟩ := isSeq_iff (seqV_ok q)
    obtain ⟨c, q⟩ := gd_wp q
    rcases e with e | e <;> rcases e' with e' | e' <;> (rw [e, e']; exact ⟨of_decide_eq_true c, q⟩)
  | .zip a b, E, env, Q, h => by
    simp only [It.ev] at h; simp only [It.rd]
    exact Ex.ev_ok (e := a) ((Ev.wp_bind h).imp fun x q => Ex.ev_ok (e := b) ((Ev.wp_bind q).imp fun y q => twoV_ok q))
end
end
end DL
set_option Elab.async false
set_option linter.all false
set_option maxRecDepth 100000
set_option maxHeartbeats 4000000
/-! E2: statements evaluated. -/
namespace DL
open PySem PySem.Spec PyProof.Rows L2

inductive Res where
  | nx (e : Env) | rt (fr : Bool) (d : PyData) | bk (e : Env) | ct (e : Env) | ex (s : Str) | bad | pk (m : Int) (k : Int → Res)
namespace Res
def wp : Res → Kp → Prop
  | .nx e, k => k.nx e
  | .rt f d, k => k.rt f d
  | .bk e, k => k.bk e
  | .ct e, k => k.ct e
  | .ex s, k => k.ex s
  | .bad, _ => False
  | .pk m g, k => smP m ∧ ∀ r, RngP m r → (g r).wp k
end Res
theorem Res.wp.imp {x : Res} {k k' : Kp} (h : x.wp k) (a : ∀ e, k.nx e → k'.nx e) (b : ∀ e, k.ct e → k'.ct e) (c : ∀ e, k.bk e → k'.bk e) (d : ∀ f d, k.rt f d → k'.rt f d) (s : ∀ e, k.ex e → k'.ex e) : x.wp k' := by
  induction x with
  | nx e => exact a e h
  | ct e => exact b e h
  | bk e => exact c e h
  | rt f v => exact d f v h
  | ex e => exact s e h
  | bad => exact h
  | pk m g ih => exact ⟨h.1, fun r hr => ih r (h.2 r hr)⟩
/-- what a def gives back -/
def Res.val : Res → Ev Val
  | .rt f d => .ok (f, d)
  | .nx _ => okv .none
  | .ex s => .ex s
  | .pk m g => .pk m fun r => (g r).val
  | _ => .bad
def evk {α : Type} : Ev α → (α → Res) → Res
  | .ok a, f => f a
  | .ex s, _ => .ex s
  | .bad, _ => .bad
  | .pk m g, f => .pk m fun r => evk (g r) f
@[simp] theorem evk_ok {α : Type} (a : α) (f : α → Res) : evk (.ok a) f = f a := (rfl)
@[simp] theorem evk_ex {α : Type} (s : Str) (f : α → Res) : evk (.ex s : Ev α) f = .ex s := (rfl)
@[simp] theorem evk_bad {α : Type} (f : α → Res) : evk (.bad : Ev α) f = .bad := (rfl)
@[simp] theorem evk_pk {α : Type} (m : Int) (g : Int → Ev α) (f : α → Res) : evk (.pk m g) f = .pk m fun r => evk (g r) f := (rfl)
theorem evk_wp {α : Type} {r : Ev α} {f : α → Res} {k : Kp} (h : (evk r f).wp k) : r.wp (fun a => (f a).wp k) k.ex := by
  induction r with
  | pk m g ih => exact ⟨h.1, fun r hr => ih r (h.2 r hr)⟩
  | _ => exact h
def gdR (c : Bool) (r : Res) : Res := match c with
  | true => r
  | false => .bad
@[simp] theorem gdR_true (r : Res) : gdR true r = r := (rfl)
theorem gdR_wp {c : Bool} {r : Res} {k : Kp} (h : (gdR c r).wp k) : c = true ∧ r.wp k := by
  cases c with
  | true => exact ⟨rfl, h⟩
  | false => exact h.elim
def optR {α : Type} (o : Option α) (f : α → Res) : Res := match o with
  | some a => f a
  | none => .bad
@[simp] theorem optR_some {α : Type} (a : α) (f : α → Res) : optR (some a) f = f a := (rfl)
@[simp] theorem optR_none {α : Type} (f : α → Res) : optR (none : Option α) f = .bad := (rfl)
theorem optR_wp {α : Type} {o : Option α} {f : α → Res} {k : Kp} (h : (optR o f).wp k) : ∃ a, o = some a ∧ (f a).wp k := by
  cases o with
  | none => exact h.elim
  | some a => exact ⟨a, rfl, h⟩
/-- one's own list at a slot -/
def ownL (env : Env) (i : Nat) : Option (List PyData) := match env[i]? with
  | some (.ow (.list xs)) => some xs
  | _ => none
theorem ownL_iff {env : Env} {i : Nat} {xs : List PyData} (h : ownL env i = some xs) : env[i]? = some (.ow (.list xs)) := by
  unfold ownL at h
  split at h
  · rename_i e; cases h; exact e
  · cases h
def intAt (env : Env) (i : Nat) : Option Int := match env[i]? with
  | some (.sh (.int z)) => some z
  | _ => none
theorem intAt_iff {env : Env} {i : Nat} {z : Int} (h : intAt env i = some z) : env[i]? = some (.sh (.int z)) := by
  unfold intAt at h
  split at h
  · rename_i e; cases h; exact e
  · cases h
def intO (d : PyData) : Option Int := match d with
  | .int i => some i
  | _ => none
theorem intO_iff {d : PyData} {i : Int} (h : intO d = some i) : d = .int i := by
  cases d <;> simp [intO] at h; subst h; rfl
/-- one's own list or dict at a slot -/
def ownS (env : Env) (i : Nat) (f : List PyData → Res) (g : List (PyData × PyData) → Res) : Res := match env[i]? with
  | some (.ow (.list xs)) => f xs
  | some (.ow (.dict kvs)) => g kvs
  | _ => .bad
theorem ownS_iff {env : Env} {i : Nat} {f : List PyData → Res} {g : List (PyData × PyData) → Res} {k : Kp} (h : (ownS env i f g).wp k) : (∃ xs, env[i]? = some (.ow (.list xs)) ∧ (f xs).wp k) ∨ ∃ kvs, env[i]? = some (.ow (.dict kvs)) ∧ (g kvs).wp k := by
  unfold ownS at h
  split at h
  · rename_i xs e; exact .inl ⟨xs, e, h⟩
  · rename_i xs e; exact .inr ⟨xs, e, h⟩
  · exact h.elim
def lstO (d : PyData) : Option (List PyData) := match d with
  | .list xs => some xs
  | _ => none
theorem lstO_iff {d : PyData} {xs : List PyData} (h : lstO d = some xs) : d = .list xs := by
  cases d <;> simp [lstO] at h; subst h; rfl
/-- one statement, and what is behind it -/
def Res.go (f : Env → Res) : Res → Res
  | .nx e => f e
  | .pk m g => .pk m fun r => (g r).go f
  | .rt fr d => .rt fr d
  | .bk e => .bk e
  | .ct e => .ct e
  | .ex s => .ex s
  | .bad => .bad
theorem go_wp {f : Env → Res} {k : Kp} {x : Res} (h : (x.go f).wp k) : x.wp { k with nx := fun e => (f e).wp k } := by
  induction x with
  | pk m g ih => exact ⟨h.1, fun r hr => ih r (h.2 r hr)⟩
  | _ => exact h
/-- a turn of a loop, and what is behind it -/
def Res.lp (f : Env → Res) : Res → Res
  | .nx e => f e
  | .ct e => f e
  | .bk e => .nx e
  | .pk m g => .pk m fun r => (g r).lp f
  | .rt fr d => .rt fr d
  | .ex s => .ex s
  | .bad => .bad
theorem lp_wp {f : Env → Res} {k : Kp} {x : Res} (h : (x.lp f).wp k) : x.wp { k with nx := fun e => (f e).wp k, ct := fun e => (f e).wp k, bk := k.nx } := by
  induction x with
  | pk m g ih => exact ⟨h.1, fun r hr => ih r (h.2 r hr)⟩
  | _ => exact h
/-- a for loop over known items -/
def forV (step : PyData → Env → Res) : List PyData → Env → Res
  | [], env => .nx env
  | x :: xs, env => (step x env).lp (forV step xs)
theorem forV_ok {step : PyData → Env → Res} {st : PyData → Env → (Env → Prop) → Prop} {k : Kp} (hs : ∀ x env q, (step x env).wp { k with nx := q, ct := q, bk := k.nx } → st x env q) : ∀ (xs : List PyData) (env : Env), (forV step xs env).wp k → foldS st xs env k.nx
  | [], env, h => h
  | x :: xs, env, h => by
    have h' := lp_wp h
    refine hs x env _ ?_
    have e : (fun e => (forV step xs e).wp k) = (fun e => (forV step xs e).wp k) := rfl
    refine Res.wp.imp h' (fun e q => forV_ok hs xs e q) (fun e q => forV_ok hs xs e q) (fun _ q => q) (fun _ _ q => q) (fun _ q => q)
/-- a while loop -/
def whlV (t : Env → Ev (Bool × Env)) (b : Env → Res) : Nat → Env → Res
  | 0, _ => .bad
  | n + 1, env => evk (t env) fun p => match p.1 with
    | false => .nx p.2
    | true => (b p.2).lp (whlV t b n)
def fuel : Nat := 1000000000
theorem whlV_ok {t : Env → Ev (Bool × Env)} {b : Env → Res} {st : Env → (Env → Prop) → (Env → Prop) → Prop} {k : Kp}
    (hs : ∀ env q, (t env).wp (fun p => if p.1 = true then (b p.2).wp { k with nx := q, ct := q, bk := k.nx } else k.nx p.2) k.ex → st env q k.nx) : ∀ (n : Nat) (env : Env), (whlV t b n env).wp k → loopS st n env k.nx
  | 0, env, h => h
  | n + 1, env, h => by
    refine hs env _ ((evk_wp h).imp fun p q => ?_)
    cases e1 : p.1 with
    | false => rw [e1] at q; rw [if_neg Bool.false_ne_true]; exact q
    | true =>
      rw [e1] at q
      rw [if_pos rfl]
      exact Res.wp.imp (lp_wp q) (fun e q => whlV_ok hs n e q) (fun e q => whlV_ok hs n e q) (fun _ q => q) (fun _ _ q => q) (fun _ q => q)
section
variable (F : Nat → FV)
def Exs.evf : Exs → Env → Ev (List Val × Env)
  | .nil, env => .ok ([], env)
  | .cons e r, env => (e.ev F env).bind fun v => (r.evf (aft e.vs v.1 v.2 env)).bind fun p => .ok (v :: p.1, p.2)
/-- a test, and the slots behind it -/
def Ex.tst (e : Ex) (env : Env) : Ev (Bool × Env) := (e.ev F env).bind fun v => tstV v.2 fun c => .ok (c, aft e.vs v.1 v.2 env)
mutual
def Sm.ev : Sm → Env → Res
  | .asg (.nm i) e, env => evk (e.ev F env) fun v => .nx ((aft e.vs v.1 v.2 env).set i (put v.1 v.2))
  | .asg (.tp ts) e, env => evk (e.ev F env) fun v => optR ((Tg.tp ts).bv v.2 (aft e.vs v.1 v.2 env)) .nx
  | .asx t i j, env => optR (slO env i) fun _ => evk (j.ev F env) fun y => optR (slO (aft j.vs y.1 y.2 env) i) fun d => evk (IxV d y.2) fun x => optR (t.bv x.2 (aft j.vs y.1 y.2 env)) .nx
  | .par is es, env => evk (es.evf F env) fun p => gdR (decide (p.1.length = is.length)) (.nx (putAll is p.1 p.2))
  | .aug i o e, env => optR (intAt env i) fun z => evk (e.ev F env) fun v => optR (intO v.2) fun w => evk (augV o z w) fun u => .nx (env.set i (.sh (.int u)))
  | .app i e, env => optR (ownL env i) fun _ => evk (e.ev F env) fun v => optR (ownL (aft e.vs v.1 v.2 env) i) fun xs => gdR (decide (xs.length < lim)) (.nx ((aft e.vs v.1 v.2 env).set i (.ow (.list (xs ++ [v.2])))))
  | .setx i j e, env => evk (e.ev F env) fun v => ownS (aft e.vs v.1 v.2 env) i
      (fun xs => evk (j.ev F (aft e.vs v.1 v.2 env)) fun y => optR (intO y.2) fun z => optR (ixN xs.length z) fun n => .nx ((aft e.vs v.1 v.2 env).set i (.ow (.list (xs.set n v.2)))))
      (fun kvs => evk (j.ev F (aft e.vs v.1 v.2 env)) fun y => gdR (keyPut kvs y.2 && decide (kvs.length < lim)) (.nx ((aft e.vs v.1 v.2 env).set i (.ow (.dict (putD kvs y.2 v.2))))))
  | .ext i e, env => optR (ownL env i) fun _ => evk (e.ev F env) fun v => optR (ownL (aft e.vs v.1 v.2 env) i) fun xs => optR (lstO v.2) fun ys => gdR (leN (xs.length + ys.length) lim) (.nx ((aft e.vs v.1 v.2 env).set i (.ow (.list (xs ++ ys)))))
  | .augx i j o e, env => ownS env i
      (fun xs => evk (j.ev F env) fun y => optR (intO y.2) fun z => optR (ixN xs.length z) fun n => optR (xs[n]?.bind intO) fun c => evk (e.ev F env) fun v => optR (intO v.2) fun w => evk (augV o c w) fun u => .nx (env.set i (.ow (.list (xs.set n (.int u))))))
      (fun kvs => evk (j.ev F env) fun y => optR ((lookD kvs y.2).bind intO) fun c => gdR (keyPut kvs y.2 && decide (kvs.length < lim)) (evk (e.ev F env) fun v => optR (intO v.2) fun w => evk (augV o c w) fun u => .nx (env.set i (.ow (.dict (putD kvs y.2 (.int u)))))))
  | .ite t a b, env => evk (t.tst F env) fun p => match p.1 with
    | true => a.ev p.2
    | false => b.ev p.2
  | .for_ tg it b, env => evk (it.ev F env) fun p => forV (fun x env' => optR (tg.bv x env') b.ev) p.2 (match p.1 with | true => env | false => frz it.vs env)
  | .whl t b, env => whlV (t.tst F) b.ev fuel env
  | .ret (.var i), env => match env[i]? with
    | some (.sh d) => .rt false d
    | some (.ow d) => .rt true d
    | _ => .bad
  | .ret e, env => evk (e.ev F env) fun v => .rt v.1 v.2
  | .retn, _ => .rt false .none
  | .brk, env => .bk env
  | .cnt, env => .ct env
  | .pass, env => .nx env
  | .expr e, env => evk (e.ev F env) fun v => .nx (aft e.vs v.1 v.2 env)
def Sms.ev : Sms → Env → Res
  | .nil, env => .nx env
  | .cons s r, env => (s.ev env).go r.ev
end
/-- what is behind it -/
def Res.thn (x : Res) (r : Sms) : Res := x.go (r.ev F)
@[simp] theorem Res.thn_nx (e : Env) (r : Sms) : (Res.nx e).thn F r = r.ev F e := (rfl)
@[simp] theorem Res.thn_rt (f : Bool) (d : PyData) (r : Sms) : (Res.rt f d).thn F r = .rt f d := (rfl)
@[simp] theorem Res.thn_bk (e : Env) (r : Sms) : (Res.bk e).thn F r = .bk e := (rfl)
@[simp] theorem Res.thn_ct (e : Env) (r : Sms) : (Res.ct e).thn F r = .ct e := (rfl)
@[simp] theorem Res.thn_ex (e : Str) (r : Sms) : (Res.ex e).thn F r = .ex e := (rfl)
@[simp] theorem Res.thn_bad (r : Sms) : (Res.bad).thn F r = .bad := (rfl)
@[simp] theorem Res.thn_pk (m : Int) (g : Int → Res) (r : Sms) : (Res.pk m g).thn F r = .pk m fun i => (g i).thn F r := (rfl)
theorem Sms.ev_cons (s : Sm) (r : Sms) (env : Env) : (Sms.cons s r).ev F env = (s.ev F env).thn F r := by
  simp only [Sms.ev]; rfl
theorem Sms.ev_nil (env : Env) : Sms.nil.ev F env = .nx env := by simp only [Sms.ev]
/-- a def's value -/
def evDef (n np : Nat) (b : Sms) : FV := fun sl => if sl.length = np then
    (b.ev F (sl ++ List.replicate (n - np) .un)).val
  else .bad
end
section
variable {F : Nat → FV} {C : Nat → Fs} (hC : Under F C)
include hC
theorem Exs.ev_okf : ∀ {es : Exs} {E : Str → Prop} {env : Env} {Q : List Val → Env → Prop}, (es.evf F env).wp (fun p => Q p.1 p.2) E → es.rdf C E env Q
  | .nil, E, env, Q, h => by simp only [Exs.evf] at h; simp only [Exs.rdf]; exact h
  | .cons e r, E, env, Q, h => by
    simp only [Exs.evf] at h; simp only [Exs.rdf]
    exact Ex.ev_ok hC (e := e) ((Ev.wp_bind h).imp fun x q => Exs.ev_okf (es := r) ((Ev.wp_bind q).imp fun p q => q))
theorem tst_ok {e : Ex} {E : Str → Prop} {env : Env} {Q : Bool → Env → Prop} (h : (e.tst F env).wp (fun p => Q p.1 p.2) E) : e.rd C E env fun fr d => ∃ c, truth d = some c ∧ Q c (aft e.vs fr d env) :=
  Ex.ev_ok hC (e := e) ((Ev.wp_bind h).imp fun x q => tstV_ok q)
mutual
theorem Sm.ev_ok : ∀ {s : Sm} {env : Env} {k : Kp}, (s.ev F env).wp k → s.rd C env k
  | .asg (.nm i) e, env, k, h => by
    simp only [Sm.ev] at h; simp only [Sm.rd]
    exact Ex.ev_ok hC (evk_wp h)
  | .asg (.tp ts) e, env, k, h => by
    simp only [Sm.ev] at h; simp only [Sm.rd]
    refine Ex.ev_ok hC ((evk_wp h).imp fun v q => ?_)
    obtain ⟨e', e1, q⟩ := optR_wp q
    exact Tg.bv_ok e1 q
  | .asx t i j, env, k, h => by
    simp only [Sm.ev] at h; simp only [Sm.rd]
    obtain ⟨d0, e0, h⟩ := optR_wp h
    refine ⟨by rw [e0]; rfl, Ex.ev_ok hC ((evk_wp h).imp fun y q => ?_)⟩
    obtain ⟨d, e1, q⟩ := optR_wp q
    refine ⟨d, e1, IxV_ok ((evk_wp q).imp fun x q => ?_)⟩
    obtain ⟨e', e2, q⟩ := optR_wp q
    exact Tg.bv_ok e2 q
  | .par is es, env, k, h => by
    simp only [Sm.ev] at h; simp only [Sm.rd]
    refine Exs.ev_okf hC ((evk_wp h).imp fun v q => ?_)
    obtain ⟨c, q⟩ := gdR_wp q
    exact ⟨of_decide_eq_true c, q⟩
  | .aug i o e, env, k, h => by
    simp only [Sm.ev] at h; simp only [Sm.rd]
    obtain ⟨z, e1, h⟩ := optR_wp h
    rw [intAt_iff e1]
    refine Ex.ev_ok hC ((evk_wp h).imp fun v q => ?_)
    obtain ⟨w, e2, q⟩ := optR_wp q
    rw [intO_iff e2]
    exact augV_ok (evk_wp q)
  | .app i e, env, k, h => by
    simp only [Sm.ev] at h; simp only [Sm.rd]
    obtain ⟨z, e1, h⟩ := optR_wp h
    rw [ownL_iff e1]
    refine Ex.ev_ok hC ((evk_wp h).imp fun v q => ?_)
    obtain ⟨xs, e2, q⟩ := optR_wp q
    rw [ownL_iff e2]
    obtain ⟨c, q⟩ := gdR_wp q
    exact ⟨of_decide_eq_true c, q⟩
  | .setx i j e, env, k, h => by
    simp only [Sm.ev] at h; simp only [Sm.rd]
    refine Ex.ev_ok hC ((evk_wp h).imp fun v q => ?_)
    rcases ownS_iff q with ⟨xs, e2, q⟩ | ⟨xs, e2, q⟩
    · rw [e2]
      refine Ex.ev_ok hC ((evk_wp q).imp fun y q => ?_)
      obtain ⟨z, e3, q⟩ := optR_wp q
      rw [intO_iff e3]
      exact optR_wp q
    · rw [e2]
      refine Ex.ev_ok hC ((evk_wp q).imp fun y q => ?_)
      obtain ⟨c, q⟩ := gdR_wp q
      rw [Bool.and_eq_true] at c
      exact ⟨c.1, of_decide_eq_true c.2, q⟩
  | .ext i e, env, k, h => by
    simp only [Sm.ev] at h; simp only [Sm.rd]
    obtain ⟨z, e1, h⟩ := optR_wp h
    rw [ownL_iff e1]
    refine Ex.ev_ok hC ((evk_wp h).imp fun v q => ?_)
    obtain ⟨xs, e2, q⟩ := optR_wp q
    rw [ownL_iff e2]
    obtain ⟨ys, e3, q⟩ := optR_wp q
    rw [show isLst v.2 = isLst (.list ys) from by rw [lstO_iff e3]]
    obtain ⟨c, q⟩ := gdR_wp q
    exact ⟨leN_iff.mp c, q⟩
  | .augx i j o e, env, k, h => by
    simp only [Sm.ev] at h; simp only [Sm.rd]
    rcases ownS_iff h with ⟨xs, e2, q⟩ | ⟨xs, e2, q⟩
    · rw [e2]
      refine Ex.ev_ok hC ((evk_wp q).imp fun y q => ?_)
      obtain ⟨z, e3, q⟩ := optR_wp q
      rw [intO_iff e3]
      obtain ⟨n, e4, q⟩ := optR_wp q
      obtain ⟨c, e5, q⟩ := optR_wp q
      obtain ⟨d, e6, e7⟩ := Option.bind_eq_some_iff.mp e5
      rw [intO_iff e7] at e6
      refine ⟨n, c, e4, e6, Ex.ev_ok hC ((evk_wp q).imp fun v q => ?_)⟩
      obtain ⟨w, e8, q⟩ := optR_wp q
      rw [intO_iff e8]
      exact augV_ok (evk_wp q)
    · rw [e2]
      refine Ex.ev_ok hC ((evk_wp q).imp fun y q => ?_)
      obtain ⟨c, e5, q⟩ := optR_wp q
      obtain ⟨d, e6, e7⟩ := Option.bind_eq_some_iff.mp e5
      rw [intO_iff e7] at e6
      obtain ⟨cc, q⟩ := gdR_wp q
      rw [Bool.and_eq_true] at cc
      refine ⟨cc.1, c, e6, of_decide_eq_true cc.2, Ex.ev_ok hC ((evk_wp q).imp fun v q => ?_)⟩
      obtain ⟨w, e8, q⟩ := optR_wp q
      rw [intO_iff e8]
      exact augV_ok (evk_wp q)
  | .ite t a b, env, k, h => by
    simp only [Sm.ev] at h; simp only [Sm.rd]
    refine tst_ok hC (Q := fun c e' => if c = true then a.rd C e' k else b.rd C e' k) ((evk_wp h).imp fun p q => ?_)
    obtain ⟨c, e'⟩ := p
    cases c with
    | true => rw [if_pos rfl]; exact Sms.ev_ok (b := a) q
    | false => rw [if_neg Bool.false_ne_true]; exact Sms.ev_ok (b := b) q
  | .for_ tg it b, env, k, h => by
    simp only [Sm.ev] at h; simp only [Sm.rd]
    refine It.ev_ok hC ((evk_wp h).imp fun p q => ?_)
    have e : (match p.1 with | true => env | false => frz it.vs env : Env) = if p.1 = true then env else frz it.vs env := by cases p.1 <;> rfl
    rw [e] at q
    refine forV_ok (fun x env' q' w => ?_) _ _ q
    obtain ⟨e2, e1, w⟩ := optR_wp w
    exact Tg.bv_ok e1 (Sms.ev_ok (b := b) w)
  | .whl t b, env, k, h => by
    simp only [Sm.ev] at h; simp only [Sm.rd]
    refine ⟨fuel, whlV_ok (fun env' q w => ?_) _ _ h⟩
    refine tst_ok hC (Q := fun c e' => if c = true then b.rd C e' { k with nx := q, ct := q, bk := k.nx } else k.nx e') (w.imp fun p w => ?_)
    obtain ⟨c, e'⟩ := p
    cases c with
    | true => rw [if_pos rfl] at w ⊢; exact Sms.ev_ok (b := b) w
    | false => rw [if_neg Bool.false_ne_true] at w ⊢; exact w
  | .ret e, env, k, h => by
    cases e with
    | var i =>
      simp only [Sm.ev] at h; simp only [Sm.rd]
      split at h
      · rename_i d e; first | exact h | (rw [e]; exact h)
      · rename_i d e; first | exact h | (rw [e]; exact h)
      · exact h.elim
    | _ =>
      simp only [Sm.ev] at h; simp only [Sm.rd]
      exact Ex.ev_ok hC (evk_wp h)
  | .retn, env, k, h => by simp only [Sm.ev] at h; simp only [Sm.rd]; exact h
  | .brk, env, k, h => by simp only [Sm.ev] at h; simp only [Sm.rd]; exact h
  | .cnt, env, k, h => by simp only [Sm.ev] at h; simp only [Sm.rd]; exact h
  | .pass, env, k, h => by simp only [Sm.ev] at h; simp only [Sm.rd]; exact h
  | .expr e, env, k, h => by
    simp only [Sm.ev] at h; simp only [Sm.rd]
    exact Ex.ev_ok hC (evk_wp h)
theorem Sms.ev_ok : ∀ {b : Sms} {env : Env} {k : Kp}, (b.ev F env).wp k → b.rd C env k
  | .nil, env, k, h => by simp only [Sms.ev] at h; simp only [Sms.rd]; exact h
  | .cons s r, env, k, h => by
    rw [Sms.ev_cons] at h; simp only [Sms.rd]
    exact Sm.ev_ok (s := s) (Res.wp.imp (go_wp h) (fun e q => Sms.ev_ok (b := r) q) (fun _ q => q) (fun _ q => q) (fun _ _ q => q) (fun _ q => q))
end
end
/-- the worth of a def -/
def wOf (f : FV) : Fs := fun sl Q E => (f sl).wp (fun p => Q p.1 p.2) E
theorem ar_of {F : Nat → FV} {n np : Nat} {b : Sms} : ∀ sl Q Ep, wOf (evDef F n np b) sl Q Ep → sl.length = np := by
  intro sl Q Ep h
  unfold wOf evDef at h
  split at h
  · assumption
  · exact h.elim
theorem val_wp {x : Res} {Q : Bool → PyData → Prop} {E : Str → Prop} (h : x.val.wp (fun p => Q p.1 p.2) E) : x.wp { nx := fun _ => Q false .none, rt := Q, ex := E } := by
  induction x with
  | pk m g ih => exact ⟨h.1, fun r hr => ih r (h.2 r hr)⟩
  | bk e => exact h.elim
  | ct e => exact h.elim
  | bad => exact h.elim
  | _ => exact h
theorem rd_of {F : Nat → FV} {C : Nat → Fs} {N : List Str} {np : Nat} {b : Sms} (hC : Under F C) : ∀ sl Q Ep, wOf (evDef F N.length np b) sl Q Ep → b.rd C (envOf N sl) { nx := fun _ => Q false .none, rt := Q, ex := Ep } := by
  intro sl Q Ep h
  unfold wOf evDef at h
  split at h
  · rename_i hl
    unfold envOf
    rw [hl]
    exact Sms.ev_ok hC (val_wp h)
  · exact h.elim
/-- a law's end -/
theorem rd_law_of {F : Nat → FV} {C : Nat → Fs} {b : Sms} {env : Env} (hC : Under F C) (h : (b.ev F env).wp lawKp) : b.rd C env lawKp := Sms.ev_ok hC h
/-- a table of defs -/
def tab : List (Nat × FV) → Nat → FV
  | [], _ => fun _ => .bad
  | (i, f) :: r, j => if i = j then f else tab r j
theorem under_nil {C : Nat → Fs} : Under (tab []) C := fun j sl Q E h => h.elim
theorem under_cons {C : Nat → Fs} {i : Nat} {f : FV} {r : List (Nat × FV)} (h : C i = wOf f) (t : Under (tab r) C) : Under (tab ((i, f) :: r)) C := fun j sl Q E w => by
  unfold tab at w
  split at w
  · rename_i e
    subst e
    rw [h]
    exact w
  · exact t j sl Q E w
/-- a pick -/
def F_pick : FV := fun sl => match sl with
  | [.src, .sh (.int m)] => .pk m fun r => okv (.int r)
  | _ => .bad
theorem under_pick {C : Nat → Fs} {i : Nat} {r : List (Nat × FV)} (h : C i = cPickF) (t : Under (tab r) C) : Under (tab ((i, F_pick) :: r)) C := fun j sl Q E w => by
  unfold tab at w
  split at w
  · rename_i e
    subst e
    rw [h]
    unfold F_pick at w
    split at w
    · rename_i m
      exact ⟨m, rfl, w.1, fun r hr => w.2 r hr⟩
    · exact w.elim
  · exact t j sl Q E w
/-- another worth below it -/
theorem under_imp {C : Nat → Fs} {i : Nat} {f : FV} {r : List (Nat × FV)} (h : ∀ sl Q E, (f sl).wp (fun p => Q p.1 p.2) E → C i sl Q E) (t : Under (tab r) C) : Under (tab ((i, f) :: r)) C := fun j sl Q E w => by
  unfold tab at w
  split at w
  · rename_i e
    subst e
    exact h sl Q E w
  · exact t j sl Q E w
end DL
set_option Elab.async false
set_option linter.all false
set_option maxRecDepth 100000
set_option maxHeartbeats 4000000
/-! E3: equations of the evaluation, loops. -/
namespace DL
open PySem PySem.Spec PyProof.Rows L2
theorem Ex_ev_var {F : Nat → FV} {i env} : Ex.ev F (.var i) env = (slotV env i).bind okv := by rfl
theorem Ex_ev_lit {F : Nat → FV} {d env} : Ex.ev F (.lit d) env = okv d := by rfl
theorem Ex_ev_tup {F : Nat → FV} {es env} : Ex.ev F (.tup es) env = (es.ev F env).bind fun ds => gd (leN ds.length lim) (okv (.tuple ds)) := by rfl
theorem Ex_ev_lst {F : Nat → FV} {es env} : Ex.ev F (.lst es) env = (es.ev F env).bind fun ds => gd (leN ds.length lim) (okn (.list ds)) := by rfl
theorem Ex_ev_bin {F : Nat → FV} {a b o env} : Ex.ev F (.bin o a b) env = (a.ev F env).bind fun x => (b.ev F env).bind fun y => BinV o x.2 y.2 := by rfl
theorem Ex_ev_neg {F : Nat → FV} {a env} : Ex.ev F (.neg a) env = (a.ev F env).bind fun x => intV x.2 fun i => okv (.int (-i)) := by rfl
theorem Ex_ev_cmp {F : Nat → FV} {a b o env} : Ex.ev F (.cmp o a b) env = (a.ev F env).bind fun x => (b.ev F env).bind fun y => (CmpV o x.2 y.2).bind fun c => okv (.bool c) := by rfl
theorem Ex_ev_cmp2 {F : Nat → FV} {a b c o p env} : Ex.ev F (.cmp2 o p a b c) env = (a.ev F env).bind fun x => (b.ev F env).bind fun y => (CmpV o x.2 y.2).bind fun r => cond r ((c.ev F env).bind fun z => (CmpV p y.2 z.2).bind fun r' => okv (.bool r')) (okv (.bool false)) := by rfl
theorem Ex_ev_and_ {F : Nat → FV} {a b env} : Ex.ev F (.and_ a b) env = (a.ev F env).bind fun x => tstV x.2 fun c => cond c (b.ev F env) (.ok x) := by rfl
theorem Ex_ev_or_ {F : Nat → FV} {a b env} : Ex.ev F (.or_ a b) env = (a.ev F env).bind fun x => tstV x.2 fun c => cond c (.ok x) (b.ev F env) := by rfl
theorem Ex_ev_not_ {F : Nat → FV} {a env} : Ex.ev F (.not_ a) env = (a.ev F env).bind fun x => tstV x.2 fun c => okv (.bool !c) := by rfl
theorem Ex_ev_ite {F : Nat → FV} {a b t env} : Ex.ev F (.ite t a b) env = (t.ev F env).bind fun x => tstV x.2 fun c => cond c (a.ev F env) (b.ev F env) := by rfl
theorem Ex_ev_call {F : Nat → FV} {es j env} : Ex.ev F (.call j es) env = (es.eva F env).bind fun sl => F j sl := by rfl
theorem Ex_ev_bi {F : Nat → FV} {b es env} : Ex.ev F (.bi b es) env = (es.ev F env).bind fun ds => BiV b ds := by rfl
theorem Ex_ev_mth {F : Nat → FV} {es m o env} : Ex.ev F (.mth m o es) env = (o.ev F env).bind fun x => gd (mtT m x.2) ((es.ev F env).bind fun ds => MtV m x.2 ds) := by rfl
theorem Ex_ev_ix {F : Nat → FV} {i o env} : Ex.ev F (.ix o i) env = (o.ev F env).bind fun x => (i.ev F env).bind fun y => IxV x.2 y.2 := by rfl
theorem Ex_ev_slc {F : Nat → FV} {hi lo o env} : Ex.ev F (.slc o lo hi) env = (o.ev F env).bind fun x => (lo.ev F env).bind fun l => (hi.ev F env).bind fun h => SlV x.2 l h := by rfl
theorem Ex_ev_isa {F : Nat → FV} {e T env} : Ex.ev F (.isa e T) env = (e.ev F env).bind fun x => okv (.bool (isaD T x.2)) := by rfl
theorem Ex_ev_rev {F : Nat → FV} {o env} : Ex.ev F (.rev o) env = (o.ev F env).bind fun x => revV x.2 := by rfl
theorem Ex_ev_dic0 {F : Nat → FV} {env} : Ex.ev F (.dic0) env = okn (.dict []) := by rfl
theorem Ex_ev_comp {F : Nat → FV} {cs e it own tg env} : Ex.ev F (.comp e tg it cs own) env = (it.ev F env).bind fun p => gd (leN p.2.length lim) ((filV (fun x => (optV (tg.bv x (wipeE env own))).bind fun env' => noex ((cs.evt F env').bind fun b => cond b ((e.ev F env').bind fun d => .ok (some d.2)) (.ok none))) p.2).bind fun L => okn (.list L)) := by rfl
theorem Exo_ev_no {F : Nat → FV} {env} : Exo.ev F (.no) env = .ok none := by rfl
theorem Exo_ev_so {F : Nat → FV} {e env} : Exo.ev F (.so e) env = (e.ev F env).bind fun x => intV x.2 fun i => .ok (some i) := by rfl
theorem Exs_ev_nil {F : Nat → FV} {env} : Exs.ev F (.nil) env = .ok [] := by rfl
theorem Exs_ev_cons {F : Nat → FV} {e r env} : Exs.ev F (.cons e r) env = (e.ev F env).bind fun x => (r.ev F env).bind fun ds => .ok (x.2 :: ds) := by rfl
theorem Exs_evt_nil {F : Nat → FV} {env} : Exs.evt F (.nil) env = .ok true := by rfl
theorem Exs_evt_cons {F : Nat → FV} {e r env} : Exs.evt F (.cons e r) env = (e.ev F env).bind fun x => tstV x.2 fun c => cond c (r.evt F env) (.ok false) := by rfl
theorem Ev.bind_assoc {α β γ : Type} (r : Ev α) (f : α → Ev β) (g : β → Ev γ) : (r.bind f).bind g = r.bind fun a => (f a).bind g := by
  induction r with
  | pk m k ih => simp only [Ev.pk_bind, ih]
  | _ => rfl
theorem bind_as {α : Type} {r : Ev Val} {g : Sl → Ev α} : ((r.bind fun x => Ev.ok (.sh x.2)).bind g) = r.bind fun x => g (.sh x.2) := Ev.bind_assoc _ _ _
theorem Exs_eva_nil {F : Nat → FV} {env} : Exs.eva F (.nil) env = .ok [] := by rfl
theorem Exs_eva_var {F : Nat → FV} {i r env} : Exs.eva F (.cons (.var i) r) env = (slotA env i).bind fun s => (r.eva F env).bind fun ds => .ok (s :: ds) := by rfl
theorem Exs_eva_lit {F : Nat → FV} {d rr env} : Exs.eva F (.cons (.lit d) rr) env = (Ex.ev F (.lit d) env).bind fun x => (rr.eva F env).bind fun ds => .ok (.sh x.2 :: ds) := by simp only [Exs.eva, Ex.vr]; exact bind_as
theorem Exs_eva_tup {F : Nat → FV} {es rr env} : Exs.eva F (.cons (.tup es) rr) env = (Ex.ev F (.tup es) env).bind fun x => (rr.eva F env).bind fun ds => .ok (.sh x.2 :: ds) := by simp only [Exs.eva, Ex.vr]; exact bind_as
theorem Exs_eva_lst {F : Nat → FV} {es rr env} : Exs.eva F (.cons (.lst es) rr) env = (Ex.ev F (.lst es) env).bind fun x => (rr.eva F env).bind fun ds => .ok (.sh x.2 :: ds) := by simp only [Exs.eva, Ex.vr]; exact bind_as
theorem Exs_eva_bin {F : Nat → FV} {o a b rr env} : Exs.eva F (.cons (.bin o a b) rr) env = (Ex.ev F (.bin o a b) env).bind fun x => (rr.eva F env).bind fun ds => .ok (.sh x.2 :: ds) := by simp only [Exs.eva, Ex.vr]; exact bind_as
theorem Exs_eva_neg {F : Nat → FV} {a rr env} : Exs.eva F (.cons (.neg a) rr) env = (Ex.ev F (.neg a) env).bind fun x => (rr.eva F env).bind fun ds => .ok (.sh x.2 :: ds) := by simp only [Exs.eva, Ex.vr]; exact bind_as
theorem Exs_eva_cmp {F : Nat → FV} {o a b rr env} : Exs.eva F (.cons (.cmp o a b) rr) env = (Ex.ev F (.cmp o a b) env).bind fun x => (rr.eva F env).bind fun ds => .ok (.sh x.2 :: ds) := by simp only [Exs.eva, Ex.vr]; exact bind_as
theorem Exs_eva_cmp2 {F : Nat → FV} {o p a b c rr env} : Exs.eva F (.cons (.cmp2 o p a b c) rr) env = (Ex.ev F (.cmp2 o p a b c) env).bind fun x => (rr.eva F env).bind fun ds => .ok (.sh x.2 :: ds) := by simp only [Exs.eva, Ex.vr]; exact bind_as
theorem Exs_eva_and_ {F : Nat → FV} {a b rr env} : Exs.eva F (.cons (.and_ a b) rr) env = (Ex.ev F (.and_ a b) env).bind fun x => (rr.eva F env).bind fun ds => .ok (.sh x.2 :: ds) := by simp only [Exs.eva, Ex.vr]; exact bind_as
theorem Exs_eva_or_ {F : Nat → FV} {a b rr env} : Exs.eva F (.cons (.or_ a b) rr) env = (Ex.ev F (.or_ a b) env).bind fun x => (rr.eva F env).bind fun ds => .ok (.sh x.2 :: ds) := by simp only [Exs.eva, Ex.vr]; exact bind_as
theorem Exs_eva_not_ {F : Nat → FV} {a rr env} : Exs.eva F (.cons (.not_ a) rr) env = (Ex.ev F (.not_ a) env).bind fun x => (rr.eva F env).bind fun ds => .ok (.sh x.2 :: ds) := by simp only [Exs.eva, Ex.vr]; exact bind_as
theorem Exs_eva_ite {F : Nat → FV} {t a b rr env} : Exs.eva F (.cons (.ite t a b) rr) env = (Ex.ev F (.ite t a b) env).bind fun x => (rr.eva F env).bind fun ds => .ok (.sh x.2 :: ds) := by simp only [Exs.eva, Ex.vr]; exact bind_as
theorem Exs_eva_call {F : Nat → FV} {j es rr env} : Exs.eva F (.cons (.call j es) rr) env = (Ex.ev F (.call j es) env).bind fun x => (rr.eva F env).bind fun ds => .ok (.sh x.2 :: ds) := by simp only [Exs.eva, Ex.vr]; exact bind_as
theorem Exs_eva_bi {F : Nat → FV} {b es rr env} : Exs.eva F (.cons (.bi b es) rr) env = (Ex.ev F (.bi b es) env).bind fun x => (rr.eva F env).bind fun ds => .ok (.sh x.2 :: ds) := by simp only [Exs.eva, Ex.vr]; exact bind_as
theorem Exs_eva_mth {F : Nat → FV} {m o es rr env} : Exs.eva F (.cons (.mth m o es) rr) env = (Ex.ev F (.mth m o es) env).bind fun x => (rr.eva F env).bind fun ds => .ok (.sh x.2 :: ds) := by simp only [Exs.eva, Ex.vr]; exact bind_as
theorem Exs_eva_ix {F : Nat → FV} {o i rr env} : Exs.eva F (.cons (.ix o i) rr) env = (Ex.ev F (.ix o i) env).bind fun x => (rr.eva F env).bind fun ds => .ok (.sh x.2 :: ds) := by simp only [Exs.eva, Ex.vr]; exact bind_as
theorem Exs_eva_slc {F : Nat → FV} {o lo hi rr env} : Exs.eva F (.cons (.slc o lo hi) rr) env = (Ex.ev F (.slc o lo hi) env).bind fun x => (rr.eva F env).bind fun ds => .ok (.sh x.2 :: ds) := by simp only [Exs.eva, Ex.vr]; exact bind_as
theorem Exs_eva_isa {F : Nat → FV} {e T rr env} : Exs.eva F (.cons (.isa e T) rr) env = (Ex.ev F (.isa e T) env).bind fun x => (rr.eva F env).bind fun ds => .ok (.sh x.2 :: ds) := by simp only [Exs.eva, Ex.vr]; exact bind_as
theorem Exs_eva_rev {F : Nat → FV} {o rr env} : Exs.eva F (.cons (.rev o) rr) env = (Ex.ev F (.rev o) env).bind fun x => (rr.eva F env).bind fun ds => .ok (.sh x.2 :: ds) := by simp only [Exs.eva, Ex.vr]; exact bind_as
theorem Exs_eva_dic0 {F : Nat → FV} { rr env} : Exs.eva F (.cons (.dic0) rr) env = (Ex.ev F (.dic0) env).bind fun x => (rr.eva F env).bind fun ds => .ok (.sh x.2 :: ds) := by simp only [Exs.eva, Ex.vr]; exact bind_as
theorem Exs_eva_comp {F : Nat → FV} {e tg it cs own rr env} : Exs.eva F (.cons (.comp e tg it cs own) rr) env = (Ex.ev F (.comp e tg it cs own) env).bind fun x => (rr.eva F env).bind fun ds => .ok (.sh x.2 :: ds) := by simp only [Exs.eva, Ex.vr]; exact bind_as
theorem It_ev_seq {F : Nat → FV} {e env} : It.ev F (.seq e) env = (e.ev F env).bind fun x => seqV x.2 fun xs => .ok (leafy x.1 x.2, xs) := by rfl
theorem It_ev_range1 {F : Nat → FV} {e env} : It.ev F (.range1 e) env = (e.ev F env).bind fun x => intV x.2 fun n => gd (decide (-(2 ^ 60) ≤ n) && decide (n ≤ 2 ^ 60)) (.ok (true, intsD 0 n.toNat)) := by rfl
theorem It_ev_range2 {F : Nat → FV} {a b env} : It.ev F (.range2 a b) env = (a.ev F env).bind fun x => (b.ev F env).bind fun y => intV x.2 fun m => intV y.2 fun n => gd (decide (-(2 ^ 60) ≤ m) && (decide (m ≤ 2 ^ 60) && (decide (-(2 ^ 60) ≤ n) && decide (n ≤ 2 ^ 60)))) (.ok (true, intsD m (n - m).toNat)) := by rfl
theorem It_ev_enum {F : Nat → FV} {e env} : It.ev F (.enum e) env = (e.ev F env).bind fun x => seqV x.2 fun xs => .ok (false, enumD xs) := by rfl
theorem It_ev_zips {F : Nat → FV} {a b env} : It.ev F (.zips a b) env = (a.ev F env).bind fun x => (b.ev F env).bind fun y => seqV x.2 fun xs => seqV y.2 fun ys => gd (decide (xs.length = ys.length)) (.ok (false, zipD xs ys)) := by rfl
theorem It_ev_zip {F : Nat → FV} {a b env} : It.ev F (.zip a b) env = (a.ev F env).bind fun x => (b.ev F env).bind fun y => twoV x.2 y.2 fun xs ys => .ok (false, zipD xs ys) := by rfl
theorem Exs_evf_nil {F : Nat → FV} {env} : Exs.evf F (.nil) env = .ok ([], env) := by rfl
theorem Exs_evf_cons {F : Nat → FV} {e r env} : Exs.evf F (.cons e r) env = (e.ev F env).bind fun v => (r.evf F (aft e.vs v.1 v.2 env)).bind fun p => .ok (v :: p.1, p.2) := by rfl
theorem Sm_ev_asg_nm {F : Nat → FV} {e i env} : Sm.ev F (.asg (.nm i) e) env = evk (e.ev F env) fun v => .nx ((aft e.vs v.1 v.2 env).set i (put v.1 v.2)) := by rfl
theorem Sm_ev_asg_tp {F : Nat → FV} {e ts env} : Sm.ev F (.asg (.tp ts) e) env = evk (e.ev F env) fun v => optR ((Tg.tp ts).bv v.2 (aft e.vs v.1 v.2 env)) .nx := by rfl
theorem Sm_ev_par {F : Nat → FV} {es is env} : Sm.ev F (.par is es) env = evk (es.evf F env) fun p => gdR (decide (p.1.length = is.length)) (.nx (putAll is p.1 p.2)) := by rfl
theorem Sm_ev_aug {F : Nat → FV} {e i o env} : Sm.ev F (.aug i o e) env = optR (intAt env i) fun z => evk (e.ev F env) fun v => optR (intO v.2) fun w => evk (augV o z w) fun u => .nx (env.set i (.sh (.int u))) := by rfl
theorem Sm_ev_app {F : Nat → FV} {e i env} : Sm.ev F (.app i e) env = optR (ownL env i) fun _ => evk (e.ev F env) fun v => optR (ownL (aft e.vs v.1 v.2 env) i) fun xs => gdR (decide (xs.length < lim)) (.nx ((aft e.vs v.1 v.2 env).set i (.ow (.list (xs ++ [v.2]))))) := by rfl
theorem Sm_ev_setx {F : Nat → FV} {e i j env} : Sm.ev F (.setx i j e) env = evk (e.ev F env) fun v => ownS (aft e.vs v.1 v.2 env) i
      (fun xs => evk (j.ev F (aft e.vs v.1 v.2 env)) fun y => optR (intO y.2) fun z => optR (ixN xs.length z) fun n => .nx ((aft e.vs v.1 v.2 env).set i (.ow (.list (xs.set n v.2)))))
      (fun kvs => evk (j.ev F (aft e.vs v.1 v.2 env)) fun y => gdR (keyPut kvs y.2 && decide (kvs.length < lim)) (.nx ((aft e.vs v.1 v.2 env).set i (.ow (.dict (putD kvs y.2 v.2)))))) := by rfl
theorem Sm_ev_ext {F : Nat → FV} {e i env} : Sm.ev F (.ext i e) env = optR (ownL env i) fun _ => evk (e.ev F env) fun v => optR (ownL (aft e.vs v.1 v.2 env) i) fun xs => optR (lstO v.2) fun ys => gdR (leN (xs.length + ys.length) lim) (.nx ((aft e.vs v.1 v.2 env).set i (.ow (.list (xs ++ ys))))) := by rfl
theorem Sm_ev_asx {F : Nat → FV} {t i j env} : Sm.ev F (.asx t i j) env = optR (slO env i) fun _ => evk (j.ev F env) fun y => optR (slO (aft j.vs y.1 y.2 env) i) fun d => evk (IxV d y.2) fun x => optR (t.bv x.2 (aft j.vs y.1 y.2 env)) .nx := by rfl
theorem slO_sh {d : PyData} {r : Env} : slO (.sh d :: r) 0 = some d := by rfl
theorem slO_ow {d : PyData} {r : Env} : slO (.ow d :: r) 0 = some d := by rfl
theorem slO_succ {s : Sl} {r : Env} {n : Nat} : slO (s :: r) (n + 1) = slO r n := by rfl
theorem Sm_ev_augx {F : Nat → FV} {e i j o env} : Sm.ev F (.augx i j o e) env = ownS env i
      (fun xs => evk (j.ev F env) fun y => optR (intO y.2) fun z => optR (ixN xs.length z) fun n => optR (xs[n]?.bind intO) fun c => evk (e.ev F env) fun v => optR (intO v.2) fun w => evk (augV o c w) fun u => .nx (env.set i (.ow (.list (xs.set n (.int u))))))
      (fun kvs => evk (j.ev F env) fun y => optR ((lookD kvs y.2).bind intO) fun c => gdR (keyPut kvs y.2 && decide (kvs.length < lim)) (evk (e.ev F env) fun v => optR (intO v.2) fun w => evk (augV o c w) fun u => .nx (env.set i (.ow (.dict (putD kvs y.2 (.int u))))))) := by rfl
/-- a branch, not opened before its test is known -/
def Res.cnd (F : Nat → FV) (r : Ev (Bool × Env)) (a b : Sms) : Res := evk r fun p => match p.1 with
  | true => a.ev F p.2
  | false => b.ev F p.2
theorem cnd_t {F : Nat → FV} {e : Env} {a b : Sms} : Res.cnd F (.ok (true, e)) a b = a.ev F e := (rfl)
theorem cnd_f {F : Nat → FV} {e : Env} {a b : Sms} : Res.cnd F (.ok (false, e)) a b = b.ev F e := (rfl)
theorem cnd_ex {F : Nat → FV} {e : Str} {a b : Sms} : Res.cnd F (.ex e) a b = .ex e := (rfl)
theorem cnd_pk {F : Nat → FV} {m g} {a b : Sms} : Res.cnd F (.pk m g) a b = .pk m fun r => Res.cnd F (g r) a b := (rfl)
theorem cnd_of {F : Nat → FV} {r : Ev (Bool × Env)} {a b : Sms} {k : Kp} (h : r.wp (fun p => (Res.cnd F (.ok p) a b).wp k) k.ex) : (Res.cnd F r a b).wp k := by
  induction r with
  | pk m g ih => exact ⟨h.1, fun r hr => ih r (h.2 r hr)⟩
  | _ => exact h
/-- a turn of a loop, not opened before it is made -/
def stepV (F : Nat → FV) (tg : Tg) (b : Sms) (x : PyData) (env : Env) : Res := optR (tg.bv x env) (b.ev F)
theorem stepV_eq {F : Nat → FV} {tg : Tg} {b : Sms} {x : PyData} {env : Env} : stepV F tg b x env = optR (tg.bv x env) (b.ev F) := (rfl)
theorem Sm_ev_ite {F : Nat → FV} {a b t env} : Sm.ev F (.ite t a b) env = Res.cnd F (t.tst F env) a b := by rfl
theorem Sm_ev_for_ {F : Nat → FV} {b it tg env} : Sm.ev F (.for_ tg it b) env = evk (it.ev F env) fun p => forV (stepV F tg b) p.2 (cond p.1 env (frz it.vs env)) := by rfl
theorem Sm_ev_whl {F : Nat → FV} {b t env} : Sm.ev F (.whl t b) env = whlV (t.tst F) (b.ev F) fuel env := by rfl
theorem Sm_ev_retn {F : Nat → FV} {env} : Sm.ev F (.retn) env = .rt false .none := by rfl
theorem Sm_ev_brk {F : Nat → FV} {env} : Sm.ev F (.brk) env = .bk env := by rfl
theorem Sm_ev_cnt {F : Nat → FV} {env} : Sm.ev F (.cnt) env = .ct env := by rfl
theorem Sm_ev_pass {F : Nat → FV} {env} : Sm.ev F (.pass) env = .nx env := by rfl
theorem Sm_ev_expr {F : Nat → FV} {e env} : Sm.ev F (.expr e) env = evk (e.ev F env) fun v => .nx (aft e.vs v.1 v.2 env) := by rfl
theorem Sm_ev_ret_var {F : Nat → FV} {i env} : Sm.ev F (.ret (.var i)) env = match env[i]? with
    | some (.sh d) => .rt false d
    | some (.ow d) => .rt true d
    | _ => .bad := by rfl
theorem Sm_ev_ret_lit {F : Nat → FV} {d env} : Sm.ev F (.ret (.lit d)) env = evk (Ex.ev F (.lit d) env) fun v => .rt v.1 v.2 := by rfl
theorem Sm_ev_ret_tup {F : Nat → FV} {es env} : Sm.ev F (.ret (.tup es)) env = evk (Ex.ev F (.tup es) env) fun v => .rt v.1 v.2 := by rfl
theorem Sm_ev_ret_lst {F : Nat → FV} {es env} : Sm.ev F (.ret (.lst es)) env = evk (Ex.ev F (.lst es) env) fun v => .rt v.1 v.2 := by rfl
theorem Sm_ev_ret_bin {F : Nat → FV} {o a b env} : Sm.ev F (.ret (.bin o a b)) env = evk (Ex.ev F (.bin o a b) env) fun v => .rt v.1 v.2 := by rfl
theorem Sm_ev_ret_neg {F : Nat → FV} {a env} : Sm.ev F (.ret (.neg a)) env = evk (Ex.ev F (.neg a) env) fun v => .rt v.1 v.2 := by rfl
theorem Sm_ev_ret_cmp {F : Nat → FV} {o a b env} : Sm.ev F (.ret (.cmp o a b)) env = evk (Ex.ev F (.cmp o a b) env) fun v => .rt v.1 v.2 := by rfl
theorem Sm_ev_ret_cmp2 {F : Nat → FV} {o p a b c env} : Sm.ev F (.ret (.cmp2 o p a b c)) env = evk (Ex.ev F (.cmp2 o p a b c) env) fun v => .rt v.1 v.2 := by rfl
theorem Sm_ev_ret_and_ {F : Nat → FV} {a b env} : Sm.ev F (.ret (.and_ a b)) env = evk (Ex.ev F (.and_ a b) env) fun v => .rt v.1 v.2 := by rfl
theorem Sm_ev_ret_or_ {F : Nat → FV} {a b env} : Sm.ev F (.ret (.or_ a b)) env = evk (Ex.ev F (.or_ a b) env) fun v => .rt v.1 v.2 := by rfl
theorem Sm_ev_ret_not_ {F : Nat → FV} {a env} : Sm.ev F (.ret (.not_ a)) env = evk (Ex.ev F (.not_ a) env) fun v => .rt v.1 v.2 := by rfl
theorem Sm_ev_ret_ite {F : Nat → FV} {t a b env} : Sm.ev F (.ret (.ite t a b)) env = evk (Ex.ev F (.ite t a b) env) fun v => .rt v.1 v.2 := by rfl
theorem Sm_ev_ret_call {F : Nat → FV} {j es env} : Sm.ev F (.ret (.call j es)) env = evk (Ex.ev F (.call j es) env) fun v => .rt v.1 v.2 := by rfl
theorem Sm_ev_ret_bi {F : Nat → FV} {b es env} : Sm.ev F (.ret (.bi b es)) env = evk (Ex.ev F (.bi b es) env) fun v => .rt v.1 v.2 := by rfl
theorem Sm_ev_ret_mth {F : Nat → FV} {m o es env} : Sm.ev F (.ret (.mth m o es)) env = evk (Ex.ev F (.mth m o es) env) fun v => .rt v.1 v.2 := by rfl
theorem Sm_ev_ret_ix {F : Nat → FV} {o i env} : Sm.ev F (.ret (.ix o i)) env = evk (Ex.ev F (.ix o i) env) fun v => .rt v.1 v.2 := by rfl
theorem Sm_ev_ret_slc {F : Nat → FV} {o lo hi env} : Sm.ev F (.ret (.slc o lo hi)) env = evk (Ex.ev F (.slc o lo hi) env) fun v => .rt v.1 v.2 := by rfl
theorem Sm_ev_ret_isa {F : Nat → FV} {e T env} : Sm.ev F (.ret (.isa e T)) env = evk (Ex.ev F (.isa e T) env) fun v => .rt v.1 v.2 := by rfl
theorem Sm_ev_ret_rev {F : Nat → FV} {o env} : Sm.ev F (.ret (.rev o)) env = evk (Ex.ev F (.rev o) env) fun v => .rt v.1 v.2 := by rfl
theorem Sm_ev_ret_dic0 {F : Nat → FV} { env} : Sm.ev F (.ret (.dic0)) env = evk (Ex.ev F (.dic0) env) fun v => .rt v.1 v.2 := by rfl
theorem Sm_ev_ret_comp {F : Nat → FV} {e tg it cs own env} : Sm.ev F (.ret (.comp e tg it cs own)) env = evk (Ex.ev F (.comp e tg it cs own) env) fun v => .rt v.1 v.2 := by rfl
theorem tab_cons {i j f r} : tab ((i, f) :: r) j = cond (i == j) f (tab r j) := by
  unfold tab
  by_cases h : i = j
  · rw [if_pos h]; subst h; simp
  · rw [if_neg h]
    have : (i == j) = false := by simpa using h
    rw [this]; cases r <;> rfl
/-! ### slots frozen -/
def memN : List Nat → Nat → Bool
  | [], _ => false
  | x :: r, k => (x == k) || memN r k
theorem memN_iff {k : Nat} : ∀ {vs : List Nat}, memN vs k = true ↔ k ∈ vs
  | [] => ⟨fun h => (by cases h), fun h => (by cases h)⟩
  | x :: r => by
    have ih := memN_iff (k := k) (vs := r)
    unfold memN
    rw [Bool.or_eq_true, ih, List.mem_cons, beq_iff_eq]
    exact ⟨fun h => h.imp Eq.symm _root_.id, fun h => h.imp Eq.symm _root_.id⟩
def frzO (vs : List Nat) (k : Nat) : Sl → Sl
  | .ow d => cond (memN vs k) (.sh d) (.ow d)
  | .un => .un
  | .sh d => .sh d
  | .src => .src
def frzL (vs : List Nat) : Nat → Env → Env
  | _, [] => []
  | k, s :: r => frzO vs k s :: frzL vs (k + 1) r
theorem frz1_L (vs : List Nat) (k : Nat) (s : Sl) : frz1 vs k s = frzO vs k s := by
  cases s with
  | ow d =>
    show (if k ∈ vs then Sl.sh d else .ow d) = cond (memN vs k) (.sh d) (.ow d)
    by_cases h : k ∈ vs
    · rw [if_pos h, memN_iff.mpr h]; rfl
    · rw [if_neg h]
      have : memN vs k = false := by
        cases e : memN vs k with
        | false => rfl
        | true => exact absurd (memN_iff.mp e) h
      rw [this]; rfl
  | _ => rfl
theorem frz_eqL (vs : List Nat) : ∀ (env : Env) (k : Nat), env.mapIdx (fun i s => frz1 vs (i + k) s) = frzL vs k env
  | [], k => rfl
  | s :: r, k => by
    rw [List.mapIdx_cons, frzL, ← frz_eqL vs r (k + 1)]
    congr 1
    · rw [Nat.zero_add]; exact frz1_L vs k s
    · congr 1
      funext i s
      congr 1
      omega
theorem aft_eq (vs : List Nat) (fr : Bool) (d : PyData) (env : Env) : aft vs fr d env = cond (leafy fr d) env (frzL vs 0 env) := by
  unfold aft frz
  have := frz_eqL vs env 0
  simp only [Nat.add_zero] at this
  rw [this]
  cases leafy fr d <;> rfl
theorem frz_eq (vs : List Nat) (env : Env) : frz vs env = frzL vs 0 env := by
  unfold frz
  have := frz_eqL vs env 0
  simp only [Nat.add_zero] at this
  exact this
theorem frzL_nil {vs k} : frzL vs k [] = [] := (rfl)
theorem frzL_un {vs k r} : frzL vs k (.un :: r) = .un :: frzL vs (k + 1) r := (rfl)
theorem frzL_sh {vs k d r} : frzL vs k (.sh d :: r) = .sh d :: frzL vs (k + 1) r := (rfl)
theorem frzL_src {vs k r} : frzL vs k (.src :: r) = .src :: frzL vs (k + 1) r := (rfl)
theorem frzL_ow {vs k d r} : frzL vs k (.ow d :: r) = cond (memN vs k) (.sh d) (.ow d) :: frzL vs (k + 1) r := (rfl)
theorem memN_nil {k} : memN [] k = false := (rfl)
theorem memN_cons {x r k} : memN (x :: r) k = ((x == k) || memN r k) := (rfl)
theorem leafy_int {f i} : leafy f (.int i) = true := (rfl)
theorem leafy_bool {f i} : leafy f (.bool i) = true := (rfl)
theorem leafy_str {f i} : leafy f (.str i) = true := (rfl)
theorem leafy_none {f} : leafy f .none = true := (rfl)
theorem leafy_tuple {f xs} : leafy f (.tuple xs) = flats xs := by
  cases f <;> simp [leafy, flat]
theorem leafy_list {f xs} : leafy f (.list xs) = (f && flats xs) := by
  cases f <;> simp [leafy, flat]
theorem leafy_dict {f xs} : leafy f (.dict xs) = false := by
  cases f <;> simp [leafy, flat]
theorem flats_nil : flats [] = true := (rfl)
theorem flats_cons {x xs} : flats (x :: xs) = (flat x && flats xs) := (rfl)
theorem flat_int {i} : flat (.int i) = true := (rfl)
theorem flat_bool {i} : flat (.bool i) = true := (rfl)
theorem flat_str {i} : flat (.str i) = true := (rfl)
theorem flat_none : flat .none = true := (rfl)
theorem flat_tuple {xs} : flat (.tuple xs) = flats xs := (rfl)
theorem flat_list {xs} : flat (.list xs) = false := (rfl)
theorem put_true {d} : put true d = .ow d := (rfl)
theorem put_false {d} : put false d = .sh d := (rfl)
theorem putAll_nil {ps env} : putAll [] ps env = env := (rfl)
theorem putAll_cons {i is p r env} : putAll (i :: is) (p :: r) env = putAll is r (env.set i (put p.1 p.2)) := (rfl)
theorem bv_nm {i d env} : (Tg.nm i).bv d env = some (env.set i (.sh d)) := (rfl)
theorem bv_tp {ts ds env} : (Tg.tp ts).bv (.tuple ds) env = ts.bv ds env := (rfl)
theorem bv_nil {env} : Tgs.nil.bv [] env = some env := (rfl)
theorem bv_cons {t r d ds env} : (Tgs.cons t r).bv (d :: ds) env = (t.bv d env).bind (r.bv ds) := (rfl)
theorem intAt_def {env : Env} {i : Nat} : intAt env i = match env[i]? with
  | some (.sh (.int z)) => some z
  | _ => none := rfl
theorem ownL_def {env : Env} {i : Nat} : ownL env i = match env[i]? with
  | some (.ow (.list xs)) => some xs
  | _ => none := rfl
theorem intO_int {i} : intO (.int i) = some i := (rfl)
theorem slotV_def {env : Env} {i : Nat} : slotV env i = match env[i]? with
  | some (.sh d) => .ok d
  | some (.ow d) => .ok d
  | _ => .bad := rfl
theorem evDef_eq {F : Nat → FV} {n np : Nat} {b : Sms} {ds : List Sl} (h : ds.length = np) : evDef F n np b ds = (b.ev F (ds ++ List.replicate (n - np) .un)).val := by unfold evDef; rw [if_pos h]
theorem val_rt {f d} : (Res.rt f d).val = .ok (f, d) := (rfl)
theorem val_nx {e} : (Res.nx e).val = okv .none := (rfl)
theorem val_ex {s} : (Res.ex s).val = .ex s := (rfl)
/-! ### loops -/
theorem lp_nx {f : Env → Res} {e : Env} : (Res.nx e).lp f = f e := (rfl)
theorem lp_ct {f : Env → Res} {e : Env} : (Res.ct e).lp f = f e := (rfl)
theorem lp_bk {f : Env → Res} {e : Env} : (Res.bk e).lp f = .nx e := (rfl)
theorem lp_rt {f : Env → Res} {b d} : (Res.rt b d).lp f = .rt b d := (rfl)
theorem lp_pk {f : Env → Res} {m g} : (Res.pk m g).lp f = .pk m fun r => (g r).lp f := (rfl)
/-- how a turn without picks ends: on, or out -/
def outR : Res → Option Res
  | .nx _ => none
  | .ct _ => none
  | .pk _ _ => none
  | .bk e => some (.nx e)
  | r => some r
theorem outR_lp {x r : Res} {f : Env → Res} (h : outR x = some r) : x.lp f = r := by
  cases x <;> simp [outR] at h <;> (subst h; rfl)
theorem forV_gen {step : PyData → Env → Res} {R : Res → Prop} : ∀ {xs : List PyData} {env : Env} (I : Nat → Env → Prop), I 0 env →
    (∀ i x e, xs[i]? = some x → I i e → (∃ e', (step x e = .nx e' ∨ step x e = .ct e') ∧ I (i + 1) e') ∨ ∃ r, outR (step x e) = some r ∧ R r) → (∀ e, I xs.length e → R (.nx e)) → R (forV step xs env)
  | [], env, I, h0, hs, he => he _ h0
  | x :: xs, env, I, h0, hs, he => by
    unfold forV
    have rest : ∀ e', I 1 e' → R (forV step xs e') := fun e' h => forV_gen (fun i => I (i + 1)) h (fun i y e hy hi => hs (i + 1) y e (by simpa using hy) hi) (fun e h => he e (by simpa using h))
    rcases hs 0 x env rfl h0 with ⟨e', h | h, hi⟩ | ⟨r, h, hr⟩
    · rw [h]; exact rest e' hi
    · rw [h]; exact rest e' hi
    · rw [outR_lp h]; exact hr
theorem forV_inv {step : PyData → Env → Res} {xs : List PyData} {env : Env} (I : Nat → Env → Prop) (h0 : I 0 env)
    (hs : ∀ i x e, xs[i]? = some x → I i e → ∃ e', (step x e = .nx e' ∨ step x e = .ct e') ∧ I (i + 1) e') : ∃ e', forV step xs env = .nx e' ∧ I xs.length e' :=
  forV_gen (R := fun r => ∃ e', r = .nx e' ∧ I xs.length e') I h0 (fun i x e hx hi => .inl (hs i x e hx hi)) fun e h => ⟨e, rfl, h⟩
/-- a computation of statements used where it stands -/
theorem Res.use {x : Res} {k : Kp} {Φ : Res → Prop} (h : x.wp k) (lin : ∀ m g, smP m → (∀ r, RngP m r → Φ (g r)) → Φ (.pk m g)) (nx : ∀ e, k.nx e → Φ (.nx e)) (rt : ∀ f d, k.rt f d → Φ (.rt f d)) (bk : ∀ e, k.bk e → Φ (.bk e)) (ct : ∀ e, k.ct e → Φ (.ct e)) (ex : ∀ e, k.ex e → Φ (.ex e)) : Φ x := by
  induction x with
  | nx e => exact nx e h
  | ct e => exact ct e h
  | bk e => exact bk e h
  | rt f v => exact rt f v h
  | ex e => exact ex e h
  | bad => exact h.elim
  | pk m g ih => exact lin m g h.1 fun r hr => ih r (h.2 r hr)
/-- a loop with picks: each turn goes on with what is kept -/
theorem forV_wp {step : PyData → Env → Res} {k : Kp} : ∀ {xs : List PyData} {env : Env} (I : Nat → Env → Prop), I 0 env →
    (∀ i x e, xs[i]? = some x → I i e → (step x e).wp { k with nx := I (i + 1), ct := I (i + 1), bk := k.nx }) → (∀ e, I xs.length e → k.nx e) → (forV step xs env).wp k
  | [], env, I, h0, hs, he => he _ h0
  | x :: xs, env, I, h0, hs, he => by
    unfold forV
    have rest : ∀ e', I 1 e' → (forV step xs e').wp k := fun e' h => forV_wp (fun i => I (i + 1)) h (fun i y e hy hi => hs (i + 1) y e (by simpa using hy) hi) (fun e h => he e (by simpa using h))
    exact Res.use (Φ := fun x => (x.lp (forV step xs)).wp k) (hs 0 x env rfl h0) (fun m g a b => ⟨a, b⟩) (fun e h => rest e h) (fun f d h => h) (fun e h => h) (fun e h => rest e h) (fun e h => h)
theorem whlV_gen {σ : Type} {t : Env → Ev (Bool × Env)} {b : Env → Res} {R : Res → Prop} (S : σ → Env → Prop) (μ : σ → Nat) (hs : ∀ s e, S s e → (∃ e', t e = .ok (false, e') ∧ R (.nx e')) ∨ ∃ e', t e = .ok (true, e') ∧ ((∃ s' e2, (b e' = .nx e2 ∨ b e' = .ct e2) ∧ S s' e2 ∧ μ s' < μ s) ∨ ∃ r, outR (b e') = some r ∧ R r)) :
    ∀ (n : Nat) (s : σ) (env : Env), S s env → μ s < n → R (whlV t b n env)
  | 0, s, env, h, hn => by omega
  | n + 1, s, env, h, hn => by
    unfold whlV
    rcases hs s env h with ⟨e', h1, hr⟩ | ⟨e', h1, ⟨s', e2, h2, h3, h4⟩ | ⟨r, h2, hr⟩⟩
    · rw [h1]; exact hr
    · rw [h1]
      rcases h2 with h2 | h2
      · show R ((b e').lp (whlV t b n))
        rw [h2]; exact whlV_gen S μ hs n s' e2 h3 (by omega)
      · show R ((b e').lp (whlV t b n))
        rw [h2]; exact whlV_gen S μ hs n s' e2 h3 (by omega)
    · rw [h1]
      show R ((b e').lp (whlV t b n))
      rw [outR_lp h2]
      exact hr
/-- a while loop that only goes on or ends -/
theorem whlV_inv {σ : Type} {t : Env → Ev (Bool × Env)} {b : Env → Res} (S : σ → Env → Prop) (μ : σ → Nat) (P : Env → Prop) {s : σ} {env : Env} (h0 : S s env) (hμ : μ s < fuel)
    (hs : ∀ s e, S s e → (∃ e', t e = .ok (false, e') ∧ P e') ∨ ∃ e' s' e2, t e = .ok (true, e') ∧ (b e' = .nx e2 ∨ b e' = .ct e2) ∧ S s' e2 ∧ μ s' < μ s) : ∃ e', whlV t b fuel env = .nx e' ∧ P e' :=
  whlV_gen (R := fun r => ∃ e', r = .nx e' ∧ P e') S μ (fun s e h => by
    rcases hs s e h with ⟨e', h1, h2⟩ | ⟨e', s', e2, h1, h2, h3, h4⟩
    · exact .inl ⟨e', h1, e', rfl, h2⟩
    · exact .inr ⟨e', h1, .inl ⟨s', e2, h2, h3, h4⟩⟩) fuel s env h0 hμ
theorem wp_nx {e : Env} {k : Kp} : (Res.nx e).wp k = k.nx e := (rfl)
theorem wp_rt {f d} {k : Kp} : (Res.rt f d).wp k = k.rt f d := (rfl)
theorem wp_ct {e : Env} {k : Kp} : (Res.ct e).wp k = k.ct e := (rfl)
theorem wp_bk {e : Env} {k : Kp} : (Res.bk e).wp k = k.bk e := (rfl)
theorem wp_pk {m g} {k : Kp} : (Res.pk m g).wp k = (smP m ∧ ∀ r, RngP m r → (g r).wp k) := (rfl)
theorem Ev.wp_ok {α : Type} {a : α} {Q : α → Prop} {E : Str → Prop} : (Ev.ok a).wp Q E = Q a := (rfl)
theorem Ev.wp_pk {α : Type} {m} {g : Int → Ev α} {Q : α → Prop} {E : Str → Prop} : (Ev.pk m g).wp Q E = (smP m ∧ ∀ r, RngP m r → (g r).wp Q E) := (rfl)
theorem val_pk {m g} : (Res.pk m g).val = .pk m fun r => (g r).val := (rfl)
theorem F_pick_eq {m : Int} : F_pick [.src, .sh (.int m)] = .pk m fun r => .ok (false, .int r) := (rfl)
/-- a def with picks is worth what its statements are -/
theorem val_of {x : Res} {Q : Val → Prop} {E : Str → Prop} (h : x.wp { nx := fun _ => Q (false, .none), rt := fun f d => Q (f, d), ex := E }) : x.val.wp Q E := by
  induction x with
  | pk m g ih => exact ⟨h.1, fun r hr => ih r (h.2 r hr)⟩
  | bk e => exact h.elim
  | ct e => exact h.elim
  | bad => exact h.elim
  | _ => exact h
/-- a comprehension with picks: each turn gives what is kept -/
theorem filV_wp {f : PyData → Ev (Option PyData)} {Q : List PyData → Prop} {E : Str → Prop} : ∀ {xs : List PyData} (I : Nat → List PyData → Prop), (∀ i x acc, xs[i]? = some x → I i acc → (f x).wp (fun o => I (i + 1) (acc ++ o.toList)) E) → ∀ {acc : List PyData}, I 0 acc → (∀ L, I xs.length (acc ++ L) → Q L) → (filV f xs).wp Q E
  | [], I, hs, acc, h0, hq => hq [] (by simpa using h0)
  | x :: xs, I, hs, acc, h0, hq => by
    unfold filV
    have h1 := hs 0 x acc rfl h0
    have rest : ∀ (o : Option PyData), I 1 (acc ++ o.toList) → ((filV f xs).bind fun r => Ev.ok (match o with | some d => d :: r | none => r)).wp Q E := fun o ho => by
      have h2 : (filV f xs).wp (fun L => Q (o.toList ++ L)) E := filV_wp (fun i => I (i + 1)) (fun i y a hy hi => hs (i + 1) y a (by simpa using hy) hi) (acc := acc ++ o.toList) ho fun L hL => hq _ (by simpa using hL)
      clear hs h1 ho
      generalize filV f xs = r at h2 ⊢
      induction r with
      | ok L => cases o <;> exact h2
      | ex s => exact h2
      | bad => exact h2
      | pk m g ih => exact ⟨h2.1, fun r hr => ih r (h2.2 r hr)⟩
    clear hs
    generalize f x = r at h1 ⊢
    induction r with
    | ok o => exact rest o h1
    | ex s => exact h1
    | bad => exact h1
    | pk m g ih => exact ⟨h1.1, fun r hr => ih r (h1.2 r hr)⟩
/-! ### comprehensions over known lists -/
theorem filV_map {α : Type} {f : PyData → Ev (Option PyData)} {em : α → PyData} (g : α → PyData) : ∀ {xs : List α}, (∀ x ∈ xs, f (em x) = .ok (some (g x))) → filV f (xs.map em) = .ok (xs.map g)
  | [], h => rfl
  | x :: xs, h => by
    rw [List.map_cons, filV, h x (List.mem_cons_self ..), Ev.ok_bind, filV_map g (fun y hy => h y (List.mem_cons_of_mem _ hy))]
    rfl
theorem filV_filter {α : Type} {f : PyData → Ev (Option PyData)} {em : α → PyData} (t : α → Bool) (g : α → PyData) : ∀ {xs : List α}, (∀ x ∈ xs, f (em x) = .ok (cond (t x) (some (g x)) none)) → filV f (xs.map em) = .ok ((xs.filter t).map g)
  | [], h => rfl
  | x :: xs, h => by
    rw [List.map_cons, filV, h x (List.mem_cons_self ..), Ev.ok_bind, filV_filter t g (fun y hy => h y (List.mem_cons_of_mem _ hy)), List.filter_cons]
    cases t x <;> rfl
theorem filV_gen {f : PyData → Ev (Option PyData)} (g : PyData → Option PyData) : ∀ {xs : List PyData}, (∀ x ∈ xs, f x = .ok (g x)) → filV f xs = .ok (xs.filterMap g)
  | [], h => rfl
  | x :: xs, h => by
    rw [filV, h x (List.mem_cons_self ..), Ev.ok_bind, filV_gen g (fun y hy => h y (List.mem_cons_of_mem _ hy)), List.filterMap_cons]
    cases g x <;> rfl
theorem zipD_map {α β : Type} (f : α → PyData) (g : β → PyData) (xs : List α) (ys : List β) : zipD (xs.map f) (ys.map g) = (xs.zip ys).map fun p => .tuple [f p.1, g p.2] := by
  unfold zipD
  induction xs generalizing ys with
  | nil => rfl
  | cons x xs ih =>
    cases ys with
    | nil => rfl
    | cons y ys => simp only [List.map_cons, List.zipWith_cons_cons, List.zip_cons_cons, ih]
theorem enumD_map {α : Type} (f : α → PyData) (xs : List α) : enumD (xs.map f) = xs.zipIdx.map fun p => .tuple [.int (p.2 : Nat), f p.1] := by
  unfold enumD
  rw [List.zipIdx_map, List.map_map]
  rfl
end DL
set_option Elab.async false
set_option linter.all false
set_option maxRecDepth 100000
set_option maxHeartbeats 4000000
/-! E4: the evaluator's operations at known forms. -/
namespace DL
open PySem PySem.Spec PyProof.Rows L2
/-- a slot given back -/
def retS (env : Env) (i : Nat) : Res := match env[i]? with
    | some (.sh d) => .rt false d
    | some (.ow d) => .rt true d
    | _ => .bad
theorem Sm_ev_ret_v {F : Nat → FV} {i env} : Sm.ev F (.ret (.var i)) env = retS env i := by rfl
theorem binV_addI {i j : Int} : BinV .add (.int i) (.int j) = .ok (false, .int (i + j)) := by rfl
theorem binV_addS {x y : Str} : BinV .add (.str x) (.str y) = gd (leN (x.length + y.length) lim) (.ok (false, .str (x ++ y))) := by rfl
theorem binV_addL {xs ys : List PyData} : BinV .add (.list xs) (.list ys) = gd (leN (xs.length + ys.length) lim) (.ok (true, .list (xs ++ ys))) := by rfl
theorem binV_addT {xs ys : List PyData} : BinV .add (.tuple xs) (.tuple ys) = gd (leN (xs.length + ys.length) lim) (.ok (false, .tuple (xs ++ ys))) := by rfl
theorem binV_subI {i j : Int} : BinV .sub (.int i) (.int j) = .ok (false, .int (i - j)) := by rfl
theorem binV_mulI {i j : Int} : BinV .mul (.int i) (.int j) = gd (mulOk i j) (.ok (false, .int (i * j))) := by rfl
theorem binV_mulT {xs : List PyData} {k : Int} : BinV .mul (.tuple xs) (.int k) = gd (!xs.isEmpty && (decide (1 ≤ k) && (decide (k ≤ 1000) && leN xs.length 1000))) (.ok (false, .tuple (List.replicate k.toNat xs).flatten)) := by rfl
theorem binV_mulL {xs : List PyData} {k : Int} : BinV .mul (.list xs) (.int k) = gd (decide (-(2 ^ 62) ≤ k) && (decide (k ≤ 2 ^ 62) && leN (xs.length * k.toNat) lim)) (.ok (true, .list (List.replicate k.toNat xs).flatten)) := by rfl
theorem binV_fdivI {i j : Int} : BinV .fdiv (.int i) (.int j) = gd (divOk j) (.ok (false, .int (i / j))) := by rfl
theorem binV_modI {i j : Int} : BinV .mod (.int i) (.int j) = gd (decide (0 < j)) (.ok (false, .int (i % j))) := by rfl
theorem binV_powI {i j : Int} : BinV .pow (.int i) (.int j) = gd (powOk i j) (.ok (false, .int (i ^ j.toNat))) := by rfl
theorem binV_shlI {i j : Int} : BinV .shl (.int i) (.int j) = gd (shlOk i j) (.ok (false, .int (i * 2 ^ j.toNat))) := by rfl
theorem binV_shrI {i j : Int} : BinV .shr (.int i) (.int j) = gd (decide (0 ≤ j)) (.ok (false, .int (i / 2 ^ j.toNat))) := by rfl
theorem binV_bandI {i j : Int} : BinV .band (.int i) (.int j) = .ok (false, .int (Builtin.bitAnd i j)) := by rfl
theorem binV_borI {i j : Int} : BinV .bor (.int i) (.int j) = .ok (false, .int (Builtin.bitOr i j)) := by rfl
theorem binV_bxorI {i j : Int} : BinV .bxor (.int i) (.int j) = .ok (false, .int (Builtin.bitXor i j)) := by rfl
theorem augV_add {i j : Int} : augV .add i j = .ok (i + j) := by rfl
theorem augV_sub {i j : Int} : augV .sub i j = .ok (i - j) := by rfl
theorem augV_band {i j : Int} : augV .band i j = .ok (Builtin.bitAnd i j) := by rfl
theorem augV_bor {i j : Int} : augV .bor i j = .ok (Builtin.bitOr i j) := by rfl
theorem augV_bxor {i j : Int} : augV .bxor i j = .ok (Builtin.bitXor i j) := by rfl
theorem augV_mul {i j : Int} : augV .mul i j = gd (mulS i j) (.ok (i * j)) := by rfl
theorem augV_fdiv {i j : Int} : augV .fdiv i j = gd (divOk j) (.ok (i / j)) := by rfl
theorem augV_mod {i j : Int} : augV .mod i j = gd (decide (0 < j)) (.ok (i % j)) := by rfl
theorem augV_shl {i j : Int} : augV .shl i j = gd (shlOk i j) (.ok (i * 2 ^ j.toNat)) := by rfl
theorem augV_shr {i j : Int} : augV .shr i j = gd (decide (0 ≤ j)) (.ok (i / 2 ^ j.toNat)) := by rfl
theorem cmpV_eqI {i j : Int} : CmpV .eq (.int i) (.int j) = .ok (i == j) := by rfl
theorem cmpV_neI {i j : Int} : CmpV .ne (.int i) (.int j) = .ok (!(i == j)) := by rfl
theorem cmpV_lt {i j : Int} : CmpV .lt (.int i) (.int j) = .ok (decide (i < j)) := by rfl
theorem cmpV_le {i j : Int} : CmpV .le (.int i) (.int j) = .ok (decide (i ≤ j)) := by rfl
theorem cmpV_gt {i j : Int} : CmpV .gt (.int i) (.int j) = .ok (decide (j < i)) := by rfl
theorem cmpV_ge {i j : Int} : CmpV .ge (.int i) (.int j) = .ok (decide (j ≤ i)) := by rfl
theorem cmpV_eqIS {i : Int} {x2 : Str} : CmpV .eq (.int i) (.str x2) = gd (SeqAt.shaped (.int i) && SeqAt.shaped (.str x2)) (.ok (PyData.eqv (.int i) (.str x2))) := by rfl
theorem cmpV_neIS {i : Int} {x2 : Str} : CmpV .ne (.int i) (.str x2) = gd (SeqAt.shaped (.int i) && SeqAt.shaped (.str x2)) (.ok (!PyData.eqv (.int i) (.str x2))) := by rfl
theorem cmpV_eqIB {i : Int} {b2 : Bool} : CmpV .eq (.int i) (.bool b2) = gd (SeqAt.shaped (.int i) && SeqAt.shaped (.bool b2)) (.ok (PyData.eqv (.int i) (.bool b2))) := by rfl
theorem cmpV_neIB {i : Int} {b2 : Bool} : CmpV .ne (.int i) (.bool b2) = gd (SeqAt.shaped (.int i) && SeqAt.shaped (.bool b2)) (.ok (!PyData.eqv (.int i) (.bool b2))) := by rfl
theorem cmpV_eqIN {i : Int}  : CmpV .eq (.int i) .none = gd (SeqAt.shaped (.int i) && SeqAt.shaped .none) (.ok (PyData.eqv (.int i) .none)) := by rfl
theorem cmpV_neIN {i : Int}  : CmpV .ne (.int i) .none = gd (SeqAt.shaped (.int i) && SeqAt.shaped .none) (.ok (!PyData.eqv (.int i) .none)) := by rfl
theorem cmpV_eqIL {i : Int} {xs2 : List PyData} : CmpV .eq (.int i) (.list xs2) = gd (SeqAt.shaped (.int i) && SeqAt.shaped (.list xs2)) (.ok (PyData.eqv (.int i) (.list xs2))) := by rfl
theorem cmpV_neIL {i : Int} {xs2 : List PyData} : CmpV .ne (.int i) (.list xs2) = gd (SeqAt.shaped (.int i) && SeqAt.shaped (.list xs2)) (.ok (!PyData.eqv (.int i) (.list xs2))) := by rfl
theorem cmpV_eqIT {i : Int} {xs2 : List PyData} : CmpV .eq (.int i) (.tuple xs2) = gd (SeqAt.shaped (.int i) && SeqAt.shaped (.tuple xs2)) (.ok (PyData.eqv (.int i) (.tuple xs2))) := by rfl
theorem cmpV_neIT {i : Int} {xs2 : List PyData} : CmpV .ne (.int i) (.tuple xs2) = gd (SeqAt.shaped (.int i) && SeqAt.shaped (.tuple xs2)) (.ok (!PyData.eqv (.int i) (.tuple xs2))) := by rfl
theorem cmpV_eqID {i : Int} {ks2 : List (PyData × PyData)} : CmpV .eq (.int i) (.dict ks2) = gd (SeqAt.shaped (.int i) && SeqAt.shaped (.dict ks2)) (.ok (PyData.eqv (.int i) (.dict ks2))) := by rfl
theorem cmpV_neID {i : Int} {ks2 : List (PyData × PyData)} : CmpV .ne (.int i) (.dict ks2) = gd (SeqAt.shaped (.int i) && SeqAt.shaped (.dict ks2)) (.ok (!PyData.eqv (.int i) (.dict ks2))) := by rfl
theorem cmpV_eqSI {x : Str} {i2 : Int} : CmpV .eq (.str x) (.int i2) = gd (SeqAt.shaped (.str x) && SeqAt.shaped (.int i2)) (.ok (PyData.eqv (.str x) (.int i2))) := by rfl
theorem cmpV_neSI {x : Str} {i2 : Int} : CmpV .ne (.str x) (.int i2) = gd (SeqAt.shaped (.str x) && SeqAt.shaped (.int i2)) (.ok (!PyData.eqv (.str x) (.int i2))) := by rfl
theorem cmpV_eqSS {x : Str} {x2 : Str} : CmpV .eq (.str x) (.str x2) = gd (SeqAt.shaped (.str x) && SeqAt.shaped (.str x2)) (.ok (PyData.eqv (.str x) (.str x2))) := by rfl
theorem cmpV_neSS {x : Str} {x2 : Str} : CmpV .ne (.str x) (.str x2) = gd (SeqAt.shaped (.str x) && SeqAt.shaped (.str x2)) (.ok (!PyData.eqv (.str x) (.str x2))) := by rfl
theorem cmpV_eqSB {x : Str} {b2 : Bool} : CmpV .eq (.str x) (.bool b2) = gd (SeqAt.shaped (.str x) && SeqAt.shaped (.bool b2)) (.ok (PyData.eqv (.str x) (.bool b2))) := by rfl
theorem cmpV_neSB {x : Str} {b2 : Bool} : CmpV .ne (.str x) (.bool b2) = gd (SeqAt.shaped (.str x) && SeqAt.shaped (.bool b2)) (.ok (!PyData.eqv (.str x) (.bool b2))) := by rfl
theorem cmpV_eqSN {x : Str}  : CmpV .eq (.str x) .none = gd (SeqAt.shaped (.str x) && SeqAt.shaped .none) (.ok (PyData.eqv (.str x) .none)) := by rfl
theorem cmpV_neSN {x : Str}  : CmpV .ne (.str x) .none = gd (SeqAt.shaped (.str x) && SeqAt.shaped .none) (.ok (!PyData.eqv (.str x) .none)) := by rfl
theorem cmpV_eqSL {x : Str} {xs2 : List PyData} : CmpV .eq (.str x) (.list xs2) = gd (SeqAt.shaped (.str x) && SeqAt.shaped (.list xs2)) (.ok (PyData.eqv (.str x) (.list xs2))) := by rfl
theorem cmpV_neSL {x : Str} {xs2 : List PyData} : CmpV .ne (.str x) (.list xs2) = gd (SeqAt.shaped (.str x) && SeqAt.shaped (.list xs2)) (.ok (!PyData.eqv (.str x) (.list xs2))) := by rfl
theorem cmpV_eqST {x : Str} {xs2 : List PyData} : CmpV .eq (.str x) (.tuple xs2) = gd (SeqAt.shaped (.str x) && SeqAt.shaped (.tuple xs2)) (.ok (PyData.eqv (.str x) (.tuple xs2))) := by rfl
theorem cmpV_neST {x : Str} {xs2 : List PyData} : CmpV .ne (.str x) (.tuple xs2) = gd (SeqAt.shaped (.str x) && SeqAt.shaped (.tuple xs2)) (.ok (!PyData.eqv (.str x) (.tuple xs2))) := by rfl
theorem cmpV_eqSD {x : Str} {ks2 : List (PyData × PyData)} : CmpV .eq (.str x) (.dict ks2) = gd (SeqAt.shaped (.str x) && SeqAt.shaped (.dict ks2)) (.ok (PyData.eqv (.str x) (.dict ks2))) := by rfl
theorem cmpV_neSD {x : Str} {ks2 : List (PyData × PyData)} : CmpV .ne (.str x) (.dict ks2) = gd (SeqAt.shaped (.str x) && SeqAt.shaped (.dict ks2)) (.ok (!PyData.eqv (.str x) (.dict ks2))) := by rfl
theorem cmpV_eqBI {b : Bool} {i2 : Int} : CmpV .eq (.bool b) (.int i2) = gd (SeqAt.shaped (.bool b) && SeqAt.shaped (.int i2)) (.ok (PyData.eqv (.bool b) (.int i2))) := by rfl
theorem cmpV_neBI {b : Bool} {i2 : Int} : CmpV .ne (.bool b) (.int i2) = gd (SeqAt.shaped (.bool b) && SeqAt.shaped (.int i2)) (.ok (!PyData.eqv (.bool b) (.int i2))) := by rfl
theorem cmpV_eqBS {b : Bool} {x2 : Str} : CmpV .eq (.bool b) (.str x2) = gd (SeqAt.shaped (.bool b) && SeqAt.shaped (.str x2)) (.ok (PyData.eqv (.bool b) (.str x2))) := by rfl
theorem cmpV_neBS {b : Bool} {x2 : Str} : CmpV .ne (.bool b) (.str x2) = gd (SeqAt.shaped (.bool b) && SeqAt.shaped (.str x2)) (.ok (!PyData.eqv (.bool b) (.str x2))) := by rfl
theorem cmpV_eqBB {b : Bool} {b2 : Bool} : CmpV .eq (.bool b) (.bool b2) = gd (SeqAt.shaped (.bool b) && SeqAt.shaped (.bool b2)) (.ok (PyData.eqv (.bool b) (.bool b2))) := by rfl
theorem cmpV_neBB {b : Bool} {b2 : Bool} : CmpV .ne (.bool b) (.bool b2) = gd (SeqAt.shaped (.bool b) && SeqAt.shaped (.bool b2)) (.ok (!PyData.eqv (.bool b) (.bool b2))) := by rfl
theorem cmpV_eqBN {b : Bool}  : CmpV .eq (.bool b) .none = gd (SeqAt.shaped (.bool b) && SeqAt.shaped .none) (.ok (PyData.eqv (.bool b) .none)) := by rfl
theorem cmpV_neBN {b : Bool}  : CmpV .ne (.bool b) .none = gd (SeqAt.shaped (.bool b) && SeqAt.shaped .none) (.ok (!PyData.eqv (.bool b) .none)) := by rfl
theorem cmpV_eqBL {b : Bool} {xs2 : List PyData} : CmpV .eq (.bool b) (.list xs2) = gd (SeqAt.shaped (.bool b) && SeqAt.shaped (.list xs2)) (.ok (PyData.eqv (.bool b) (.list xs2))) := by rfl
theorem cmpV_neBL {b : Bool} {xs2 : List PyData} : CmpV .ne (.bool b) (.list xs2) = gd (SeqAt.shaped (.bool b) && SeqAt.shaped (.list xs2)) (.ok (!PyData.eqv (.bool b) (.list xs2))) := by rfl
theorem cmpV_eqBT {b : Bool} {xs2 : List PyData} : CmpV .eq (.bool b) (.tuple xs2) = gd (SeqAt.shaped (.bool b) && SeqAt.shaped (.tuple xs2)) (.ok (PyData.eqv (.bool b) (.tuple xs2))) := by rfl
theorem cmpV_neBT {b : Bool} {xs2 : List PyData} : CmpV .ne (.bool b) (.tuple xs2) = gd (SeqAt.shaped (.bool b) && SeqAt.shaped (.tuple xs2)) (.ok (!PyData.eqv (.bool b) (.tuple xs2))) := by rfl
theorem cmpV_eqBD {b : Bool} {ks2 : List (PyData × PyData)} : CmpV .eq (.bool b) (.dict ks2) = gd (SeqAt.shaped (.bool b) && SeqAt.shaped (.dict ks2)) (.ok (PyData.eqv (.bool b) (.dict ks2))) := by rfl
theorem cmpV_neBD {b : Bool} {ks2 : List (PyData × PyData)} : CmpV .ne (.bool b) (.dict ks2) = gd (SeqAt.shaped (.bool b) && SeqAt.shaped (.dict ks2)) (.ok (!PyData.eqv (.bool b) (.dict ks2))) := by rfl
theorem cmpV_eqNI  {i2 : Int} : CmpV .eq .none (.int i2) = gd (SeqAt.shaped .none && SeqAt.shaped (.int i2)) (.ok (PyData.eqv .none (.int i2))) := by rfl
theorem cmpV_neNI  {i2 : Int} : CmpV .ne .none (.int i2) = gd (SeqAt.shaped .none && SeqAt.shaped (.int i2)) (.ok (!PyData.eqv .none (.int i2))) := by rfl
theorem cmpV_eqNS  {x2 : Str} : CmpV .eq .none (.str x2) = gd (SeqAt.shaped .none && SeqAt.shaped (.str x2)) (.ok (PyData.eqv .none (.str x2))) := by rfl
theorem cmpV_neNS  {x2 : Str} : CmpV .ne .none (.str x2) = gd (SeqAt.shaped .none && SeqAt.shaped (.str x2)) (.ok (!PyData.eqv .none (.str x2))) := by rfl
theorem cmpV_eqNB  {b2 : Bool} : CmpV .eq .none (.bool b2) = gd (SeqAt.shaped .none && SeqAt.shaped (.bool b2)) (.ok (PyData.eqv .none (.bool b2))) := by rfl
theorem cmpV_neNB  {b2 : Bool} : CmpV .ne .none (.bool b2) = gd (SeqAt.shaped .none && SeqAt.shaped (.bool b2)) (.ok (!PyData.eqv .none (.bool b2))) := by rfl
theorem cmpV_eqNN   : CmpV .eq .none .none = gd (SeqAt.shaped .none && SeqAt.shaped .none) (.ok (PyData.eqv .none .none)) := by rfl
theorem cmpV_neNN   : CmpV .ne .none .none = gd (SeqAt.shaped .none && SeqAt.shaped .none) (.ok (!PyData.eqv .none .none)) := by rfl
theorem cmpV_eqNL  {xs2 : List PyData} : CmpV .eq .none (.list xs2) = gd (SeqAt.shaped .none && SeqAt.shaped (.list xs2)) (.ok (PyData.eqv .none (.list xs2))) := by rfl
theorem cmpV_neNL  {xs2 : List PyData} : CmpV .ne .none (.list xs2) = gd (SeqAt.shaped .none && SeqAt.shaped (.list xs2)) (.ok (!PyData.eqv .none (.list xs2))) := by rfl
theorem cmpV_eqNT  {xs2 : List PyData} : CmpV .eq .none (.tuple xs2) = gd (SeqAt.shaped .none && SeqAt.shaped (.tuple xs2)) (.ok (PyData.eqv .none (.tuple xs2))) := by rfl
theorem cmpV_neNT  {xs2 : List PyData} : CmpV .ne .none (.tuple xs2) = gd (SeqAt.shaped .none && SeqAt.shaped (.tuple xs2)) (.ok (!PyData.eqv .none (.tuple xs2))) := by rfl
theorem cmpV_eqND  {ks2 : List (PyData × PyData)} : CmpV .eq .none (.dict ks2) = gd (SeqAt.shaped .none && SeqAt.shaped (.dict ks2)) (.ok (PyData.eqv .none (.dict ks2))) := by rfl
theorem cmpV_neND  {ks2 : List (PyData × PyData)} : CmpV .ne .none (.dict ks2) = gd (SeqAt.shaped .none && SeqAt.shaped (.dict ks2)) (.ok (!PyData.eqv .none (.dict ks2))) := by rfl
theorem cmpV_eqLI {xs : List PyData} {i2 : Int} : CmpV .eq (.list xs) (.int i2) = gd (SeqAt.shaped (.list xs) && SeqAt.shaped (.int i2)) (.ok (PyData.eqv (.list xs) (.int i2))) := by rfl
theorem cmpV_neLI {xs : List PyData} {i2 : Int} : CmpV .ne (.list xs) (.int i2) = gd (SeqAt.shaped (.list xs) && SeqAt.shaped (.int i2)) (.ok (!PyData.eqv (.list xs) (.int i2))) := by rfl
theorem cmpV_eqLS {xs : List PyData} {x2 : Str} : CmpV .eq (.list xs) (.str x2) = gd (SeqAt.shaped (.list xs) && SeqAt.shaped (.str x2)) (.ok (PyData.eqv (.list xs) (.str x2))) := by rfl
theorem cmpV_neLS {xs : List PyData} {x2 : Str} : CmpV .ne (.list xs) (.str x2) = gd (SeqAt.shaped (.list xs) && SeqAt.shaped (.str x2)) (.ok (!PyData.eqv (.list xs) (.str x2))) := by rfl
theorem cmpV_eqLB {xs : List PyData} {b2 : Bool} : CmpV .eq (.list xs) (.bool b2) = gd (SeqAt.shaped (.list xs) && SeqAt.shaped (.bool b2)) (.ok (PyData.eqv (.list xs) (.bool b2))) := by rfl
theorem cmpV_neLB {xs : List PyData} {b2 : Bool} : CmpV .ne (.list xs) (.bool b2) = gd (SeqAt.shaped (.list xs) && SeqAt.shaped (.bool b2)) (.ok (!PyData.eqv (.list xs) (.bool b2))) := by rfl
theorem cmpV_eqLN {xs : List PyData}  : CmpV .eq (.list xs) .none = gd (SeqAt.shaped (.list xs) && SeqAt.shaped .none) (.ok (PyData.eqv (.list xs) .none)) := by rfl
theorem cmpV_neLN {xs : List PyData}  : CmpV .ne (.list xs) .none = gd (SeqAt.shaped (.list xs) && SeqAt.shaped .none) (.ok (!PyData.eqv (.list xs) .none)) := by rfl
theorem cmpV_eqLL {xs : List PyData} {xs2 : List PyData} : CmpV .eq (.list xs) (.list xs2) = gd (SeqAt.shaped (.list xs) && SeqAt.shaped (.list xs2)) (.ok (PyData.eqv (.list xs) (.list xs2))) := by rfl
theorem cmpV_neLL {xs : List PyData} {xs2 : List PyData} : CmpV .ne (.list xs) (.list xs2) = gd (SeqAt.shaped (.list xs) && SeqAt.shaped (.list xs2)) (.ok (!PyData.eqv (.list xs) (.list xs2))) := by rfl
theorem cmpV_eqLT {xs : List PyData} {xs2 : List PyData} : CmpV .eq (.list xs) (.tuple xs2) = gd (SeqAt.shaped (.list xs) && SeqAt.shaped (.tuple xs2)) (.ok (PyData.eqv (.list xs) (.tuple xs2))) := by rfl
theorem cmpV_neLT {xs : List PyData} {xs2 : List PyData} : CmpV .ne (.list xs) (.tuple xs2) = gd (SeqAt.shaped (.list xs) && SeqAt.shaped (.tuple xs2)) (.ok (!PyData.eqv (.list xs) (.tuple xs2))) := by rfl
theorem cmpV_eqLD {xs : List PyData} {ks2 : List (PyData × PyData)} : CmpV .eq (.list xs) (.dict ks2) = gd (SeqAt.shaped (.list xs) && SeqAt.shaped (.dict ks2)) (.ok (PyData.eqv (.list xs) (.dict ks2))) := by rfl
theorem cmpV_neLD {xs : List PyData} {ks2 : List (PyData × PyData)} : CmpV .ne (.list xs) (.dict ks2) = gd (SeqAt.shaped (.list xs) && SeqAt.shaped (.dict ks2)) (.ok (!PyData.eqv (.list xs) (.dict ks2))) := by rfl
theorem cmpV_eqTI {xs : List PyData} {i2 : Int} : CmpV .eq (.tuple xs) (.int i2) = gd (SeqAt.shaped (.tuple xs) && SeqAt.shaped (.int i2)) (.ok (PyData.eqv (.tuple xs) (.int i2))) := by rfl
theorem cmpV_neTI {xs : List PyData} {i2 : Int} : CmpV .ne (.tuple xs) (.int i2) = gd (SeqAt.shaped (.tuple xs) && SeqAt.shaped (.int i2)) (.ok (!PyData.eqv (.tuple xs) (.int i2))) := by rfl
theorem cmpV_eqTS {xs : List PyData} {x2 : Str} : CmpV .eq (.tuple xs) (.str x2) = gd (SeqAt.shaped (.tuple xs) && SeqAt.shaped (.str x2)) (.ok (PyData.eqv (.tuple xs) (.str x2))) := by rfl
theorem cmpV_neTS {xs : List PyData} {x2 : Str} : CmpV .ne (.tuple xs) (.str x2) = gd (SeqAt.shaped (.tuple xs) && SeqAt.shaped (.str x2)) (.ok (!PyData.eqv (.tuple xs) (.str x2))) := by rfl
theorem cmpV_eqTB {xs : List PyData} {b2 : Bool} : CmpV .eq (.tuple xs) (.bool b2) = gd (SeqAt.shaped (.tuple xs) && SeqAt.shaped (.bool b2)) (.ok (PyData.eqv (.tuple xs) (.bool b2))) := by rfl
theorem cmpV_neTB {xs : List PyData} {b2 : Bool} : CmpV .ne (.tuple xs) (.bool b2) = gd (SeqAt.shaped (.tuple xs) && SeqAt.shaped (.bool b2)) (.ok (!PyData.eqv (.tuple xs) (.bool b2))) := by rfl
theorem cmpV_eqTN {xs : List PyData}  : CmpV .eq (.tuple xs) .none = gd (SeqAt.shaped (.tuple xs) && SeqAt.shaped .none) (.ok (PyData.eqv (.tuple xs) .none)) := by rfl
theorem cmpV_neTN {xs : List PyData}  : CmpV .ne (.tuple xs) .none = gd (SeqAt.shaped (.tuple xs) && SeqAt.shaped .none) (.ok (!PyData.eqv (.tuple xs) .none)) := by rfl
theorem cmpV_eqTL {xs : List PyData} {xs2 : List PyData} : CmpV .eq (.tuple xs) (.list xs2) = gd (SeqAt.shaped (.tuple xs) && SeqAt.shaped (.list xs2)) (.ok (PyData.eqv (.tuple xs) (.list xs2))) := by rfl
theorem cmpV_neTL {xs : List PyData} {xs2 : List PyData} : CmpV .ne (.tuple xs) (.list xs2) = gd (SeqAt.shaped (.tuple xs) && SeqAt.shaped (.list xs2)) (.ok (!PyData.eqv (.tuple xs) (.list xs2))) := by rfl
theorem cmpV_eqTT {xs : List PyData} {xs2 : List PyData} : CmpV .eq (.tuple xs) (.tuple xs2) = gd (SeqAt.shaped (.tuple xs) && SeqAt.shaped (.tuple xs2)) (.ok (PyData.eqv (.tuple xs) (.tuple xs2))) := by rfl
theorem cmpV_neTT {xs : List PyData} {xs2 : List PyData} : CmpV .ne (.tuple xs) (.tuple xs2) = gd (SeqAt.shaped (.tuple xs) && SeqAt.shaped (.tuple xs2)) (.ok (!PyData.eqv (.tuple xs) (.tuple xs2))) := by rfl
theorem cmpV_eqTD {xs : List PyData} {ks2 : List (PyData × PyData)} : CmpV .eq (.tuple xs) (.dict ks2) = gd (SeqAt.shaped (.tuple xs) && SeqAt.shaped (.dict ks2)) (.ok (PyData.eqv (.tuple xs) (.dict ks2))) := by rfl
theorem cmpV_neTD {xs : List PyData} {ks2 : List (PyData × PyData)} : CmpV .ne (.tuple xs) (.dict ks2) = gd (SeqAt.shaped (.tuple xs) && SeqAt.shaped (.dict ks2)) (.ok (!PyData.eqv (.tuple xs) (.dict ks2))) := by rfl
theorem cmpV_eqDI {ks : List (PyData × PyData)} {i2 : Int} : CmpV .eq (.dict ks) (.int i2) = gd (SeqAt.shaped (.dict ks) && SeqAt.shaped (.int i2)) (.ok (PyData.eqv (.dict ks) (.int i2))) := by rfl
theorem cmpV_neDI {ks : List (PyData × PyData)} {i2 : Int} : CmpV .ne (.dict ks) (.int i2) = gd (SeqAt.shaped (.dict ks) && SeqAt.shaped (.int i2)) (.ok (!PyData.eqv (.dict ks) (.int i2))) := by rfl
theorem cmpV_eqDS {ks : List (PyData × PyData)} {x2 : Str} : CmpV .eq (.dict ks) (.str x2) = gd (SeqAt.shaped (.dict ks) && SeqAt.shaped (.str x2)) (.ok (PyData.eqv (.dict ks) (.str x2))) := by rfl
theorem cmpV_neDS {ks : List (PyData × PyData)} {x2 : Str} : CmpV .ne (.dict ks) (.str x2) = gd (SeqAt.shaped (.dict ks) && SeqAt.shaped (.str x2)) (.ok (!PyData.eqv (.dict ks) (.str x2))) := by rfl
theorem cmpV_eqDB {ks : List (PyData × PyData)} {b2 : Bool} : CmpV .eq (.dict ks) (.bool b2) = gd (SeqAt.shaped (.dict ks) && SeqAt.shaped (.bool b2)) (.ok (PyData.eqv (.dict ks) (.bool b2))) := by rfl
theorem cmpV_neDB {ks : List (PyData × PyData)} {b2 : Bool} : CmpV .ne (.dict ks) (.bool b2) = gd (SeqAt.shaped (.dict ks) && SeqAt.shaped (.bool b2)) (.ok (!PyData.eqv (.dict ks) (.bool b2))) := by rfl
theorem cmpV_eqDN {ks : List (PyData × PyData)}  : CmpV .eq (.dict ks) .none = gd (SeqAt.shaped (.dict ks) && SeqAt.shaped .none) (.ok (PyData.eqv (.dict ks) .none)) := by rfl
theorem cmpV_neDN {ks : List (PyData × PyData)}  : CmpV .ne (.dict ks) .none = gd (SeqAt.shaped (.dict ks) && SeqAt.shaped .none) (.ok (!PyData.eqv (.dict ks) .none)) := by rfl
theorem cmpV_eqDL {ks : List (PyData × PyData)} {xs2 : List PyData} : CmpV .eq (.dict ks) (.list xs2) = gd (SeqAt.shaped (.dict ks) && SeqAt.shaped (.list xs2)) (.ok (PyData.eqv (.dict ks) (.list xs2))) := by rfl
theorem cmpV_neDL {ks : List (PyData × PyData)} {xs2 : List PyData} : CmpV .ne (.dict ks) (.list xs2) = gd (SeqAt.shaped (.dict ks) && SeqAt.shaped (.list xs2)) (.ok (!PyData.eqv (.dict ks) (.list xs2))) := by rfl
theorem cmpV_eqDT {ks : List (PyData × PyData)} {xs2 : List PyData} : CmpV .eq (.dict ks) (.tuple xs2) = gd (SeqAt.shaped (.dict ks) && SeqAt.shaped (.tuple xs2)) (.ok (PyData.eqv (.dict ks) (.tuple xs2))) := by rfl
theorem cmpV_neDT {ks : List (PyData × PyData)} {xs2 : List PyData} : CmpV .ne (.dict ks) (.tuple xs2) = gd (SeqAt.shaped (.dict ks) && SeqAt.shaped (.tuple xs2)) (.ok (!PyData.eqv (.dict ks) (.tuple xs2))) := by rfl
theorem cmpV_eqDD {ks : List (PyData × PyData)} {ks2 : List (PyData × PyData)} : CmpV .eq (.dict ks) (.dict ks2) = gd (SeqAt.shaped (.dict ks) && SeqAt.shaped (.dict ks2)) (.ok (PyData.eqv (.dict ks) (.dict ks2))) := by rfl
theorem cmpV_neDD {ks : List (PyData × PyData)} {ks2 : List (PyData × PyData)} : CmpV .ne (.dict ks) (.dict ks2) = gd (SeqAt.shaped (.dict ks) && SeqAt.shaped (.dict ks2)) (.ok (!PyData.eqv (.dict ks) (.dict ks2))) := by rfl
theorem cmpV_isI {i : Int} {y : Bool} : CmpV (.isnt y) (.int i) .none = .ok (!y) := by rfl
theorem cmpV_inLItrue {i : Int} {ys : List PyData} : CmpV (.in_ true) (.int i) (.list ys) = gd (SeqAt.shaped (.int i) && SeqAt.shaped (.list ys)) (.ok (ys.any (fun z => PyData.eqv z (.int i)))) := by rfl
theorem cmpV_inTItrue {i : Int} {ys : List PyData} : CmpV (.in_ true) (.int i) (.tuple ys) = gd (SeqAt.shaped (.int i) && SeqAt.shaped (.tuple ys)) (.ok (ys.any (fun z => PyData.eqv z (.int i)))) := by rfl
theorem cmpV_inDItrue {i : Int} {kvs : List (PyData × PyData)} : CmpV (.in_ true) (.int i) (.dict kvs) = .ok ((lookD kvs (.int i)).isSome) := by rfl
theorem cmpV_inLIfalse {i : Int} {ys : List PyData} : CmpV (.in_ false) (.int i) (.list ys) = gd (SeqAt.shaped (.int i) && SeqAt.shaped (.list ys)) (.ok (!ys.any (fun z => PyData.eqv z (.int i)))) := by rfl
theorem cmpV_inTIfalse {i : Int} {ys : List PyData} : CmpV (.in_ false) (.int i) (.tuple ys) = gd (SeqAt.shaped (.int i) && SeqAt.shaped (.tuple ys)) (.ok (!ys.any (fun z => PyData.eqv z (.int i)))) := by rfl
theorem cmpV_inDIfalse {i : Int} {kvs : List (PyData × PyData)} : CmpV (.in_ false) (.int i) (.dict kvs) = .ok (!(lookD kvs (.int i)).isSome) := by rfl
theorem cmpV_isS {x : Str} {y : Bool} : CmpV (.isnt y) (.str x) .none = .ok (!y) := by rfl
theorem cmpV_inLStrue {x : Str} {ys : List PyData} : CmpV (.in_ true) (.str x) (.list ys) = gd (SeqAt.shaped (.str x) && SeqAt.shaped (.list ys)) (.ok (ys.any (fun z => PyData.eqv z (.str x)))) := by rfl
theorem cmpV_inTStrue {x : Str} {ys : List PyData} : CmpV (.in_ true) (.str x) (.tuple ys) = gd (SeqAt.shaped (.str x) && SeqAt.shaped (.tuple ys)) (.ok (ys.any (fun z => PyData.eqv z (.str x)))) := by rfl
theorem cmpV_inDStrue {x : Str} {kvs : List (PyData × PyData)} : CmpV (.in_ true) (.str x) (.dict kvs) = .ok ((lookD kvs (.str x)).isSome) := by rfl
theorem cmpV_inLSfalse {x : Str} {ys : List PyData} : CmpV (.in_ false) (.str x) (.list ys) = gd (SeqAt.shaped (.str x) && SeqAt.shaped (.list ys)) (.ok (!ys.any (fun z => PyData.eqv z (.str x)))) := by rfl
theorem cmpV_inTSfalse {x : Str} {ys : List PyData} : CmpV (.in_ false) (.str x) (.tuple ys) = gd (SeqAt.shaped (.str x) && SeqAt.shaped (.tuple ys)) (.ok (!ys.any (fun z => PyData.eqv z (.str x)))) := by rfl
theorem cmpV_inDSfalse {x : Str} {kvs : List (PyData × PyData)} : CmpV (.in_ false) (.str x) (.dict kvs) = .ok (!(lookD kvs (.str x)).isSome) := by rfl
theorem cmpV_isB {b : Bool} {y : Bool} : CmpV (.isnt y) (.bool b) .none = .ok (!y) := by rfl
theorem cmpV_inLBtrue {b : Bool} {ys : List PyData} : CmpV (.in_ true) (.bool b) (.list ys) = gd (SeqAt.shaped (.bool b) && SeqAt.shaped (.list ys)) (.ok (ys.any (fun z => PyData.eqv z (.bool b)))) := by rfl
theorem cmpV_inTBtrue {b : Bool} {ys : List PyData} : CmpV (.in_ true) (.bool b) (.tuple ys) = gd (SeqAt.shaped (.bool b) && SeqAt.shaped (.tuple ys)) (.ok (ys.any (fun z => PyData.eqv z (.bool b)))) := by rfl
theorem cmpV_inLBfalse {b : Bool} {ys : List PyData} : CmpV (.in_ false) (.bool b) (.list ys) = gd (SeqAt.shaped (.bool b) && SeqAt.shaped (.list ys)) (.ok (!ys.any (fun z => PyData.eqv z (.bool b)))) := by rfl
theorem cmpV_inTBfalse {b : Bool} {ys : List PyData} : CmpV (.in_ false) (.bool b) (.tuple ys) = gd (SeqAt.shaped (.bool b) && SeqAt.shaped (.tuple ys)) (.ok (!ys.any (fun z => PyData.eqv z (.bool b)))) := by rfl
theorem cmpV_isN  {y : Bool} : CmpV (.isnt y) .none .none = .ok y := by rfl
theorem cmpV_inLNtrue  {ys : List PyData} : CmpV (.in_ true) .none (.list ys) = gd (SeqAt.shaped .none && SeqAt.shaped (.list ys)) (.ok (ys.any (fun z => PyData.eqv z .none))) := by rfl
theorem cmpV_inTNtrue  {ys : List PyData} : CmpV (.in_ true) .none (.tuple ys) = gd (SeqAt.shaped .none && SeqAt.shaped (.tuple ys)) (.ok (ys.any (fun z => PyData.eqv z .none))) := by rfl
theorem cmpV_inLNfalse  {ys : List PyData} : CmpV (.in_ false) .none (.list ys) = gd (SeqAt.shaped .none && SeqAt.shaped (.list ys)) (.ok (!ys.any (fun z => PyData.eqv z .none))) := by rfl
theorem cmpV_inTNfalse  {ys : List PyData} : CmpV (.in_ false) .none (.tuple ys) = gd (SeqAt.shaped .none && SeqAt.shaped (.tuple ys)) (.ok (!ys.any (fun z => PyData.eqv z .none))) := by rfl
theorem cmpV_isL {xs : List PyData} {y : Bool} : CmpV (.isnt y) (.list xs) .none = .ok (!y) := by rfl
theorem cmpV_inLLtrue {xs : List PyData} {ys : List PyData} : CmpV (.in_ true) (.list xs) (.list ys) = gd (SeqAt.shaped (.list xs) && SeqAt.shaped (.list ys)) (.ok (ys.any (fun z => PyData.eqv z (.list xs)))) := by rfl
theorem cmpV_inTLtrue {xs : List PyData} {ys : List PyData} : CmpV (.in_ true) (.list xs) (.tuple ys) = gd (SeqAt.shaped (.list xs) && SeqAt.shaped (.tuple ys)) (.ok (ys.any (fun z => PyData.eqv z (.list xs)))) := by rfl
theorem cmpV_inLLfalse {xs : List PyData} {ys : List PyData} : CmpV (.in_ false) (.list xs) (.list ys) = gd (SeqAt.shaped (.list xs) && SeqAt.shaped (.list ys)) (.ok (!ys.any (fun z => PyData.eqv z (.list xs)))) := by rfl
theorem cmpV_inTLfalse {xs : List PyData} {ys : List PyData} : CmpV (.in_ false) (.list xs) (.tuple ys) = gd (SeqAt.shaped (.list xs) && SeqAt.shaped (.tuple ys)) (.ok (!ys.any (fun z => PyData.eqv z (.list xs)))) := by rfl
theorem cmpV_isT {xs : List PyData} {y : Bool} : CmpV (.isnt y) (.tuple xs) .none = .ok (!y) := by rfl
theorem cmpV_inLTtrue {xs : List PyData} {ys : List PyData} : CmpV (.in_ true) (.tuple xs) (.list ys) = gd (SeqAt.shaped (.tuple xs) && SeqAt.shaped (.list ys)) (.ok (ys.any (fun z => PyData.eqv z (.tuple xs)))) := by rfl
theorem cmpV_inTTtrue {xs : List PyData} {ys : List PyData} : CmpV (.in_ true) (.tuple xs) (.tuple ys) = gd (SeqAt.shaped (.tuple xs) && SeqAt.shaped (.tuple ys)) (.ok (ys.any (fun z => PyData.eqv z (.tuple xs)))) := by rfl
theorem cmpV_inLTfalse {xs : List PyData} {ys : List PyData} : CmpV (.in_ false) (.tuple xs) (.list ys) = gd (SeqAt.shaped (.tuple xs) && SeqAt.shaped (.list ys)) (.ok (!ys.any (fun z => PyData.eqv z (.tuple xs)))) := by rfl
theorem cmpV_inTTfalse {xs : List PyData} {ys : List PyData} : CmpV (.in_ false) (.tuple xs) (.tuple ys) = gd (SeqAt.shaped (.tuple xs) && SeqAt.shaped (.tuple ys)) (.ok (!ys.any (fun z => PyData.eqv z (.tuple xs)))) := by rfl
theorem cmpV_isD {ks : List (PyData × PyData)} {y : Bool} : CmpV (.isnt y) (.dict ks) .none = .ok (!y) := by rfl
theorem cmpV_inLDtrue {ks : List (PyData × PyData)} {ys : List PyData} : CmpV (.in_ true) (.dict ks) (.list ys) = gd (SeqAt.shaped (.dict ks) && SeqAt.shaped (.list ys)) (.ok (ys.any (fun z => PyData.eqv z (.dict ks)))) := by rfl
theorem cmpV_inTDtrue {ks : List (PyData × PyData)} {ys : List PyData} : CmpV (.in_ true) (.dict ks) (.tuple ys) = gd (SeqAt.shaped (.dict ks) && SeqAt.shaped (.tuple ys)) (.ok (ys.any (fun z => PyData.eqv z (.dict ks)))) := by rfl
theorem cmpV_inLDfalse {ks : List (PyData × PyData)} {ys : List PyData} : CmpV (.in_ false) (.dict ks) (.list ys) = gd (SeqAt.shaped (.dict ks) && SeqAt.shaped (.list ys)) (.ok (!ys.any (fun z => PyData.eqv z (.dict ks)))) := by rfl
theorem cmpV_inTDfalse {ks : List (PyData × PyData)} {ys : List PyData} : CmpV (.in_ false) (.dict ks) (.tuple ys) = gd (SeqAt.shaped (.dict ks) && SeqAt.shaped (.tuple ys)) (.ok (!ys.any (fun z => PyData.eqv z (.dict ks)))) := by rfl
theorem biV_lenL {xs : List PyData} : BiV .len [.list xs] = .ok (false, .int xs.length) := by rfl
theorem biV_lenT {xs : List PyData} : BiV .len [.tuple xs] = .ok (false, .int xs.length) := by rfl
theorem biV_lenS {x : Str} : BiV .len [.str x] = gd (leN x.length lim) (.ok (false, .int x.length)) := by rfl
theorem biV_abs {i : Int} : BiV .abs [.int i] = .ok (false, .int (if i < 0 then -i else i)) := by rfl
theorem biV_max2 {i j : Int} : BiV .max [.int i, .int j] = .ok (false, .int (if j > i then j else i)) := by rfl
theorem biV_min2 {i j : Int} : BiV .min [.int i, .int j] = .ok (false, .int (if j < i then j else i)) := by rfl
theorem biV_intI {i : Int} : BiV .int [.int i] = .ok (false, .int i) := by rfl
theorem biV_intB {b : Bool} : BiV .int [.bool b] = .ok (false, .int (if b then 1 else 0)) := by rfl
theorem biV_tuple_list {xs : List PyData} : BiV .tuple [.list xs] = .ok (false, .tuple xs) := by rfl
theorem biV_tuple_tuple {xs : List PyData} : BiV .tuple [.tuple xs] = .ok (false, .tuple xs) := by rfl
theorem biV_list_list {xs : List PyData} : BiV .list [.list xs] = .ok (true, .list xs) := by rfl
theorem biV_list_tuple {xs : List PyData} : BiV .list [.tuple xs] = .ok (true, .list xs) := by rfl
theorem biV_max_list {x : PyData} {xs : List PyData} : BiV .max [.list (x :: xs)] = gd (okMB (x :: xs)) (.ok (false, PySem.W.maxD x xs)) := by rfl
theorem biV_max_tuple {x : PyData} {xs : List PyData} : BiV .max [.tuple (x :: xs)] = gd (okMB (x :: xs)) (.ok (false, PySem.W.maxD x xs)) := by rfl
theorem biV_min_list {x : PyData} {xs : List PyData} : BiV .min [.list (x :: xs)] = gd (okMB (x :: xs)) (.ok (false, PySem.W.minD x xs)) := by rfl
theorem biV_min_tuple {x : PyData} {xs : List PyData} : BiV .min [.tuple (x :: xs)] = gd (okMB (x :: xs)) (.ok (false, PySem.W.minD x xs)) := by rfl
theorem biV_repr {d : PyData} : BiV .repr [d] = gd (okRB d) (.ok (false, .str d.shown)) := by rfl
theorem biV_all {xs : List PyData} : BiV .all [.list xs] = (optV (allBools xs)).bind fun bs => .ok (false, .bool (bs.all _root_.id)) := by rfl
theorem biV_any {xs : List PyData} : BiV .any [.list xs] = (optV (allBools xs)).bind fun bs => .ok (false, .bool (bs.any _root_.id)) := by rfl
theorem biV_sorted {xs : List PyData} : BiV .sorted [.list xs] = gd (okSB xs && leN xs.length lim) (.ok (true, .list (sortD xs))) := by rfl
theorem biV_sum {xs : List PyData} : BiV .sum [.list xs] = (optV (allInts xs)).bind fun ns => .ok (false, .int ns.sum) := by rfl
theorem mtT_bits {i : Int} : mtT .bits (.int i) = true := by rfl
theorem mtT_indexL {xs : List PyData} : mtT .index (.list xs) = true := by rfl
theorem mtT_indexT {xs : List PyData} : mtT .index (.tuple xs) = true := by rfl
theorem mtT_get {kvs : List (PyData × PyData)} : mtT .get (.dict kvs) = true := by rfl
theorem mtV_bits {i : Int} : MtV .bits (.int i) [] = .ok (false, .int (Builtin.Int.intBits i : Nat)) := by rfl
theorem mtV_indexL {ds : List PyData} {x : PyData} : MtV .index (.list ds) [x] = gd (SeqAt.shaped x && SeqAt.shaped (.list ds)) ((optV (idxD ds x)).bind fun n => .ok (false, .int (n : Nat))) := by rfl
theorem mtV_indexT {ds : List PyData} {x : PyData} : MtV .index (.tuple ds) [x] = gd (SeqAt.shaped x && SeqAt.shaped (.list ds)) ((optV (idxD ds x)).bind fun n => .ok (false, .int (n : Nat))) := by rfl
theorem mtV_get1 {kvs : List (PyData × PyData)} {k : PyData} : MtV .get (.dict kvs) [k] = gd (keyFor kvs k) (.ok (false, (lookD kvs k).getD .none)) := by rfl
theorem mtV_get2 {kvs : List (PyData × PyData)} {k d : PyData} : MtV .get (.dict kvs) [k, d] = gd (keyFor kvs k) (.ok (false, (lookD kvs k).getD d)) := by rfl
theorem keyFor_int {kvs : List (PyData × PyData)} {i : Int} : keyFor kvs (.int i) = true := by rfl
theorem keyFor_str {kvs : List (PyData × PyData)} {i : Str} : keyFor kvs (.str i) = true := by rfl
theorem keyPut_int {kvs : List (PyData × PyData)} {i : Int} : keyPut kvs (.int i) = true := by rfl
theorem keyPut_str {kvs : List (PyData × PyData)} {i : Str} : keyPut kvs (.str i) = true := by rfl
theorem ixV_L {xs : List PyData} {i : Int} : IxV (.list xs) (.int i) = (optV (atI xs i)).bind fun d => .ok (false, d) := by rfl
theorem ixV_T {xs : List PyData} {i : Int} : IxV (.tuple xs) (.int i) = (optV (atI xs i)).bind fun d => .ok (false, d) := by rfl
theorem ixV_D {kvs : List (PyData × PyData)} {k : PyData} : IxV (.dict kvs) k = gd (keyFor kvs k) ((optV (lookD kvs k)).bind fun d => .ok (false, d)) := by rfl
theorem slV_L {xs : List PyData} {a b : Option Int} : SlV (.list xs) a b = .ok (true, .list (cutD xs a b)) := by rfl
theorem slV_T {xs : List PyData} {a b : Option Int} : SlV (.tuple xs) a b = .ok (false, .tuple (cutD xs a b)) := by rfl
theorem revV_L {xs : List PyData} : revV (.list xs) = .ok (true, .list xs.reverse) := by rfl
theorem revV_T {xs : List PyData} : revV (.tuple xs) = .ok (false, .tuple xs.reverse) := by rfl
theorem tstV_int {α : Type} {i : Int} {f : Bool → Ev α} : tstV (.int i) f = f (i != 0) := by rfl
theorem tstV_none {α : Type} {f : Bool → Ev α} : tstV .none f = f false := by rfl
theorem tstV_list {α : Type} {xs : List PyData} {f : Bool → Ev α} : tstV (.list xs) f = f (!xs.isEmpty) := by rfl
theorem tstV_tuple {α : Type} {xs : List PyData} {f : Bool → Ev α} : tstV (.tuple xs) f = f (!xs.isEmpty) := by rfl
theorem lstO_list {xs : List PyData} : lstO (.list xs) = some xs := by rfl
theorem slot_sh {d : PyData} {r : Env} : slotV (.sh d :: r) 0 = .ok d := by rfl
theorem slot_ow {d : PyData} {r : Env} : slotV (.ow d :: r) 0 = .ok d := by rfl
theorem slot_succ {s : Sl} {r : Env} {n : Nat} : slotV (s :: r) (n + 1) = slotV r n := by rfl
theorem slotA_sh {d : PyData} {r : Env} : slotA (.sh d :: r) 0 = .ok (.sh d) := by rfl
theorem slotA_ow {d : PyData} {r : Env} : slotA (.ow d :: r) 0 = .ok (.sh d) := by rfl
theorem slotA_src {r : Env} : slotA (.src :: r) 0 = .ok .src := by rfl
theorem slotA_succ {s : Sl} {r : Env} {n : Nat} : slotA (s :: r) (n + 1) = slotA r n := by rfl
theorem intAt_sh {z : Int} {r : Env} : intAt (.sh (.int z) :: r) 0 = some z := by rfl
theorem intAt_succ {s : Sl} {r : Env} {n : Nat} : intAt (s :: r) (n + 1) = intAt r n := by rfl
theorem ownL_ow {xs : List PyData} {r : Env} : ownL (.ow (.list xs) :: r) 0 = some xs := by rfl
theorem ownL_succ {s : Sl} {r : Env} {n : Nat} : ownL (s :: r) (n + 1) = ownL r n := by rfl
theorem ownS_owL {xs : List PyData} {r : Env} {f : List PyData → Res} {g : List (PyData × PyData) → Res} : ownS (.ow (.list xs) :: r) 0 f g = f xs := by rfl
theorem ownS_owD {kvs : List (PyData × PyData)} {r : Env} {f : List PyData → Res} {g : List (PyData × PyData) → Res} : ownS (.ow (.dict kvs) :: r) 0 f g = g kvs := by rfl
theorem ownS_succ {s : Sl} {r : Env} {n : Nat} {f : List PyData → Res} {g : List (PyData × PyData) → Res} : ownS (s :: r) (n + 1) f g = ownS r n f g := by rfl
theorem retS_sh {d : PyData} {r : Env} : retS (.sh d :: r) 0 = .rt false d := by rfl
theorem retS_ow {d : PyData} {r : Env} : retS (.ow d :: r) 0 = .rt true d := by rfl
theorem retS_succ {s : Sl} {r : Env} {n : Nat} : retS (s :: r) (n + 1) = retS r n := by rfl
theorem is_isInt_I {i : Int} : PyData.isInt (.int i) = true := by rfl
theorem is_isInt_S {x : Str} : PyData.isInt (.str x) = false := by rfl
theorem is_isInt_B {b : Bool} : PyData.isInt (.bool b) = true := by rfl
theorem is_isInt_N  : PyData.isInt .none = false := by rfl
theorem is_isInt_L {xs : List PyData} : PyData.isInt (.list xs) = false := by rfl
theorem is_isInt_T {xs : List PyData} : PyData.isInt (.tuple xs) = false := by rfl
theorem is_isInt_D {ks : List (PyData × PyData)} : PyData.isInt (.dict ks) = false := by rfl
theorem is_isBool_I {i : Int} : PyData.isBool (.int i) = false := by rfl
theorem is_isBool_S {x : Str} : PyData.isBool (.str x) = false := by rfl
theorem is_isBool_B {b : Bool} : PyData.isBool (.bool b) = true := by rfl
theorem is_isBool_N  : PyData.isBool .none = false := by rfl
theorem is_isBool_L {xs : List PyData} : PyData.isBool (.list xs) = false := by rfl
theorem is_isBool_T {xs : List PyData} : PyData.isBool (.tuple xs) = false := by rfl
theorem is_isBool_D {ks : List (PyData × PyData)} : PyData.isBool (.dict ks) = false := by rfl
theorem is_isTuple_I {i : Int} : PyData.isTuple (.int i) = false := by rfl
theorem is_isTuple_S {x : Str} : PyData.isTuple (.str x) = false := by rfl
theorem is_isTuple_B {b : Bool} : PyData.isTuple (.bool b) = false := by rfl
theorem is_isTuple_N  : PyData.isTuple .none = false := by rfl
theorem is_isTuple_L {xs : List PyData} : PyData.isTuple (.list xs) = false := by rfl
theorem is_isTuple_T {xs : List PyData} : PyData.isTuple (.tuple xs) = true := by rfl
theorem is_isTuple_D {ks : List (PyData × PyData)} : PyData.isTuple (.dict ks) = false := by rfl
theorem is_isStr_I {i : Int} : PyData.isStr (.int i) = false := by rfl
theorem is_isStr_S {x : Str} : PyData.isStr (.str x) = true := by rfl
theorem is_isStr_B {b : Bool} : PyData.isStr (.bool b) = false := by rfl
theorem is_isStr_N  : PyData.isStr .none = false := by rfl
theorem is_isStr_L {xs : List PyData} : PyData.isStr (.list xs) = false := by rfl
theorem is_isStr_T {xs : List PyData} : PyData.isStr (.tuple xs) = false := by rfl
theorem is_isStr_D {ks : List (PyData × PyData)} : PyData.isStr (.dict ks) = false := by rfl
theorem is_isList_I {i : Int} : PyData.isList (.int i) = false := by rfl
theorem is_isList_S {x : Str} : PyData.isList (.str x) = false := by rfl
theorem is_isList_B {b : Bool} : PyData.isList (.bool b) = false := by rfl
theorem is_isList_N  : PyData.isList .none = false := by rfl
theorem is_isList_L {xs : List PyData} : PyData.isList (.list xs) = true := by rfl
theorem is_isList_T {xs : List PyData} : PyData.isList (.tuple xs) = false := by rfl
theorem is_isList_D {ks : List (PyData × PyData)} : PyData.isList (.dict ks) = false := by rfl
theorem is_isDict_I {i : Int} : PyData.isDict (.int i) = false := by rfl
theorem is_isDict_S {x : Str} : PyData.isDict (.str x) = false := by rfl
theorem is_isDict_B {b : Bool} : PyData.isDict (.bool b) = false := by rfl
theorem is_isDict_N  : PyData.isDict .none = false := by rfl
theorem is_isDict_L {xs : List PyData} : PyData.isDict (.list xs) = false := by rfl
theorem is_isDict_T {xs : List PyData} : PyData.isDict (.tuple xs) = false := by rfl
theorem is_isDict_D {ks : List (PyData × PyData)} : PyData.isDict (.dict ks) = true := by rfl
theorem toNat_0  : Int.toNat 0 = 0 := by rfl
theorem toNat_1  : Int.toNat 1 = 1 := by rfl
theorem toNat_2  : Int.toNat 2 = 2 := by rfl
theorem toNat_3  : Int.toNat 3 = 3 := by rfl
theorem toNat_4  : Int.toNat 4 = 4 := by rfl
theorem toNat_5  : Int.toNat 5 = 5 := by rfl
theorem toNat_6  : Int.toNat 6 = 6 := by rfl
theorem toNat_7  : Int.toNat 7 = 7 := by rfl
theorem toNat_8  : Int.toNat 8 = 8 := by rfl
theorem toNat_9  : Int.toNat 9 = 9 := by rfl
theorem toNat_10  : Int.toNat 10 = 10 := by rfl
theorem toNat_11  : Int.toNat 11 = 11 := by rfl
theorem toNat_12  : Int.toNat 12 = 12 := by rfl
theorem toNat_13  : Int.toNat 13 = 13 := by rfl
theorem toNat_14  : Int.toNat 14 = 14 := by rfl
theorem toNat_15  : Int.toNat 15 = 15 := by rfl
theorem toNat_16  : Int.toNat 16 = 16 := by rfl
theorem toNat_17  : Int.toNat 17 = 17 := by rfl
theorem toNat_18  : Int.toNat 18 = 18 := by rfl
theorem toNat_19  : Int.toNat 19 = 19 := by rfl
theorem toNat_20  : Int.toNat 20 = 20 := by rfl
theorem toNat_21  : Int.toNat 21 = 21 := by rfl
theorem toNat_22  : Int.toNat 22 = 22 := by rfl
theorem toNat_23  : Int.toNat 23 = 23 := by rfl
theorem toNat_24  : Int.toNat 24 = 24 := by rfl
theorem toNat_25  : Int.toNat 25 = 25 := by rfl
theorem toNat_26  : Int.toNat 26 = 26 := by rfl
theorem toNat_27  : Int.toNat 27 = 27 := by rfl
theorem toNat_28  : Int.toNat 28 = 28 := by rfl
theorem toNat_29  : Int.toNat 29 = 29 := by rfl
theorem toNat_30  : Int.toNat 30 = 30 := by rfl
theorem toNat_31  : Int.toNat 31 = 31 := by rfl
theorem toNat_32  : Int.toNat 32 = 32 := by rfl
theorem toNat_33  : Int.toNat 33 = 33 := by rfl
theorem toNat_34  : Int.toNat 34 = 34 := by rfl
theorem toNat_35  : Int.toNat 35 = 35 := by rfl
theorem toNat_36  : Int.toNat 36 = 36 := by rfl
theorem toNat_37  : Int.toNat 37 = 37 := by rfl
theorem toNat_38  : Int.toNat 38 = 38 := by rfl
theorem toNat_39  : Int.toNat 39 = 39 := by rfl
theorem toNat_40  : Int.toNat 40 = 40 := by rfl
theorem cast_0  : (((0 : Nat)) : Int) = 0 := by rfl
theorem cast_1  : (((1 : Nat)) : Int) = 1 := by rfl
theorem cast_2  : (((2 : Nat)) : Int) = 2 := by rfl
theorem cast_3  : (((3 : Nat)) : Int) = 3 := by rfl
theorem cast_4  : (((4 : Nat)) : Int) = 4 := by rfl
theorem cast_5  : (((5 : Nat)) : Int) = 5 := by rfl
theorem cast_6  : (((6 : Nat)) : Int) = 6 := by rfl
theorem cast_7  : (((7 : Nat)) : Int) = 7 := by rfl
theorem cast_8  : (((8 : Nat)) : Int) = 8 := by rfl
theorem cast_9  : (((9 : Nat)) : Int) = 9 := by rfl
theorem cast_10  : (((10 : Nat)) : Int) = 10 := by rfl
theorem cast_11  : (((11 : Nat)) : Int) = 11 := by rfl
theorem cast_12  : (((12 : Nat)) : Int) = 12 := by rfl
theorem cast_13  : (((13 : Nat)) : Int) = 13 := by rfl
theorem cast_14  : (((14 : Nat)) : Int) = 14 := by rfl
theorem cast_15  : (((15 : Nat)) : Int) = 15 := by rfl
theorem cast_16  : (((16 : Nat)) : Int) = 16 := by rfl
theorem cast_17  : (((17 : Nat)) : Int) = 17 := by rfl
theorem cast_18  : (((18 : Nat)) : Int) = 18 := by rfl
theorem cast_19  : (((19 : Nat)) : Int) = 19 := by rfl
theorem leN_0  : leN 0 lim = true := by rfl
theorem leN_1  : leN 1 lim = true := by rfl
theorem leN_2  : leN 2 lim = true := by rfl
theorem leN_3  : leN 3 lim = true := by rfl
theorem leN_4  : leN 4 lim = true := by rfl
theorem leN_5  : leN 5 lim = true := by rfl
theorem leN_6  : leN 6 lim = true := by rfl
theorem leN_7  : leN 7 lim = true := by rfl
theorem leN_8  : leN 8 lim = true := by rfl
theorem leN_9  : leN 9 lim = true := by rfl
theorem leN_10  : leN 10 lim = true := by rfl
theorem leN_11  : leN 11 lim = true := by rfl
theorem leN_12  : leN 12 lim = true := by rfl
theorem leN_13  : leN 13 lim = true := by rfl
theorem leN_14  : leN 14 lim = true := by rfl
theorem leN_15  : leN 15 lim = true := by rfl
theorem leN_16  : leN 16 lim = true := by rfl
theorem leN_17  : leN 17 lim = true := by rfl
theorem leN_18  : leN 18 lim = true := by rfl
theorem leN_19  : leN 19 lim = true := by rfl
theorem leN_20  : leN 20 lim = true := by rfl
theorem leN_21  : leN 21 lim = true := by rfl
theorem leN_22  : leN 22 lim = true := by rfl
theorem leN_23  : leN 23 lim = true := by rfl
end DL
set_option Elab.async false
set_option linter.all false
set_option maxRecDepth 100000
set_option maxHeartbeats 4000000
/-! E5: loops over numbers and over known lists. -/
namespace DL
open PySem PySem.Spec PyProof.Rows L2
theorem gd_pos {α : Type} {c : Bool} {r : Ev α} (h : c = true) : gd c r = r := by subst h; rfl
theorem gdR_pos {c : Bool} {r : Res} (h : c = true) : gdR c r = r := by subst h; rfl
theorem gd_neg {α : Type} {c : Bool} {r : Ev α} (h : c = false) : gd c r = .bad := by subst h; rfl
theorem leN_pos {a b : Nat} (h : a ≤ b) : leN a b = true := leN_iff.mpr h
/-- over the numbers below n: on, or out -/
theorem forV_rngG {step : PyData → Env → Res} {R : Res → Prop} {n : Nat} {env : Env} (I : Nat → Env → Prop) (h0 : I 0 env)
    (hs : ∀ i e, i < n → I i e → (∃ e', (step (.int (i : Nat)) e = .nx e' ∨ step (.int (i : Nat)) e = .ct e') ∧ I (i + 1) e') ∨ ∃ r, outR (step (.int (i : Nat)) e) = some r ∧ R r) (he : ∀ e, I n e → R (.nx e)) : R (forV step (intsD 0 n) env) :=
  forV_gen I h0 (fun i x e hx hi => by
    obtain ⟨h1, rfl⟩ := intsD_get hx
    rw [Int.zero_add]
    exact hs i e h1 hi) fun e h => he e (by rw [intsD_length] at h; exact h)
theorem forV_rng {step : PyData → Env → Res} {R : Res → Prop} {n : Nat} {env : Env} (I : Nat → Env → Prop) (h0 : I 0 env)
    (hs : ∀ i e, i < n → I i e → ∃ e', step (.int (i : Nat)) e = .nx e' ∧ I (i + 1) e') (he : ∀ e, I n e → R (.nx e)) : R (forV step (intsD 0 n) env) :=
  forV_rngG I h0 (fun i e hi h => by obtain ⟨e', h1, h2⟩ := hs i e hi h; exact .inl ⟨e', .inl h1, h2⟩) he
theorem forV_lstG {α : Type} {step : PyData → Env → Res} {R : Res → Prop} {em : α → PyData} {xs : List α} {env : Env} (I : Nat → Env → Prop) (h0 : I 0 env)
    (hs : ∀ i e (h : i < xs.length), I i e → (∃ e', (step (em xs[i]) e = .nx e' ∨ step (em xs[i]) e = .ct e') ∧ I (i + 1) e') ∨ ∃ r, outR (step (em xs[i]) e) = some r ∧ R r) (he : ∀ e, I xs.length e → R (.nx e)) : R (forV step (xs.map em) env) :=
  forV_gen I h0 (fun i x e hx hi => by
    rw [List.getElem?_map, Option.map_eq_some_iff] at hx
    obtain ⟨y, hy, rfl⟩ := hx
    obtain ⟨h1, rfl⟩ := List.getElem?_eq_some_iff.mp hy
    exact hs i e h1 hi) fun e h => he e (by rw [List.length_map] at h; exact h)
theorem forV_lst {α : Type} {step : PyData → Env → Res} {R : Res → Prop} {em : α → PyData} {xs : List α} {env : Env} (I : Nat → Env → Prop) (h0 : I 0 env)
    (hs : ∀ i e (h : i < xs.length), I i e → ∃ e', step (em xs[i]) e = .nx e' ∧ I (i + 1) e') (he : ∀ e, I xs.length e → R (.nx e)) : R (forV step (xs.map em) env) :=
  forV_lstG I h0 (fun i e hi h => by obtain ⟨e', h1, h2⟩ := hs i e hi h; exact .inl ⟨e', .inl h1, h2⟩) he
theorem filV_ints {f : PyData → Ev (Option PyData)} (g : Nat → PyData) {n : Nat} (h : ∀ i < n, f (.int (i : Nat)) = .ok (some (g i))) : filV f (intsD 0 n) = .ok ((List.range n).map g) := by
  have e : intsD 0 n = (List.range n).map fun i => PyData.int (i : Nat) := by
    unfold intsD
    congr 1
    funext i
    rw [Int.zero_add]
  rw [e]
  exact filV_map g fun i hi => h i (List.mem_range.mp hi)
theorem intsD_map (n : Nat) : intsD 0 n = (List.range n).map fun i => PyData.int (i : Nat) := by
  unfold intsD
  congr 1
  funext i
  rw [Int.zero_add]
/-- a while loop that only goes on or ends; what is wanted of it -/
theorem whlV_R {σ : Type} {t : Env → Ev (Bool × Env)} {b : Env → Res} {R : Res → Prop} (S : σ → Env → Prop) (μ : σ → Nat) {s : σ} {env : Env} (h0 : S s env) (hμ : μ s < fuel)
    (hs : ∀ s e, S s e → (∃ e', t e = .ok (false, e') ∧ R (.nx e')) ∨ ∃ e' s' e2, t e = .ok (true, e') ∧ (b e' = .nx e2 ∨ b e' = .ct e2) ∧ S s' e2 ∧ μ s' < μ s) : R (whlV t b fuel env) :=
  whlV_gen S μ (fun s e h => by
    rcases hs s e h with ⟨e', h1, h2⟩ | ⟨e', s', e2, h1, h2, h3, h4⟩
    · exact .inl ⟨e', h1, h2⟩
    · exact .inr ⟨e', h1, .inl ⟨s', e2, h2, h3, h4⟩⟩) fuel s env h0 hμ
end DL
set_option Elab.async false
set_option linter.all false
set_option maxRecDepth 100000
set_option maxHeartbeats 4000000
/-! E6: down to what is computed first. -/
namespace DL
open PySem PySem.Spec PyProof.Rows L2
abbrev No : Str → Prop := fun _ => False
theorem bind_of {α β : Type} {r : Ev α} {f : α → Ev β} {Q : β → Prop} {E : Str → Prop} (h : r.wp (fun a => (f a).wp Q E) E) : (r.bind f).wp Q E := by
  induction r with
  | pk m k ih => exact ⟨h.1, fun r hr => ih r (h.2 r hr)⟩
  | _ => exact h
theorem noex_of {α : Type} {r : Ev α} {Q : α → Prop} {E : Str → Prop} (h : r.wp Q No) : (noex r).wp Q E := by
  induction r with
  | ok a => exact h
  | ex s => exact h
  | bad => exact h
  | pk m k ih => exact ⟨h.1, fun r hr => ih r (h.2 r hr)⟩
theorem evk_of {α : Type} {r : Ev α} {f : α → Res} {k : Kp} (h : r.wp (fun a => (f a).wp k) k.ex) : (evk r f).wp k := by
  induction r with
  | pk m g ih => exact ⟨h.1, fun r hr => ih r (h.2 r hr)⟩
  | _ => exact h
theorem thn_of {F : Nat → FV} {x : Res} {r : Sms} {k : Kp} (h : x.wp { k with nx := fun e => (r.ev F e).wp k }) : (x.thn F r).wp k := by
  induction x with
  | pk m g ih => exact ⟨h.1, fun r hr => ih r (h.2 r hr)⟩
  | _ => exact h
theorem gd_of {α : Type} {c : Bool} {r : Ev α} {Q : α → Prop} {E : Str → Prop} (hc : c = true) (h : r.wp Q E) : (gd c r).wp Q E := by subst hc; exact h
theorem gdR_of {c : Bool} {r : Res} {k : Kp} (hc : c = true) (h : r.wp k) : (gdR c r).wp k := by subst hc; exact h
/-- another's promise -/
theorem Ev.wp.no {α : Type} {r : Ev α} {P Q : α → Prop} {E : Str → Prop} (h : r.wp P No) (k : ∀ a, P a → Q a) : r.wp Q E := h.imp2 k fun _ z => z.elim
theorem sm_nat {m : Nat} (h : m < 2 ^ 1000) : smP (m : Int) := by
  unfold smP
  rw [Int.natAbs_natCast]
  by_cases z : m = 0
  · subst z; decide
  · have := (Nat.log2_lt z).mpr h
    omega
theorem rng_nat {m : Nat} {r : Int} (h : RngP (m : Int) r) (m1 : 1 ≤ m) : ∃ n : Nat, r = (n : Int) ∧ n < m := by
  obtain ⟨n, rfl⟩ := Int.eq_ofNat_of_zero_le h.1
  have := h.2.1 (by omega)
  exact ⟨n, rfl, by omega⟩
/-- a pick below m -/
theorem pk_nat {α : Type} {m : Int} {g : Int → Ev α} {Q : α → Prop} {E : Str → Prop} (n : Nat) (e : m = (n : Int)) (h1 : 1 ≤ n) (h2 : n < 2 ^ 1000) (h : ∀ r : Nat, r < n → (g (r : Nat)).wp Q E) : (Ev.pk m g).wp Q E := by
  subst e
  refine ⟨sm_nat h2, fun r hr => ?_⟩
  obtain ⟨a, rfl, ha⟩ := rng_nat hr h1
  exact h a ha
theorem pkR_nat {m : Int} {g : Int → Res} {k : Kp} (n : Nat) (e : m = (n : Int)) (h1 : 1 ≤ n) (h2 : n < 2 ^ 1000) (h : ∀ r : Nat, r < n → (g (r : Nat)).wp k) : (Res.pk m g).wp k := by
  subst e
  refine ⟨sm_nat h2, fun r hr => ?_⟩
  obtain ⟨a, rfl, ha⟩ := rng_nat hr h1
  exact h a ha
/-- a slot not looked at again -/
def jk (t : Sl) : Sl := t
theorem frzL_jk {vs k t r} : frzL vs k (jk t :: r) = jk (frzO vs k t) :: frzL vs (k + 1) r := (rfl)
theorem lt1000 {m : Nat} (h : m ≤ 2 ^ 60) : m < 2 ^ 1000 := Nat.lt_of_le_of_lt h (by decide)
theorem atI_nat {ds : List PyData} {r : Nat} (hr : r < ds.length) : atI ds (r : Nat) = some ds[r] := by
  unfold atI ixN
  rw [if_pos (by omega), if_pos (by omega), Option.bind_some, Int.toNat_natCast]
  exact List.getElem?_eq_getElem hr
end DL
set_option Elab.async false
set_option linter.all false
set_option maxRecDepth 100000
set_option maxHeartbeats 4000000
/-! E7: data that may be compared, shown, put in order. -/
namespace DL
open PySem PySem.Spec PyProof.Rows L2
/-- may be compared, of depth k -/
def dok (k : Nat) (d : PyData) : Prop := d.canLay0 = true ∧ d.depth ≤ k
theorem dok_int {k : Nat} {i : Int} : dok k (.int i) := ⟨rfl, Nat.zero_le _⟩
theorem dok_bool {k : Nat} {i : Bool} : dok k (.bool i) := ⟨rfl, Nat.zero_le _⟩
theorem dok_none {k : Nat} : dok k .none := ⟨rfl, Nat.zero_le _⟩
theorem layAll {xs : List PyData} (h : ∀ x ∈ xs, x.canLay0 = true) : PyData.canLayAll0 xs = true := by
  induction xs with
  | nil => rfl
  | cons x xs ih => simp only [PyData.canLayAll0, h x (List.mem_cons_self ..), ih fun y hy => h y (List.mem_cons_of_mem _ hy), Bool.and_self]
theorem depAll {k : Nat} {xs : List PyData} (h : ∀ x ∈ xs, x.depth ≤ k) : PyData.depthAll xs ≤ k := by
  induction xs with
  | nil => exact Nat.zero_le _
  | cons x xs ih => simp only [PyData.depthAll]; exact Nat.max_le.mpr ⟨h x (List.mem_cons_self ..), ih fun y hy => h y (List.mem_cons_of_mem _ hy)⟩
theorem dok_list {k : Nat} {xs : List PyData} (h : ∀ x ∈ xs, dok k x) : dok (k + 1) (.list xs) :=
  ⟨by simp only [PyData.canLay0]; exact layAll fun x hx => (h x hx).1, by simp only [PyData.depth]; exact Nat.succ_le_succ (depAll fun x hx => (h x hx).2)⟩
theorem dok_tuple {k : Nat} {xs : List PyData} (h : ∀ x ∈ xs, dok k x) : dok (k + 1) (.tuple xs) :=
  ⟨by simp only [PyData.canLay0]; exact layAll fun x hx => (h x hx).1, by simp only [PyData.depth]; exact Nat.succ_le_succ (depAll fun x hx => (h x hx).2)⟩
theorem dok.mono {k l : Nat} {d : PyData} (h : dok k d) (kl : k ≤ l) : dok l d := ⟨h.1, Nat.le_trans h.2 kl⟩
theorem shaped_of {k : Nat} {d : PyData} (h : dok k d) (kl : k ≤ 64) : SeqAt.shaped d = true := by
  unfold SeqAt.shaped
  rw [h.1, Bool.true_and, decide_eq_true_eq]
  exact Nat.le_trans h.2 kl
theorem shaped_str {x : Str} (h : PyData.strOk x = true) : SeqAt.shaped (.str x) = true := shaped_of (k := 0) ⟨h, Nat.zero_le _⟩ (by decide)
theorem sh_int {i : Int} : SeqAt.shaped (.int i) = true := (rfl)
theorem sh_bool {i : Bool} : SeqAt.shaped (.bool i) = true := (rfl)
theorem sh_none : SeqAt.shaped .none = true := (rfl)
theorem sh_nilL : SeqAt.shaped (.list []) = true := (rfl)
theorem sh_nilT : SeqAt.shaped (.tuple []) = true := (rfl)
theorem eqv_nilL {xs : List PyData} : PyData.eqv (.list xs) (.list []) = xs.isEmpty := by
  cases xs <;> rfl
theorem eqv_nilT {xs : List PyData} : PyData.eqv (.tuple xs) (.tuple []) = xs.isEmpty := by
  cases xs <;> rfl
theorem eqvAll_map {α : Type} [DecidableEq α] {em : α → PyData} (h : ∀ a b, PyData.eqv (em a) (em b) = decide (a = b)) : ∀ xs ys : List α, PyData.eqvAll (xs.map em) (ys.map em) = decide (xs = ys)
  | [], [] => rfl
  | [], y :: ys => rfl
  | x :: xs, [] => rfl
  | x :: xs, y :: ys => by
    simp only [List.map_cons, PyData.eqvAll, h x y, eqvAll_map h xs ys, List.cons.injEq, Bool.decide_and]
theorem eqv_listM {α : Type} [DecidableEq α] {em : α → PyData} (h : ∀ a b, PyData.eqv (em a) (em b) = decide (a = b)) (xs ys : List α) : PyData.eqv (.list (xs.map em)) (.list (ys.map em)) = decide (xs = ys) := by
  simp only [PyData.eqv, eqvAll_map h]
theorem eqv_tupleM {α : Type} [DecidableEq α] {em : α → PyData} (h : ∀ a b, PyData.eqv (em a) (em b) = decide (a = b)) (xs ys : List α) : PyData.eqv (.tuple (xs.map em)) (.tuple (ys.map em)) = decide (xs = ys) := by
  simp only [PyData.eqv, eqvAll_map h]
theorem eqv_nat (i j : Nat) : PyData.eqv (.int (i : Int)) (.int (j : Int)) = decide (i = j) := by
  simp only [PyData.eqv]
  by_cases h : i = j
  · subst h; simp
  · have h' : ((i : Int) == (j : Int)) = false := by simp only [beq_eq_false_iff_ne]; omega
    rw [h', decide_eq_false h]
/-! ### what is shown -/
theorem digits_le (n k : Nat) (hk : 0 < k) (h : n < 10 ^ k) : (toString n).length ≤ k := by
  have e : toString n = String.ofList (Nat.toDigits 10 n) := rfl
  rw [e, String.length_ofList]
  exact (Nat.length_toDigits_le_iff (by decide) hk).mpr h
theorem ten_pow (k : Nat) : 2 ^ k ≤ 10 ^ k := Nat.pow_le_pow_left (by decide) k
theorem int_len {i : Int} {k : Nat} (hk : 0 < k) (h : i.natAbs < 2 ^ k) : (toString i).length ≤ k + 1 := by
  have t := ten_pow k
  cases i with
  | ofNat n => exact Nat.le_succ_of_le (digits_le n k hk (by simp at h; omega))
  | negSucc n =>
    have e : (toString (Int.negSucc n)) = "-" ++ toString (n + 1) := rfl
    rw [e, String.length_append]
    have := digits_le (n + 1) k hk (by simp at h; omega)
    have e1 : ("-" : String).length = 1 := rfl
    omega
theorem join_len (s : Str) (m : Nat) : ∀ {ts : List Str}, (∀ t ∈ ts, t.length ≤ m) → (s.join ts).length ≤ ts.length * (m + s.length)
  | [], _ => Nat.zero_le _
  | [t], h => by
    have := h t (List.mem_cons_self ..)
    show t.length ≤ 1 * _
    omega
  | t :: u :: r, h => by
    have h1 := h t (List.mem_cons_self ..)
    have h2 := join_len s m (ts := u :: r) fun x hx => h x (List.mem_cons_of_mem _ hx)
    have e : s.join (t :: u :: r) = t ++ s ++ s.join (u :: r) := rfl
    rw [e, Str.length_append, Str.length_append, List.length_cons, Nat.succ_mul]
    omega
theorem so_ofString (s : String) : PyData.strOk (Str.ofString s) = true := by
  rw [PySem.Str.ofString_eq_toList]
  unfold PyData.strOk
  simp only [Array.all_eq_true', List.mem_toArray, List.mem_map, forall_exists_index, and_imp, forall_apply_eq_imp_iff₂, decide_eq_true_eq]
  intro c _
  have := c.valid
  rcases this with h | h
  · exact Nat.lt_trans h (by decide)
  · exact h.2
theorem so_app {a b : Str} (ha : PyData.strOk a = true) (hb : PyData.strOk b = true) : PyData.strOk (a ++ b) = true := by
  unfold PyData.strOk at *
  show (a.cps ++ b.cps).all _ = true
  rw [Array.all_append, ha, hb]
  rfl
theorem so_join {s : Str} (hs : PyData.strOk s = true) : ∀ {ts : List Str}, (∀ t ∈ ts, PyData.strOk t = true) → PyData.strOk (s.join ts) = true
  | [], _ => so_ofString ""
  | [t], h => h t (List.mem_cons_self ..)
  | t :: u :: r, h => by
    have e : s.join (t :: u :: r) = t ++ s ++ s.join (u :: r) := rfl
    rw [e]
    exact so_app (so_app (h t (List.mem_cons_self ..)) hs) (so_join hs fun x hx => h x (List.mem_cons_of_mem _ hx))
theorem so_mem {xs : List PyData} (h : ∀ x ∈ xs, PyData.strOk x.shown = true) : ∀ t ∈ PyData.shownAll xs, PyData.strOk t = true := by
  induction xs with
  | nil => intro t ht; simp [PyData.shownAll] at ht
  | cons x xs ih =>
    intro t ht
    simp only [PyData.shownAll, List.mem_cons] at ht
    rcases ht with rfl | ht
    · exact h x (List.mem_cons_self ..)
    · exact ih (fun y hy => h y (List.mem_cons_of_mem _ hy)) t ht
/-- may be shown: of depth k, in m signs -/
structure rok (k m : Nat) (d : PyData) : Prop where
  s : d.showable = true
  l : d.shown.length ≤ m
  dep : d.depth ≤ k
  o : PyData.strOk d.shown = true
theorem sh_shown {k m : Nat} {d : PyData} (h : rok k m d) : SeqAt.shaped (.str d.shown) = true := shaped_str h.o
theorem rok.mono {k m k' m' : Nat} {d : PyData} (h : rok k m d) (a : k ≤ k') (b : m ≤ m') : rok k' m' d := ⟨h.s, Nat.le_trans h.l b, Nat.le_trans h.dep a, h.o⟩
theorem okRB_of {k m : Nat} {d : PyData} (h : rok k m d) (a : k ≤ 60) (b : m ≤ 16000000) : okRB d = true := by
  unfold okRB
  rw [h.s, Bool.true_and, Bool.and_eq_true, decide_eq_true_eq]
  exact ⟨leN_pos (Nat.le_trans h.l (Nat.le_trans b (by rw [sizeLine_eq]; decide))), Nat.le_trans h.dep a⟩
theorem shown_len (xs : List PyData) : (PyData.shownAll xs).length = xs.length := by
  induction xs with
  | nil => rfl
  | cons x xs ih => simp only [PyData.shownAll, List.length_cons, ih]
theorem shown_mem {m : Nat} {xs : List PyData} (h : ∀ x ∈ xs, x.shown.length ≤ m) : ∀ t ∈ PyData.shownAll xs, t.length ≤ m := by
  induction xs with
  | nil => intro t ht; simp [PyData.shownAll] at ht
  | cons x xs ih =>
    intro t ht
    simp only [PyData.shownAll, List.mem_cons] at ht
    rcases ht with rfl | ht
    · exact h x (List.mem_cons_self ..)
    · exact ih (fun y hy => h y (List.mem_cons_of_mem _ hy)) t ht
theorem showAll {xs : List PyData} (h : ∀ x ∈ xs, x.showable = true) : PyData.showableAll xs = true := by
  induction xs with
  | nil => rfl
  | cons x xs ih => simp only [PyData.showableAll, h x (List.mem_cons_self ..), ih fun y hy => h y (List.mem_cons_of_mem _ hy), Bool.and_self]
theorem rok_int {b : Nat} {i : Int} (hb : b ≤ 1900) (h : i.natAbs < 2 ^ b) : rok 0 (b + 2) (.int i) := by
  refine ⟨?_, ?_, Nat.zero_le _, by simp only [PyData.shown]; exact so_ofString _⟩
  · simp only [PyData.showable, decide_eq_true_eq]
    by_cases z : i.natAbs = 0
    · rw [z]; decide
    · have := (Nat.log2_lt z).mpr h
      omega
  · simp only [PyData.shown]
    rw [PySem.ofString_length]
    have := int_len (k := b + 1) (by omega) (Nat.lt_of_lt_of_le h (Nat.pow_le_pow_right (by decide) (by omega)))
    omega
theorem rok_bool {b : Bool} : rok 0 5 (.bool b) := by cases b <;> exact ⟨rfl, by decide, Nat.zero_le _, by decide +kernel⟩
theorem rok_none : rok 0 4 .none := ⟨rfl, by decide, Nat.zero_le _, by decide +kernel⟩
theorem rok_list {k m n : Nat} {xs : List PyData} (h : ∀ x ∈ xs, rok k m x) (hn : xs.length ≤ n) : rok (k + 1) (n * (m + 2) + 2) (.list xs) := by
  refine ⟨by simp only [PyData.showable]; exact showAll fun x hx => (h x hx).s, ?_, by simp only [PyData.depth]; exact Nat.succ_le_succ (depAll fun x hx => (h x hx).dep), ?_⟩
  rotate_left
  · simp only [PyData.shown]
    rw [listText_eq_join]
    exact so_app (so_app (so_ofString _) (so_join (so_ofString _) (so_mem fun x hx => (h x hx).o))) (so_ofString _)
  simp only [PyData.shown]
  rw [listText_eq_join, Str.length_append, Str.length_append]
  have h1 := join_len (Str.ofString ", ") m (shown_mem fun x hx => (h x hx).l)
  have e1 : (Str.ofString "[").length = 1 := by rw [PySem.ofString_length]; rfl
  have e2 : (Str.ofString "]").length = 1 := by rw [PySem.ofString_length]; rfl
  have e3 : (Str.ofString ", ").length = 2 := by rw [PySem.ofString_length]; rfl
  rw [shown_len, e3] at h1
  have := Nat.mul_le_mul_right (m + 2) hn
  omega
theorem rok_tuple {k m n : Nat} {xs : List PyData} (h : ∀ x ∈ xs, rok k m x) (hn : xs.length ≤ n) : rok (k + 1) (n * (m + 2) + 3) (.tuple xs) := by
  refine ⟨by simp only [PyData.showable]; exact showAll fun x hx => (h x hx).s, ?_, by simp only [PyData.depth]; exact Nat.succ_le_succ (depAll fun x hx => (h x hx).dep), ?_⟩
  rotate_left
  · simp only [PyData.shown]
    unfold tupleText
    exact so_app (so_app (so_ofString _) (so_join (so_ofString _) (so_mem fun x hx => (h x hx).o))) (so_ofString _)
  simp only [PyData.shown]
  unfold tupleText
  rw [Str.length_append, Str.length_append]
  have h1 := join_len (Str.ofString ", ") m (shown_mem fun x hx => (h x hx).l)
  have e1 : (Str.ofString "(").length = 1 := by rw [PySem.ofString_length]; rfl
  have e2 : (Str.ofString (if ((PyData.shownAll xs).length == 1) = true then ",)" else ")")).length ≤ 2 := by
    rw [PySem.ofString_length]; split <;> decide
  have e3 : (Str.ofString ", ").length = 2 := by rw [PySem.ofString_length]; rfl
  rw [shown_len, e3] at h1
  have := Nat.mul_le_mul_right (m + 2) hn
  omega
/-! ### put in order -/
theorem okMB_ints (ns : List Int) : okMB (ns.map PyData.int) = true := by
  unfold okMB alikeB
  rw [PySem.W.depth_ints]
  simp only [Bool.and_eq_true, List.all_eq_true]
  refine ⟨⟨fun d hd => fun e he => ?_, fun d hd => ?_⟩, by decide⟩
  · obtain ⟨i, _, rfl⟩ := List.mem_map.mp hd
    obtain ⟨j, _, rfl⟩ := List.mem_map.mp he
    rfl
  · obtain ⟨i, _, rfl⟩ := List.mem_map.mp hd
    rfl
theorem okSB_ints (ns : List Int) : okSB (ns.map PyData.int) = true := by
  unfold okSB
  rw [okMB_ints, Bool.true_and, Bool.or_eq_true]
  right
  rw [List.all_eq_true]
  intro d hd
  obtain ⟨i, _, rfl⟩ := List.mem_map.mp hd
  rfl
theorem filV_mapD {f : PyData → Ev (Option PyData)} (g : PyData → PyData) {xs : List PyData} (h : ∀ x ∈ xs, f x = .ok (some (g x))) : filV f xs = .ok (xs.map g) := by
  have := filV_map (em := _root_.id) g (xs := xs) h
  rwa [List.map_id] at this
theorem filV_filD {f : PyData → Ev (Option PyData)} (t : PyData → Bool) (g : PyData → PyData) {xs : List PyData} (h : ∀ x ∈ xs, f x = .ok (cond (t x) (some (g x)) none)) : filV f xs = .ok ((xs.filter t).map g) := by
  have := filV_filter (em := _root_.id) t g (xs := xs) h
  rwa [List.map_id] at this
theorem allBools_map {α : Type} (f : α → Bool) : ∀ ds : List α, allBools (ds.map fun d => .bool (f d)) = some (ds.map f)
  | [] => rfl
  | d :: ds => by rw [List.map_cons, allBools, allBools_map f ds]; rfl
theorem all_map_id {α : Type} (f : α → Bool) (ds : List α) : (ds.map f).all _root_.id = ds.all f := by rw [List.all_map]; rfl
theorem dok_ones {α : Type} {xs : List α} : dok 1 (.list (xs.map fun _ => PyData.int 1)) := dok_list fun x hx => by obtain ⟨_, _, rfl⟩ := List.mem_map.mp hx; exact dok_int
theorem sh_ones {α : Type} {xs : List α} : SeqAt.shaped (.list (xs.map fun _ => PyData.int 1)) = true := shaped_of dok_ones (by decide)
theorem filt_empty {α : Type} (t : α → Bool) (g : α → PyData) (xs : List α) : ((xs.filter t).map g).isEmpty = xs.all fun x => !t x := by
  induction xs with
  | nil => rfl
  | cons x xs ih =>
    rw [List.filter_cons, List.all_cons]
    cases t x with
    | true => rfl
    | false => exact ih
end DL
set_option Elab.async false
set_option linter.all false
set_option maxRecDepth 100000
set_option maxHeartbeats 4000000
/-! E8: what is wanted of a computation, closed: it is opened by these rules alone. -/
namespace DL
open PySem PySem.Spec PyProof.Rows L2
@[irreducible] def Ev.wq {α : Type} (r : Ev α) (Q : α → Prop) (E : Str → Prop) : Prop := r.wp Q E
@[irreducible] def Res.wq (r : Res) (k : Kp) : Prop := r.wp k
theorem Ev.wq_iff {α : Type} {r : Ev α} {Q : α → Prop} {E : Str → Prop} : r.wq Q E ↔ r.wp Q E := by
  unfold Ev.wq
  exact Iff.rfl
theorem Res.wq_iff {r : Res} {k : Kp} : r.wq k ↔ r.wp k := by
  unfold Res.wq
  exact Iff.rfl
theorem Ev.wq.imp2 {α : Type} {r : Ev α} {Q Q' : α → Prop} {E E' : Str → Prop} (h : r.wq Q E) (k : ∀ a, Q a → Q' a) (l : ∀ s, E s → E' s) : r.wq Q' E' := Ev.wq_iff.mpr ((Ev.wq_iff.mp h).imp2 k l)
theorem Ev.wq.imp {α : Type} {r : Ev α} {Q Q' : α → Prop} {E : Str → Prop} (h : r.wq Q E) (k : ∀ a, Q a → Q' a) : r.wq Q' E := h.imp2 k fun _ z => z
theorem Ev.wq.no {α : Type} {r : Ev α} {P Q : α → Prop} {E : Str → Prop} (h : r.wq P No) (k : ∀ a, P a → Q a) : r.wq Q E := h.imp2 k fun _ z => z.elim
theorem Res.wq.imp {x : Res} {k k' : Kp} (h : x.wq k) (a : ∀ e, k.nx e → k'.nx e) (b : ∀ e, k.ct e → k'.ct e) (c : ∀ e, k.bk e → k'.bk e) (d : ∀ f d, k.rt f d → k'.rt f d) (s : ∀ e, k.ex e → k'.ex e) : x.wq k' := Res.wq_iff.mpr ((Res.wq_iff.mp h).imp a b c d s)
theorem bindQ {α β : Type} {r : Ev α} {f : α → Ev β} {Q : β → Prop} {E : Str → Prop} (h : r.wq (fun a => (f a).wq Q E) E) : (r.bind f).wq Q E :=
  Ev.wq_iff.mpr (bind_of ((Ev.wq_iff.mp h).imp fun _ h => Ev.wq_iff.mp h))
theorem noexQ {α : Type} {r : Ev α} {Q : α → Prop} {E : Str → Prop} (h : r.wq Q No) : (noex r).wq Q E := Ev.wq_iff.mpr (noex_of (Ev.wq_iff.mp h))
theorem evkQ {α : Type} {r : Ev α} {f : α → Res} {k : Kp} (h : r.wq (fun a => (f a).wq k) k.ex) : (evk r f).wq k :=
  Res.wq_iff.mpr (evk_of ((Ev.wq_iff.mp h).imp fun _ h => Res.wq_iff.mp h))
theorem thnQ {F : Nat → FV} {x : Res} {r : Sms} {k : Kp} (h : x.wq { k with nx := fun e => (r.ev F e).wq k }) : (x.thn F r).wq k :=
  Res.wq_iff.mpr (thn_of (Res.wp.imp (Res.wq_iff.mp h) (fun _ h => Res.wq_iff.mp h) (fun _ h => h) (fun _ h => h) (fun _ _ h => h) (fun _ h => h)))
theorem valQ {x : Res} {Q : Val → Prop} {E : Str → Prop} (h : x.wq { nx := fun _ => Q (false, .none), rt := fun f d => Q (f, d), ex := E }) : x.val.wq Q E := Ev.wq_iff.mpr (val_of (Res.wq_iff.mp h))
theorem cndQ {F : Nat → FV} {r : Ev (Bool × Env)} {a b : Sms} {k : Kp} (h : r.wq (fun p => (Res.cnd F (.ok p) a b).wq k) k.ex) : (Res.cnd F r a b).wq k :=
  Res.wq_iff.mpr (cnd_of ((Ev.wq_iff.mp h).imp fun _ h => Res.wq_iff.mp h))
theorem gdQ {α : Type} {c : Bool} {r : Ev α} {Q : α → Prop} {E : Str → Prop} (hc : c = true) (h : r.wq Q E) : (gd c r).wq Q E := by subst hc; exact h
theorem gdRQ {c : Bool} {r : Res} {k : Kp} (hc : c = true) (h : r.wq k) : (gdR c r).wq k := by subst hc; exact h
theorem wq_nx {e : Env} {k : Kp} : (Res.nx e).wq k = k.nx e := by unfold Res.wq; rfl
theorem wq_rt {f d} {k : Kp} : (Res.rt f d).wq k = k.rt f d := by unfold Res.wq; rfl
theorem wq_ct {e : Env} {k : Kp} : (Res.ct e).wq k = k.ct e := by unfold Res.wq; rfl
theorem wq_bk {e : Env} {k : Kp} : (Res.bk e).wq k = k.bk e := by unfold Res.wq; rfl
theorem wq_ex {e : Str} {k : Kp} : (Res.ex e).wq k = k.ex e := by unfold Res.wq; rfl
theorem Ev.wq_ok {α : Type} {a : α} {Q : α → Prop} {E : Str → Prop} : (Ev.ok a).wq Q E = Q a := by unfold Ev.wq; rfl
theorem Ev.wq_ex {α : Type} {s : Str} {Q : α → Prop} {E : Str → Prop} : (Ev.ex s : Ev α).wq Q E = E s := by unfold Ev.wq; rfl
theorem pkQ {α : Type} {m : Int} {g : Int → Ev α} {Q : α → Prop} {E : Str → Prop} (n : Nat) (e : m = (n : Int)) (h1 : 1 ≤ n) (h2 : n < 2 ^ 1000) (h : ∀ r : Nat, r < n → (g (r : Nat)).wq Q E) : (Ev.pk m g).wq Q E :=
  Ev.wq_iff.mpr (pk_nat n e h1 h2 fun r hr => Ev.wq_iff.mp (h r hr))
theorem pkRQ {m : Int} {g : Int → Res} {k : Kp} (n : Nat) (e : m = (n : Int)) (h1 : 1 ≤ n) (h2 : n < 2 ^ 1000) (h : ∀ r : Nat, r < n → (g (r : Nat)).wq k) : (Res.pk m g).wq k :=
  Res.wq_iff.mpr (pkR_nat n e h1 h2 fun r hr => Res.wq_iff.mp (h r hr))
theorem forQ {step : PyData → Env → Res} {k : Kp} {xs : List PyData} {env : Env} (I : Nat → Env → Prop) (h0 : I 0 env)
    (hs : ∀ i x e, xs[i]? = some x → I i e → (step x e).wq { k with nx := I (i + 1), ct := I (i + 1), bk := k.nx }) (he : ∀ e, I xs.length e → k.nx e) : (forV step xs env).wq k :=
  Res.wq_iff.mpr (forV_wp I h0 (fun i x e hx hi => Res.wq_iff.mp (hs i x e hx hi)) he)
theorem filQ {f : PyData → Ev (Option PyData)} {Q : List PyData → Prop} {E : Str → Prop} {xs : List PyData} (I : Nat → List PyData → Prop) (hs : ∀ i x acc, xs[i]? = some x → I i acc → (f x).wq (fun o => I (i + 1) (acc ++ o.toList)) E) {acc : List PyData} (h0 : I 0 acc) (hq : ∀ L, I xs.length (acc ++ L) → Q L) : (filV f xs).wq Q E :=
  Ev.wq_iff.mpr (filV_wp I (fun i x a hx hi => Ev.wq_iff.mp (hs i x a hx hi)) h0 hq)
/-- a while loop with picks: each turn goes on with what is kept, by a measure -/
theorem whlQ {t : Env → Ev (Bool × Env)} {b : Env → Res} {k : Kp} (I : Env → Prop) (μ : Env → Nat)
    (ht : ∀ e, I e → (t e).wq (fun p => match p.1 with | false => k.nx p.2 | true => (b p.2).wq { k with nx := fun e' => I e' ∧ μ e' < μ e, ct := fun e' => I e' ∧ μ e' < μ e, bk := k.nx }) k.ex) :
    ∀ (n : Nat) (env : Env), I env → μ env < n → (whlV t b n env).wq k
  | 0, env, h, hn => by omega
  | n + 1, env, h, hn => by
    unfold whlV
    refine evkQ ((ht env h).imp fun p q => ?_)
    obtain ⟨c, e'⟩ := p
    cases c with
    | false => rw [wq_nx]; exact q
    | true =>
      have q : (b e').wq { k with nx := fun e' => I e' ∧ μ e' < μ env, ct := fun e' => I e' ∧ μ e' < μ env, bk := k.nx } := q
      refine Res.wq_iff.mpr ?_
      show ((b e').lp (whlV t b n)).wp k
      exact Res.use (Φ := fun x => (x.lp (whlV t b n)).wp k) (Res.wq_iff.mp q) (fun m g a b => ⟨a, b⟩) (fun e h => Res.wq_iff.mp (whlQ I μ ht n e h.1 (by have := h.2; omega))) (fun f d h => h) (fun e h => h) (fun e h => Res.wq_iff.mp (whlQ I μ ht n e h.1 (by have := h.2; omega))) (fun e h => h)
end DL
set_option Elab.async false
set_option linter.all false
set_option maxRecDepth 100000
set_option maxHeartbeats 4000000
/-! W1: polynomials and words: the defs' trees and what they are worth. -/
namespace W
open PySem PySem.Spec PyProof.Rows L2 DL
local macro_rules | `(tactic| walk_at "ev") => `(tactic| try simp only [Sms.ev_cons, Sms.ev_nil, Ex_ev_var, Ex_ev_lit, Ex_ev_tup, Ex_ev_lst, Ex_ev_bin, Ex_ev_neg, Ex_ev_cmp, Ex_ev_cmp2, Ex_ev_and_, Ex_ev_or_, Ex_ev_not_, Ex_ev_ite, Ex_ev_call, Ex_ev_bi, Ex_ev_mth, Ex_ev_ix, Ex_ev_slc, Ex_ev_isa, Ex_ev_rev, Ex_ev_dic0, Ex_ev_comp, Exo_ev_no, Exo_ev_so, Exs_ev_nil, Exs_ev_cons, Exs_evt_nil, Exs_evt_cons, It_ev_seq, It_ev_range1, It_ev_range2, It_ev_enum, It_ev_zips, It_ev_zip, Exs_evf_nil, Exs_evf_cons, Sm_ev_asg_nm, Sm_ev_asg_tp, Sm_ev_par, Sm_ev_aug, Sm_ev_app, Sm_ev_setx, Sm_ev_ite, Sm_ev_for_, Sm_ev_whl, Sm_ev_retn, Sm_ev_brk, Sm_ev_cnt, Sm_ev_pass, Sm_ev_expr, Sm_ev_ret_lit, Sm_ev_ret_tup, Sm_ev_ret_lst, Sm_ev_ret_bin, Sm_ev_ret_neg, Sm_ev_ret_cmp, Sm_ev_ret_cmp2, Sm_ev_ret_and_, Sm_ev_ret_or_, Sm_ev_ret_not_, Sm_ev_ret_ite, Sm_ev_ret_call, Sm_ev_ret_bi, Sm_ev_ret_mth, Sm_ev_ret_ix, Sm_ev_ret_slc, Sm_ev_ret_isa, Sm_ev_ret_rev, Sm_ev_ret_dic0, Sm_ev_ret_comp, Ex.tst, Ev.ok_bind, Ev.ex_bind, Ev.bad_bind, evk_ok, evk_ex, evk_bad, Res.thn_nx, Res.thn_rt, Res.thn_bk, Res.thn_ct, Res.thn_ex, Res.thn_bad, gd_true, gdR_true, optV_some, optR_some, intV_int, seqV_list, seqV_tuple, lstV_list, twoV_list, twoV_tuple, tstV_bool, noex_ok, tab_cons, aft_eq, frz_eq, frzL_nil, frzL_un, frzL_sh, frzL_src, frzL_ow, memN_nil, memN_cons, leafy_int, leafy_bool, leafy_str, leafy_none, leafy_tuple, leafy_list, leafy_dict, flats_nil, flats_cons, flat_int, flat_bool, flat_str, flat_none, flat_tuple, flat_list, put_true, put_false, putAll_nil, putAll_cons, bv_nm, bv_tp, bv_nil, bv_cons, intO_int, wipeE, Ex.vs, Exs.vs, Exo.vs, It.vs, cond_true, cond_false, Bool.cond_self, Option.bind_some, Bool.true_and, Bool.and_true, Bool.false_or, Bool.or_false, Bool.true_or, Bool.or_true, Bool.false_and, Bool.and_false, Bool.not_true, Bool.not_false, decide_true, decide_false, reduceIte, List.map_cons, List.map_nil, List.cons_append, List.nil_append, List.replicate, List.length_cons, List.length_nil, Nat.reduceAdd, Nat.reduceSub, Nat.reduceEqDiff, Nat.reduceBEq, List.set_cons_succ, List.set_cons_zero, List.length_map, Nat.zero_add, evDef_eq, val_rt, val_nx, val_ex, Sm_ev_ext, Sm_ev_augx, Sm_ev_ret_v, binV_addI, binV_addS, binV_addL, binV_addT, binV_subI, binV_mulI, binV_mulT, binV_mulL, binV_fdivI, binV_modI, binV_powI, binV_shlI, binV_shrI, binV_bandI, binV_borI, binV_bxorI, augV_add, augV_sub, augV_band, augV_bor, augV_bxor, augV_mul, augV_fdiv, augV_mod, augV_shl, augV_shr, cmpV_eqI, cmpV_neI, cmpV_lt, cmpV_le, cmpV_gt, cmpV_ge, cmpV_eqIS, cmpV_neIS, cmpV_eqIB, cmpV_neIB, cmpV_eqIN, cmpV_neIN, cmpV_eqIL, cmpV_neIL, cmpV_eqIT, cmpV_neIT, cmpV_eqID, cmpV_neID, cmpV_eqSI, cmpV_neSI, cmpV_eqSS, cmpV_neSS, cmpV_eqSB, cmpV_neSB, cmpV_eqSN, cmpV_neSN, cmpV_eqSL, cmpV_neSL, cmpV_eqST, cmpV_neST, cmpV_eqSD, cmpV_neSD, cmpV_eqBI, cmpV_neBI, cmpV_eqBS, cmpV_neBS, cmpV_eqBB, cmpV_neBB, cmpV_eqBN, cmpV_neBN, cmpV_eqBL, cmpV_neBL, cmpV_eqBT, cmpV_neBT, cmpV_eqBD, cmpV_neBD, cmpV_eqNI, cmpV_neNI, cmpV_eqNS, cmpV_neNS, cmpV_eqNB, cmpV_neNB, cmpV_eqNN, cmpV_neNN, cmpV_eqNL, cmpV_neNL, cmpV_eqNT, cmpV_neNT, cmpV_eqND, cmpV_neND, cmpV_eqLI, cmpV_neLI, cmpV_eqLS, cmpV_neLS, cmpV_eqLB, cmpV_neLB, cmpV_eqLN, cmpV_neLN, cmpV_eqLL, cmpV_neLL, cmpV_eqLT, cmpV_neLT, cmpV_eqLD, cmpV_neLD, cmpV_eqTI, cmpV_neTI, cmpV_eqTS, cmpV_neTS, cmpV_eqTB, cmpV_neTB, cmpV_eqTN, cmpV_neTN, cmpV_eqTL, cmpV_neTL, cmpV_eqTT, cmpV_neTT, cmpV_eqTD, cmpV_neTD, cmpV_eqDI, cmpV_neDI, cmpV_eqDS, cmpV_neDS, cmpV_eqDB, cmpV_neDB, cmpV_eqDN, cmpV_neDN, cmpV_eqDL, cmpV_neDL, cmpV_eqDT, cmpV_neDT, cmpV_eqDD, cmpV_neDD, cmpV_isI, cmpV_inLItrue, cmpV_inTItrue, cmpV_inDItrue, cmpV_inLIfalse, cmpV_inTIfalse, cmpV_inDIfalse, cmpV_isS, cmpV_inLStrue, cmpV_inTStrue, cmpV_inDStrue, cmpV_inLSfalse, cmpV_inTSfalse, cmpV_inDSfalse, cmpV_isB, cmpV_inLBtrue, cmpV_inTBtrue, cmpV_inLBfalse, cmpV_inTBfalse, cmpV_isN, cmpV_inLNtrue, cmpV_inTNtrue, cmpV_inLNfalse, cmpV_inTNfalse, cmpV_isL, cmpV_inLLtrue, cmpV_inTLtrue, cmpV_inLLfalse, cmpV_inTLfalse, cmpV_isT, cmpV_inLTtrue, cmpV_inTTtrue, cmpV_inLTfalse, cmpV_inTTfalse, cmpV_isD, cmpV_inLDtrue, cmpV_inTDtrue, cmpV_inLDfalse, cmpV_inTDfalse, biV_lenL, biV_lenT, biV_lenS, biV_abs, biV_max2, biV_min2, biV_intI, biV_intB, biV_tuple_list, biV_tuple_tuple, biV_list_list, biV_list_tuple, biV_max_list, biV_max_tuple, biV_min_list, biV_min_tuple, biV_repr, biV_all, biV_any, biV_sorted, biV_sum, mtT_bits, mtT_indexL, mtT_indexT, mtT_get, mtV_bits, mtV_indexL, mtV_indexT, mtV_get1, mtV_get2, keyFor_int, keyFor_str, keyPut_int, keyPut_str, ixV_L, ixV_T, ixV_D, slV_L, slV_T, revV_L, revV_T, tstV_int, tstV_none, tstV_list, tstV_tuple, lstO_list, slot_sh, slot_ow, slot_succ, intAt_sh, intAt_succ, ownL_ow, ownL_succ, ownS_owL, ownS_owD, ownS_succ, retS_sh, retS_ow, retS_succ, leN_0, leN_1, leN_2, leN_3, leN_4, leN_5, leN_6, leN_7, leN_8, leN_9, leN_10, leN_11, leN_12, Int.toNat_natCast, Int.zero_add, Exs_eva_nil, Exs_eva_var, Exs_eva_lit, Exs_eva_tup, Exs_eva_lst, Exs_eva_bin, Exs_eva_neg, Exs_eva_cmp, Exs_eva_cmp2, Exs_eva_and_, Exs_eva_or_, Exs_eva_not_, Exs_eva_ite, Exs_eva_call, Exs_eva_bi, Exs_eva_mth, Exs_eva_ix, Exs_eva_slc, Exs_eva_isa, Exs_eva_rev, Exs_eva_dic0, Exs_eva_comp, Ev.pk_bind, evk_pk, noex_pk, Res.thn_pk, wp_nx, wp_rt, wp_ct, wp_bk, Ev.wp_ok, val_pk, F_pick_eq, slotA_sh, slotA_ow, slotA_src, slotA_succ, cnd_t, cnd_f, cnd_ex, cnd_pk, stepV_eq, sh_int, sh_bool, sh_none, sh_nilL, sh_nilT, eqv_nilL, eqv_nilT, frzL_jk, Bool.not_not, Bool.and_self, Int.reduceBEq, Int.reduceLT, Int.reduceLE, Int.reduceAdd, Int.reduceSub, Int.reduceNeg, Int.reduceMul, is_isInt_I, is_isInt_S, is_isInt_B, is_isInt_N, is_isInt_L, is_isInt_T, is_isInt_D, is_isBool_I, is_isBool_S, is_isBool_B, is_isBool_N, is_isBool_L, is_isBool_T, is_isBool_D, is_isTuple_I, is_isTuple_S, is_isTuple_B, is_isTuple_N, is_isTuple_L, is_isTuple_T, is_isTuple_D, is_isStr_I, is_isStr_S, is_isStr_B, is_isStr_N, is_isStr_L, is_isStr_T, is_isStr_D, is_isList_I, is_isList_S, is_isList_B, is_isList_N, is_isList_L, is_isList_T, is_isList_D, is_isDict_I, is_isDict_S, is_isDict_B, is_isDict_N, is_isDict_L, is_isDict_T, is_isDict_D, cast_0, cast_1, cast_2, cast_3, cast_4, cast_5, cast_6, cast_7, cast_8, cast_9, cast_10, cast_11, cast_12, cast_13, cast_14, cast_15, cast_16, cast_17, cast_18, cast_19, leN_13, leN_14, leN_15, leN_16, leN_17, leN_18, leN_19, leN_20, leN_21, leN_22, leN_23, toNat_0, toNat_1, toNat_2, toNat_3, toNat_4, toNat_5, toNat_6, toNat_7, toNat_8, toNat_9, toNat_10, toNat_11, toNat_12, toNat_13, toNat_14, toNat_15, toNat_16, toNat_17, toNat_18, toNat_19, toNat_20, toNat_21, toNat_22, toNat_23, toNat_24, toNat_25, toNat_26, toNat_27, toNat_28, toNat_29, toNat_30, toNat_31, toNat_32, toNat_33, toNat_34, toNat_35, toNat_36, toNat_37, toNat_38, toNat_39, toNat_40, wq_nx, wq_rt, wq_ct, wq_bk, Ev.wq_ok, Ev.wq_ex, wq_ex, Sm_ev_asx, slO_sh, slO_ow, slO_succ, twoV_listT, twoV_tupleL, Bool.false_eq_true, okv, okn, isaD])
local macro_rules | `(tactic| walk_at "down") => `(tactic| repeat (first | with_reducible refine valQ ?_ | with_reducible refine thnQ ?_ | with_reducible refine evkQ ?_ | with_reducible refine bindQ ?_ | with_reducible refine noexQ ?_ | with_reducible refine cndQ ?_))
def N_degree : List Str := ["p"]
def b_degree : Sms := (.cons (.ret (.bin .sub (.mth .bits (.var 0) .nil) (.lit (.int 1))))
    .nil)
def F_degree : FV := evDef (tab []) 1 1 b_degree
def N_poly_product : List Str := ["p", "q", "found", "i"]
def b_poly_product : Sms := (.cons (.asg (.nm 2) (.lit (.int 0)))
    (.cons (.for_ (.nm 3) (.range1 (.mth .bits (.var 1) .nil)) (.cons (.aug 2 .bxor (.bin .mul (.bin .band (.bin .shr (.var 1) (.var 3)) (.lit (.int 1))) (.bin .shl (.var 0) (.var 3))))
    .nil))
    (.cons (.ret (.var 2))
    .nil)))
def F_poly_product : FV := evDef (tab []) 4 2 b_poly_product
def N_word_degree : List Str := ["word", ".0", "p"]
def b_word_degree : Sms := (.cons (.ret (.bi .max (.cons (.comp (.call 7 (.cons (.var 2) .nil)) (.nm 2) (.seq (.var 0)) .nil [1, 2]) .nil)))
    .nil)
def F_word_degree : FV := evDef (tab [(7, F_degree)]) 3 1 b_word_degree
def N_words_added : List Str := ["one", "other", ".0", "p", "q"]
def b_words_added : Sms := (.cons (.ret (.bi .tuple (.cons (.comp (.bin .bxor (.var 3) (.var 4)) (.tp (.cons (.nm 3) (.cons (.nm 4) .nil))) (.zips (.var 0) (.var 1)) .nil [2, 3, 4]) .nil)))
    .nil)
def F_words_added : FV := evDef (tab []) 5 2 b_words_added
def N_word_times : List Str := ["p", "word", ".0", "q"]
def b_word_times : Sms := (.cons (.ret (.bi .tuple (.cons (.comp (.call 8 (.cons (.var 3) (.cons (.var 0) .nil))) (.nm 3) (.seq (.var 1)) .nil [2, 3]) .nil)))
    .nil)
def F_word_times : FV := evDef (tab [(8, F_poly_product)]) 4 2 b_word_times
def N_leading_row : List Str := ["word", ".0", "p"]
def b_leading_row : Sms := (.cons (.ret (.bi .tuple (.cons (.comp (.bin .band (.bin .shr (.var 2) (.call 9 (.cons (.var 0) .nil))) (.lit (.int 1))) (.nm 2) (.seq (.var 0)) .nil [1, 2]) .nil)))
    .nil)
def F_leading_row : FV := evDef (tab [(9, F_word_degree)]) 3 1 b_leading_row
def N_combination : List Str := ["n", "coefficients", "words", "found", "p", "word"]
def b_combination : Sms := (.cons (.asg (.nm 3) (.bin .mul (.tup (.cons (.lit (.int 0)) .nil)) (.var 0)))
    (.cons (.for_ (.tp (.cons (.nm 4) (.cons (.nm 5) .nil))) (.zips (.var 1) (.var 2)) (.cons (.asg (.nm 3) (.call 10 (.cons (.var 3) (.cons (.call 11 (.cons (.var 4) (.cons (.var 5) .nil))) .nil))))
    .nil))
    (.cons (.ret (.var 3))
    .nil)))
def F_combination : FV := evDef (tab [(10, F_words_added), (11, F_word_times)]) 6 3 b_combination
def N__law_length : List Str := ["p", "found"]
def b__law_length : Sms := (.cons (.asg (.nm 1) (.lit (.int 0)))
    (.cons (.whl (.cmp .gt (.bin .shr (.var 0) (.var 1)) (.lit (.int 0))) (.cons (.asg (.nm 1) (.bin .add (.var 1) (.lit (.int 1))))
    .nil))
    (.cons (.ret (.var 1))
    .nil)))
def F__law_length : FV := evDef (tab []) 2 1 b__law_length
def N__law_times : List Str := ["p", "q", "found", "i"]
def b__law_times : Sms := (.cons (.asg (.nm 2) (.lit (.int 0)))
    (.cons (.for_ (.nm 3) (.range1 (.call 41 (.cons (.var 0) .nil))) (.cons (.asg (.nm 2) (.bin .bxor (.var 2) (.bin .mul (.bin .shl (.var 1) (.var 3)) (.bin .band (.bin .shr (.var 0) (.var 3)) (.lit (.int 1))))))
    .nil))
    (.cons (.ret (.var 2))
    .nil)))
def F__law_times : FV := evDef (tab [(41, F__law_length)]) 4 2 b__law_times
def N__law_degree : List Str := ["word", ".0", "p"]
def b__law_degree : Sms := (.cons (.ret (.bin .sub (.bi .max (.cons (.comp (.call 41 (.cons (.var 2) .nil)) (.nm 2) (.seq (.var 0)) .nil [1, 2]) .nil)) (.lit (.int 1))))
    .nil)
def F__law_degree : FV := evDef (tab [(41, F__law_length)]) 3 1 b__law_degree
def N__law_added : List Str := ["one", "other", ".0", "p", "q"]
def b__law_added : Sms := (.cons (.ret (.bi .tuple (.cons (.comp (.bin .bxor (.var 3) (.var 4)) (.tp (.cons (.nm 3) (.cons (.nm 4) .nil))) (.zip (.var 0) (.var 1)) .nil [2, 3, 4]) .nil)))
    .nil)
def F__law_added : FV := evDef (tab []) 5 2 b__law_added
def N__law_word_times : List Str := ["p", "word", ".0", "q"]
def b__law_word_times : Sms := (.cons (.ret (.bi .tuple (.cons (.comp (.call 42 (.cons (.var 0) (.cons (.var 3) .nil))) (.nm 3) (.seq (.var 1)) .nil [2, 3]) .nil)))
    .nil)
def F__law_word_times : FV := evDef (tab [(42, F__law_times)]) 4 2 b__law_word_times
def N__law_combined : List Str := ["n", "coefficients", "words", "found", "p", "word"]
def b__law_combined : Sms := (.cons (.asg (.nm 3) (.bin .mul (.tup (.cons (.lit (.int 0)) .nil)) (.var 0)))
    (.cons (.for_ (.tp (.cons (.nm 4) (.cons (.nm 5) .nil))) (.zip (.var 1) (.var 2)) (.cons (.asg (.nm 3) (.call 44 (.cons (.var 3) (.cons (.call 45 (.cons (.var 4) (.cons (.var 5) .nil))) .nil))))
    .nil))
    (.cons (.ret (.var 3))
    .nil)))
def F__law_combined : FV := evDef (tab [(44, F__law_added), (45, F__law_word_times)]) 6 3 b__law_combined
def N__law_leading : List Str := ["word", ".0", "p"]
def b__law_leading : Sms := (.cons (.ret (.bi .tuple (.cons (.comp (.bin .band (.bin .shr (.var 2) (.call 43 (.cons (.var 0) .nil))) (.lit (.int 1))) (.nm 2) (.seq (.var 0)) .nil [1, 2]) .nil)))
    .nil)
def F__law_leading : FV := evDef (tab [(43, F__law_degree)]) 3 1 b__law_leading
/-- ints from nought on -/
abbrev nis (ns : List Nat) : List PyData := ns.map fun n => .int (n : Nat)
abbrev wd (ns : List Nat) : PyData := .tuple (nis ns)
theorem nis_len {ns : List Nat} : (nis ns).length = ns.length := by simp [nis]
theorem flats_nis {ns : List Nat} : flats (ns.map fun n => PyData.int (n : Nat)) = true := by
  induction ns with
  | nil => rfl
  | cons n ns ih => rw [List.map_cons, flats_cons, ih]; rfl
local macro_rules | `(tactic| walk_at "ew") => `(tactic| try simp only [Sms.ev_cons, Sms.ev_nil, Ex_ev_var, Ex_ev_lit, Ex_ev_tup, Ex_ev_lst, Ex_ev_bin, Ex_ev_neg, Ex_ev_cmp, Ex_ev_cmp2, Ex_ev_and_, Ex_ev_or_, Ex_ev_not_, Ex_ev_ite, Ex_ev_call, Ex_ev_bi, Ex_ev_mth, Ex_ev_ix, Ex_ev_slc, Ex_ev_isa, Ex_ev_rev, Ex_ev_dic0, Ex_ev_comp, Exo_ev_no, Exo_ev_so, Exs_ev_nil, Exs_ev_cons, Exs_evt_nil, Exs_evt_cons, It_ev_seq, It_ev_range1, It_ev_range2, It_ev_enum, It_ev_zips, It_ev_zip, Exs_evf_nil, Exs_evf_cons, Sm_ev_asg_nm, Sm_ev_asg_tp, Sm_ev_par, Sm_ev_aug, Sm_ev_app, Sm_ev_setx, Sm_ev_ite, Sm_ev_for_, Sm_ev_whl, Sm_ev_retn, Sm_ev_brk, Sm_ev_cnt, Sm_ev_pass, Sm_ev_expr, Sm_ev_ret_lit, Sm_ev_ret_tup, Sm_ev_ret_lst, Sm_ev_ret_bin, Sm_ev_ret_neg, Sm_ev_ret_cmp, Sm_ev_ret_cmp2, Sm_ev_ret_and_, Sm_ev_ret_or_, Sm_ev_ret_not_, Sm_ev_ret_ite, Sm_ev_ret_call, Sm_ev_ret_bi, Sm_ev_ret_mth, Sm_ev_ret_ix, Sm_ev_ret_slc, Sm_ev_ret_isa, Sm_ev_ret_rev, Sm_ev_ret_dic0, Sm_ev_ret_comp, Ex.tst, Ev.ok_bind, Ev.ex_bind, Ev.bad_bind, evk_ok, evk_ex, evk_bad, Res.thn_nx, Res.thn_rt, Res.thn_bk, Res.thn_ct, Res.thn_ex, Res.thn_bad, gd_true, gdR_true, optV_some, optR_some, intV_int, seqV_list, seqV_tuple, lstV_list, twoV_list, twoV_tuple, tstV_bool, noex_ok, tab_cons, aft_eq, frz_eq, frzL_nil, frzL_un, frzL_sh, frzL_src, frzL_ow, memN_nil, memN_cons, leafy_int, leafy_bool, leafy_str, leafy_none, leafy_tuple, leafy_list, leafy_dict, flats_nil, flats_cons, flat_int, flat_bool, flat_str, flat_none, flat_tuple, flat_list, put_true, put_false, putAll_nil, putAll_cons, bv_nm, bv_tp, bv_nil, bv_cons, intO_int, wipeE, Ex.vs, Exs.vs, Exo.vs, It.vs, cond_true, cond_false, Bool.cond_self, Option.bind_some, Bool.true_and, Bool.and_true, Bool.false_or, Bool.or_false, Bool.true_or, Bool.or_true, Bool.false_and, Bool.and_false, Bool.not_true, Bool.not_false, decide_true, decide_false, reduceIte, List.map_cons, List.map_nil, List.cons_append, List.nil_append, List.replicate, List.length_cons, List.length_nil, Nat.reduceAdd, Nat.reduceSub, Nat.reduceEqDiff, Nat.reduceBEq, List.set_cons_succ, List.set_cons_zero, List.length_map, Nat.zero_add, evDef_eq, val_rt, val_nx, val_ex, Sm_ev_ext, Sm_ev_augx, Sm_ev_ret_v, binV_addI, binV_addS, binV_addL, binV_addT, binV_subI, binV_mulI, binV_mulT, binV_mulL, binV_fdivI, binV_modI, binV_powI, binV_shlI, binV_shrI, binV_bandI, binV_borI, binV_bxorI, augV_add, augV_sub, augV_band, augV_bor, augV_bxor, augV_mul, augV_fdiv, augV_mod, augV_shl, augV_shr, cmpV_eqI, cmpV_neI, cmpV_lt, cmpV_le, cmpV_gt, cmpV_ge, cmpV_eqIS, cmpV_neIS, cmpV_eqIB, cmpV_neIB, cmpV_eqIN, cmpV_neIN, cmpV_eqIL, cmpV_neIL, cmpV_eqIT, cmpV_neIT, cmpV_eqID, cmpV_neID, cmpV_eqSI, cmpV_neSI, cmpV_eqSS, cmpV_neSS, cmpV_eqSB, cmpV_neSB, cmpV_eqSN, cmpV_neSN, cmpV_eqSL, cmpV_neSL, cmpV_eqST, cmpV_neST, cmpV_eqSD, cmpV_neSD, cmpV_eqBI, cmpV_neBI, cmpV_eqBS, cmpV_neBS, cmpV_eqBB, cmpV_neBB, cmpV_eqBN, cmpV_neBN, cmpV_eqBL, cmpV_neBL, cmpV_eqBT, cmpV_neBT, cmpV_eqBD, cmpV_neBD, cmpV_eqNI, cmpV_neNI, cmpV_eqNS, cmpV_neNS, cmpV_eqNB, cmpV_neNB, cmpV_eqNN, cmpV_neNN, cmpV_eqNL, cmpV_neNL, cmpV_eqNT, cmpV_neNT, cmpV_eqND, cmpV_neND, cmpV_eqLI, cmpV_neLI, cmpV_eqLS, cmpV_neLS, cmpV_eqLB, cmpV_neLB, cmpV_eqLN, cmpV_neLN, cmpV_eqLL, cmpV_neLL, cmpV_eqLT, cmpV_neLT, cmpV_eqLD, cmpV_neLD, cmpV_eqTI, cmpV_neTI, cmpV_eqTS, cmpV_neTS, cmpV_eqTB, cmpV_neTB, cmpV_eqTN, cmpV_neTN, cmpV_eqTL, cmpV_neTL, cmpV_eqTT, cmpV_neTT, cmpV_eqTD, cmpV_neTD, cmpV_eqDI, cmpV_neDI, cmpV_eqDS, cmpV_neDS, cmpV_eqDB, cmpV_neDB, cmpV_eqDN, cmpV_neDN, cmpV_eqDL, cmpV_neDL, cmpV_eqDT, cmpV_neDT, cmpV_eqDD, cmpV_neDD, cmpV_isI, cmpV_inLItrue, cmpV_inTItrue, cmpV_inDItrue, cmpV_inLIfalse, cmpV_inTIfalse, cmpV_inDIfalse, cmpV_isS, cmpV_inLStrue, cmpV_inTStrue, cmpV_inDStrue, cmpV_inLSfalse, cmpV_inTSfalse, cmpV_inDSfalse, cmpV_isB, cmpV_inLBtrue, cmpV_inTBtrue, cmpV_inLBfalse, cmpV_inTBfalse, cmpV_isN, cmpV_inLNtrue, cmpV_inTNtrue, cmpV_inLNfalse, cmpV_inTNfalse, cmpV_isL, cmpV_inLLtrue, cmpV_inTLtrue, cmpV_inLLfalse, cmpV_inTLfalse, cmpV_isT, cmpV_inLTtrue, cmpV_inTTtrue, cmpV_inLTfalse, cmpV_inTTfalse, cmpV_isD, cmpV_inLDtrue, cmpV_inTDtrue, cmpV_inLDfalse, cmpV_inTDfalse, biV_lenL, biV_lenT, biV_lenS, biV_abs, biV_max2, biV_min2, biV_intI, biV_intB, biV_tuple_list, biV_tuple_tuple, biV_list_list, biV_list_tuple, biV_max_list, biV_max_tuple, biV_min_list, biV_min_tuple, biV_repr, biV_all, biV_any, biV_sorted, biV_sum, mtT_bits, mtT_indexL, mtT_indexT, mtT_get, mtV_bits, mtV_indexL, mtV_indexT, mtV_get1, mtV_get2, keyFor_int, keyFor_str, keyPut_int, keyPut_str, ixV_L, ixV_T, ixV_D, slV_L, slV_T, revV_L, revV_T, tstV_int, tstV_none, tstV_list, tstV_tuple, lstO_list, slot_sh, slot_ow, slot_succ, intAt_sh, intAt_succ, ownL_ow, ownL_succ, ownS_owL, ownS_owD, ownS_succ, retS_sh, retS_ow, retS_succ, leN_0, leN_1, leN_2, leN_3, leN_4, leN_5, leN_6, leN_7, leN_8, leN_9, leN_10, leN_11, leN_12, Int.toNat_natCast, Int.zero_add, Exs_eva_nil, Exs_eva_var, Exs_eva_lit, Exs_eva_tup, Exs_eva_lst, Exs_eva_bin, Exs_eva_neg, Exs_eva_cmp, Exs_eva_cmp2, Exs_eva_and_, Exs_eva_or_, Exs_eva_not_, Exs_eva_ite, Exs_eva_call, Exs_eva_bi, Exs_eva_mth, Exs_eva_ix, Exs_eva_slc, Exs_eva_isa, Exs_eva_rev, Exs_eva_dic0, Exs_eva_comp, Ev.pk_bind, evk_pk, noex_pk, Res.thn_pk, wp_nx, wp_rt, wp_ct, wp_bk, Ev.wp_ok, val_pk, F_pick_eq, slotA_sh, slotA_ow, slotA_src, slotA_succ, cnd_t, cnd_f, cnd_ex, cnd_pk, stepV_eq, sh_int, sh_bool, sh_none, sh_nilL, sh_nilT, eqv_nilL, eqv_nilT, frzL_jk, Bool.not_not, Bool.and_self, Int.reduceBEq, Int.reduceLT, Int.reduceLE, Int.reduceAdd, Int.reduceSub, Int.reduceNeg, Int.reduceMul, is_isInt_I, is_isInt_S, is_isInt_B, is_isInt_N, is_isInt_L, is_isInt_T, is_isInt_D, is_isBool_I, is_isBool_S, is_isBool_B, is_isBool_N, is_isBool_L, is_isBool_T, is_isBool_D, is_isTuple_I, is_isTuple_S, is_isTuple_B, is_isTuple_N, is_isTuple_L, is_isTuple_T, is_isTuple_D, is_isStr_I, is_isStr_S, is_isStr_B, is_isStr_N, is_isStr_L, is_isStr_T, is_isStr_D, is_isList_I, is_isList_S, is_isList_B, is_isList_N, is_isList_L, is_isList_T, is_isList_D, is_isDict_I, is_isDict_S, is_isDict_B, is_isDict_N, is_isDict_L, is_isDict_T, is_isDict_D, cast_0, cast_1, cast_2, cast_3, cast_4, cast_5, cast_6, cast_7, cast_8, cast_9, cast_10, cast_11, cast_12, cast_13, cast_14, cast_15, cast_16, cast_17, cast_18, cast_19, leN_13, leN_14, leN_15, leN_16, leN_17, leN_18, leN_19, leN_20, leN_21, leN_22, leN_23, toNat_0, toNat_1, toNat_2, toNat_3, toNat_4, toNat_5, toNat_6, toNat_7, toNat_8, toNat_9, toNat_10, toNat_11, toNat_12, toNat_13, toNat_14, toNat_15, toNat_16, toNat_17, toNat_18, toNat_19, toNat_20, toNat_21, toNat_22, toNat_23, toNat_24, toNat_25, toNat_26, toNat_27, toNat_28, toNat_29, toNat_30, toNat_31, toNat_32, toNat_33, toNat_34, toNat_35, toNat_36, toNat_37, toNat_38, toNat_39, toNat_40, wq_nx, wq_rt, wq_ct, wq_bk, Ev.wq_ok, Ev.wq_ex, wq_ex, Sm_ev_asx, slO_sh, slO_ow, slO_succ, twoV_listT, twoV_tupleL, Bool.false_eq_true, okv, okn, isaD, flats_nis])
theorem F_degree_eq (p : Nat) : F_degree [.sh (.int p)] = .ok (false, .int ((bl p : Nat) - 1)) := by
  unfold F_degree b_degree
  walk_at "ev"
  rw [intBits_nat]
/-- the product of polynomials -/
def clm (x y : Nat) : Nat → Nat
  | 0 => 0
  | i + 1 => clm x y i ^^^ ((y >>> i &&& 1) * (x <<< i))
def pmul (x y : Nat) : Nat := clm x y (bl y)
theorem one_nat : (1 : Int) = ((1 : Nat) : Int) := rfl
theorem bl_shl (x i : Nat) : bl (x <<< i) ≤ bl x + i := by
  rw [bl_le, Nat.shiftLeft_eq, Nat.pow_add]
  exact Nat.mul_lt_mul_of_pos_right lt_bl (Nat.two_pow_pos i)
theorem bl_and1 (x : Nat) : bl (x &&& 1) ≤ 1 := by
  rw [bl_le]
  have : x &&& 1 ≤ 1 := Nat.and_le_right
  omega
theorem log_le (x : Nat) : x.log2 ≤ bl x := by unfold bl; split <;> simp_all
theorem mulOk_nat {x y : Nat} (h : bl x + bl y < 1000000) : mulOk (x : Int) (y : Int) = true := by
  unfold mulOk
  have h1 := log_le x
  have h2 := log_le y
  rw [Int.natAbs_natCast, Int.natAbs_natCast, decide_eq_true_eq]
  omega
theorem shlOk_nat {x i : Nat} (h : bl x + i ≤ 2 ^ 27) : shlOk (x : Int) (i : Int) = true := by
  unfold shlOk
  rw [intBits_nat, Bool.and_eq_true, decide_eq_true_eq, decide_eq_true_eq]
  constructor
  · omega
  · have : ((bl x + i : Nat) : Int) ≤ ((2 ^ 27 : Nat) : Int) := by exact_mod_cast h
    simpa using this
theorem rngOk {n : Nat} (h : n ≤ 2 ^ 60) : (decide (-(2 ^ 60) ≤ ((n : Nat) : Int)) && decide (((n : Nat) : Int) ≤ 2 ^ 60)) = true := by
  rw [Bool.and_eq_true, decide_eq_true_eq, decide_eq_true_eq]
  constructor
  · have : (0 : Int) ≤ (n : Int) := Int.natCast_nonneg n
    have : (-(2 ^ 60) : Int) ≤ 0 := by decide
    omega
  · exact_mod_cast h
theorem ge0 (n : Nat) : decide ((0 : Int) ≤ (n : Int)) = true := decide_eq_true (Int.natCast_nonneg n)
theorem F_poly_product_eq (x y : Nat) (hx : bl x ≤ 100000) (hy : bl y ≤ 100000) : F_poly_product [.sh (.int x), .sh (.int y)] = .ok (false, .int (pmul x y : Nat)) := by
  unfold F_poly_product b_poly_product
  walk_at "ev"
  rw [intBits_nat, gd_pos (rngOk (by omega))]
  walk_at "ev"
  refine forV_rng (R := fun r => (Res.thn _ r _).val = _) (fun i e => ∃ s, e = [.sh (.int x), .sh (.int y), .sh (.int (clm x y i : Nat)), s]) ⟨_, rfl⟩ ?_ ?_
  · rintro i e hi ⟨s, rfl⟩
    walk_at "ev"
    rw [gd_pos (ge0 i), gd_pos (shlOk_nat (by omega))]
    walk_at "ev"
    rw [shrN, shlN, one_nat, bandN, gd_pos (mulOk_nat (by have := bl_shl x i; have := bl_and1 (y >>> i); omega))]
    walk_at "ev"
    refine ⟨_, rfl, .sh (.int i), ?_⟩
    rw [← Int.natCast_mul, bxorN]
    rfl
  · rintro e ⟨s, rfl⟩
    walk_at "ev"
    rfl
/-- a word's length: its degree and 1 -/
def wl : List Nat → Nat
  | [] => 0
  | x :: xs => max (bl x) (wl xs)
theorem wl_le {w : List Nat} {k : Nat} : wl w ≤ k ↔ ∀ x ∈ w, bl x ≤ k := by
  induction w with
  | nil => simp [wl]
  | cons x xs ih => simp only [wl, Nat.max_le, ih, List.mem_cons, forall_eq_or_imp]
theorem fold_max (c : Int) : ∀ (xs : List Nat) (m : Nat), (xs.map fun y => ((bl y : Nat) : Int) + c).foldl max ((m : Nat) + c) = ((max m (wl xs) : Nat) : Int) + c
  | [], m => by simp [wl]
  | x :: xs, m => by
    rw [List.map_cons, List.foldl_cons, show max ((m : Nat) + c) (((bl x : Nat) : Int) + c) = ((max m (bl x) : Nat) : Int) + c from by omega, fold_max c xs, wl, Nat.max_assoc]
theorem biV_max_ints (n : Int) (ns : List Int) : BiV .max [.list (.int n :: ns.map PyData.int)] = .ok (false, .int (ns.foldl max n)) := by
  rw [biV_max_list, gd_pos (r := .ok _) (show okMB (PyData.int n :: ns.map PyData.int) = true from okMB_ints (n :: ns)), PySem.W.maxD_ints]
theorem biV_max_len (c : Int) {w : List Nat} (h : w ≠ []) : BiV .max [.list (w.map fun x => .int (((bl x : Nat) : Int) + c))] = .ok (false, .int ((wl w : Nat) + c)) := by
  cases w with
  | nil => exact absurd rfl h
  | cons x xs =>
    have e : xs.map (fun x => PyData.int (((bl x : Nat) : Int) + c)) = (xs.map fun y => ((bl y : Nat) : Int) + c).map PyData.int := by simp
    rw [List.map_cons, e, biV_max_ints, fold_max, wl]
theorem leLim {n : Nat} (h : n ≤ 1000000) : leN n lim = true := leN_pos (by unfold lim; omega)
theorem F_word_degree_eq {w : List Nat} (h : w ≠ []) (hl : w.length ≤ 1000000) : F_word_degree [.sh (wd w)] = .ok (false, .int ((wl w : Nat) - 1)) := by
  unfold F_word_degree b_word_degree wd nis
  walk_at "ev"
  rw [gd_pos (leLim hl), filV_map (fun x => .int (((bl x : Nat) : Int) + -1))]
  · walk_at "ev"
    rw [biV_max_len _ h]
    rfl
  · intro x hx
    walk_at "ev"
    rw [F_degree_eq]
    rfl
def wadd (a b : List Nat) : List Nat := (a.zip b).map fun p => p.1 ^^^ p.2
theorem F_words_added_eq {a b : List Nat} (e : a.length = b.length) (h : a.length ≤ 1000000) : F_words_added [.sh (wd a), .sh (wd b)] = .ok (false, wd (wadd a b)) := by
  unfold F_words_added b_words_added wd nis
  walk_at "ev"
  rw [gd_pos (decide_eq_true e), zipD_map]
  walk_at "ev"
  rw [gd_pos (leLim (by rw [List.length_zip]; omega)), filV_map (fun p => .int ((p.1 ^^^ p.2 : Nat) : Int))]
  · walk_at "ev"
    simp only [wadd, wd, nis, List.map_map, Function.comp_def]
  · intro p hp
    walk_at "ev"
    rw [bxorN]
def wtms (p : Nat) (w : List Nat) : List Nat := w.map fun x => pmul x p
theorem F_word_times_eq {p : Nat} {w : List Nat} (hp : bl p ≤ 100000) (hw : wl w ≤ 100000) (h : w.length ≤ 1000000) : F_word_times [.sh (.int p), .sh (wd w)] = .ok (false, wd (wtms p w)) := by
  unfold F_word_times b_word_times wd nis
  walk_at "ev"
  rw [gd_pos (leLim h), filV_map (fun x => .int (pmul x p : Nat))]
  · walk_at "ev"
    simp only [wtms, wd, nis, List.map_map, Function.comp_def]
  · intro x hx
    walk_at "ev"
    rw [F_poly_product_eq _ _ (wl_le.mp hw x hx) hp]
    rfl
def wlead (w : List Nat) : List Nat := w.map fun p => p >>> (wl w - 1) &&& 1
theorem wl_pos {w : List Nat} (h : 1 ≤ wl w) : ((wl w : Nat) : Int) - 1 = ((wl w - 1 : Nat) : Int) := by omega
theorem F_leading_row_eq {w : List Nat} (h : 1 ≤ wl w) (hl : w.length ≤ 1000000) : F_leading_row [.sh (wd w)] = .ok (false, wd (wlead w)) := by
  have ne : w ≠ [] := fun z => by subst z; simp [wl] at h
  have e := F_word_degree_eq ne hl
  unfold F_leading_row b_leading_row wd nis
  unfold wd nis at e
  walk_at "ev"
  rw [gd_pos (leLim hl), filV_map (fun x => .int ((x >>> (wl w - 1) &&& 1 : Nat) : Int))]
  · walk_at "ev"
    simp only [wlead, wd, nis, List.map_map, Function.comp_def]
  · intro x hx
    rw [e]
    walk_at "ev"
    rw [wl_pos h, gd_pos (ge0 _)]
    walk_at "ev"
    rw [shrN, one_nat, bandN]
theorem wadd_len (a b : List Nat) : (wadd a b).length = min a.length b.length := by simp [wadd]
theorem wtms_len (p : Nat) (w : List Nat) : (wtms p w).length = w.length := by simp [wtms]
def nought (n : Nat) : List Nat := List.replicate n 0
/-- words times their polynomials, added -/
def wcomb (n : Nat) (ps : List Nat) (ws : List (List Nat)) : List Nat := (ps.zip ws).foldl (fun f p => wadd f (wtms p.1 p.2)) (nought n)
theorem replicate_flat (n : Nat) (d : PyData) : (List.replicate n [d]).flatten = List.replicate n d := by
  induction n with
  | zero => rfl
  | succ n ih => rw [List.replicate_succ, List.flatten_cons, ih]; rfl
theorem gd_nought {n : Nat} (h1 : 1 ≤ n) (h2 : n ≤ 1000) : gd (![PyData.int 0].isEmpty && (decide ((1 : Int) ≤ ((n : Nat) : Int)) && (decide (((n : Nat) : Int) ≤ 1000) && leN 1 1000))) (Ev.ok (false, PyData.tuple (List.replicate n [PyData.int 0]).flatten)) = .ok (false, wd (nought n)) := by
  rw [gd_pos]
  · rw [replicate_flat, wd, nis, nought, List.map_replicate]
    rfl
  · have e1 : decide ((1 : Int) ≤ ((n : Nat) : Int)) = true := decide_eq_true (by omega)
    have e2 : decide (((n : Nat) : Int) ≤ 1000) = true := decide_eq_true (by omega)
    rw [e1, e2]
    rfl
theorem foldl_take {α β : Type} (f : β → α → β) (b : β) (xs : List α) (i : Nat) (h : i < xs.length) : (xs.take (i + 1)).foldl f b = f ((xs.take i).foldl f b) xs[i] := by
  rw [List.take_succ_eq_append_getElem h, List.foldl_append]
  rfl
/-- words of n places, not too long -/
def WsOk (n : Nat) (ws : List (List Nat)) : Prop := ∀ w ∈ ws, w.length = n ∧ wl w ≤ 100000
theorem foldl_wadd_len {n : Nat} : ∀ (xs : List (Nat × List Nat)) (f : List Nat), f.length = n → (∀ p ∈ xs, p.2.length = n) → (xs.foldl (fun f p => wadd f (wtms p.1 p.2)) f).length = n
  | [], f, h, _ => h
  | p :: xs, f, h, hx => foldl_wadd_len xs _ (by rw [wadd_len, wtms_len, h, hx p (List.mem_cons_self ..), Nat.min_self]) fun q hq => hx q (List.mem_cons_of_mem _ hq)
theorem zip_snd_mem {ps : List Nat} {ws : List (List Nat)} {p : Nat × List Nat} (h : p ∈ ps.zip ws) : p.1 ∈ ps ∧ p.2 ∈ ws := ⟨(List.of_mem_zip h).1, (List.of_mem_zip h).2⟩
theorem F_combination_eq {n : Nat} {ps : List Nat} {ws : List (List Nat)} (h1 : 1 ≤ n) (h2 : n ≤ 1000) (e : ps.length = ws.length) (hp : ∀ p ∈ ps, bl p ≤ 100000) (hw : WsOk n ws) :
    F_combination [.sh (.int (n : Nat)), .sh (wd ps), .sh (.tuple (ws.map wd))] = .ok (false, wd (wcomb n ps ws)) := by
  unfold F_combination b_combination
  walk_at "ew"
  rw [gd_nought h1 h2]
  walk_at "ew"
  rw [gd_pos (decide_eq_true e), zipD_map]
  refine forV_lst (R := fun r => (Res.thn _ r _).val = _) (fun i e => ∃ s t, e = [.sh (.int (n : Nat)), .sh (wd ps), .sh (.tuple (ws.map wd)), .sh (wd (((ps.zip ws).take i).foldl (fun f p => wadd f (wtms p.1 p.2)) (nought n))), s, t]) ⟨.un, .un, rfl⟩ ?_ ?_
  · rintro i e hi ⟨s, t, rfl⟩
    have hm := zip_snd_mem (List.getElem_mem hi)
    have hl : ∀ p ∈ (ps.zip ws).take i, p.2.length = n := fun p hp => (hw _ (zip_snd_mem (List.mem_of_mem_take hp)).2).1
    have l1 := foldl_wadd_len ((ps.zip ws).take i) (nought n) (by simp [nought]) hl
    obtain ⟨w1, w2⟩ := hw _ hm.2
    walk_at "ew"
    rw [F_word_times_eq (hp _ hm.1) w2 (by omega)]
    walk_at "ew"
    rw [F_words_added_eq (by rw [l1, wtms_len, w1]) (by omega)]
    walk_at "ew"
    refine ⟨_, rfl, .sh (.int (((ps.zip ws)[i]).1 : Nat)), .sh (wd ((ps.zip ws)[i]).2), ?_⟩
    rw [foldl_take _ _ _ _ hi]
  · rintro e ⟨s, t, rfl⟩
    walk_at "ew"
    rw [List.take_length]
    rfl
theorem shr_pos {p i : Nat} : 0 < p >>> i ↔ i < bl p := by
  rw [Nat.shiftRight_eq_div_pow, Nat.div_pos_iff]
  have h := @bl_le p i
  have t := Nat.two_pow_pos i
  constructor
  · intro h1; have : ¬ p < 2 ^ i := by omega
    have : ¬ bl p ≤ i := fun z => this (h.mp z)
    omega
  · intro h1; have : ¬ bl p ≤ i := by omega
    have : ¬ p < 2 ^ i := fun z => this (h.mpr z)
    omega
theorem F__law_length_eq {p : Nat} (h : bl p < 1000000) : F__law_length [.sh (.int p)] = .ok (false, .int (bl p : Nat)) := by
  unfold F__law_length b__law_length
  walk_at "ew"
  refine whlV_R (R := fun r => (Res.thn _ r _).val = _) (fun (i : Nat) e => i ≤ bl p ∧ e = [.sh (.int p), .sh (.int (i : Nat))]) (fun i => bl p - i) (s := 0) ⟨Nat.zero_le _, rfl⟩ (by unfold fuel; omega) ?_
  rintro i e ⟨hi, rfl⟩
  by_cases z : i < bl p
  · right
    have z1 : decide ((0 : Int) < ((p >>> i : Nat) : Int)) = true := decide_eq_true (by have := shr_pos.mpr z; omega)
    refine ⟨[.sh (.int p), .sh (.int (i : Nat))], i + 1, [.sh (.int p), .sh (.int ((i + 1 : Nat) : Int))], ?_, .inl (by walk_at "ew"; rfl), ⟨z, rfl⟩, by omega⟩
    walk_at "ew"
    rw [gd_pos (ge0 i)]
    walk_at "ew"
    rw [shrN, z1]
  · left
    have z1 : decide ((0 : Int) < ((p >>> i : Nat) : Int)) = false := decide_eq_false (by have := mt shr_pos.mp z; omega)
    have z2 : i = bl p := by omega
    refine ⟨[.sh (.int p), .sh (.int (i : Nat))], ?_, by subst z2; rfl⟩
    walk_at "ew"
    rw [gd_pos (ge0 i)]
    walk_at "ew"
    rw [shrN, z1]
theorem clm_self (x y : Nat) (h : bl y ≤ k) : clm x y k = pmul x y := by
  induction k with
  | zero => rw [pmul, Nat.le_zero.mp h]
  | succ k ih =>
    by_cases e : bl y = k + 1
    · rw [pmul, e]
    · have e2 : bl y ≤ k := by omega
      rw [clm, ih e2]
      have : y >>> k = 0 := Nat.eq_zero_of_not_pos (mt shr_pos.mp (show ¬ k < bl y by omega))
      rw [this]; simp
theorem F__law_times_eq {p x : Nat} (hp : bl p ≤ 100000) (hx : bl x ≤ 100000) : F__law_times [.sh (.int p), .sh (.int x)] = .ok (false, .int (pmul x p : Nat)) := by
  unfold F__law_times b__law_times
  walk_at "ew"
  rw [F__law_length_eq (by omega)]
  walk_at "ew"
  rw [gd_pos (rngOk (by omega))]
  walk_at "ew"
  refine forV_rng (R := fun r => (Res.thn _ r _).val = _) (fun i e => ∃ s, e = [.sh (.int p), .sh (.int x), .sh (.int (clm x p i : Nat)), s]) ⟨.un, rfl⟩ ?_ ?_
  · rintro i e hi ⟨s, rfl⟩
    walk_at "ew"
    rw [gd_pos (shlOk_nat (by omega)), gd_pos (ge0 i)]
    walk_at "ew"
    rw [shrN, shlN, one_nat, bandN, gd_pos (mulOk_nat (by have := bl_shl x i; have := bl_and1 (p >>> i); omega))]
    walk_at "ew"
    refine ⟨_, rfl, .sh (.int i), ?_⟩
    rw [← Int.natCast_mul, bxorN, Nat.mul_comm]
    rfl
  · rintro e ⟨s, rfl⟩
    walk_at "ew"
    rfl
theorem F__law_degree_eq {w : List Nat} (h : w ≠ []) (hw : wl w ≤ 100000) (hl : w.length ≤ 1000000) : F__law_degree [.sh (wd w)] = .ok (false, .int ((wl w : Nat) - 1)) := by
  unfold F__law_degree b__law_degree
  walk_at "ew"
  rw [gd_pos (leLim hl), filV_map (fun x => .int (((bl x : Nat) : Int) + 0))]
  · walk_at "ew"
    rw [biV_max_len _ h]
    walk_at "ew"
    rw [Int.add_zero]
  · intro x hx
    walk_at "ew"
    rw [F__law_length_eq (by have := wl_le.mp hw x hx; omega)]
    walk_at "ew"
    rw [Int.add_zero]
theorem F__law_added_eq {a b : List Nat} (h : a.length ≤ 1000000) : F__law_added [.sh (wd a), .sh (wd b)] = .ok (false, wd (wadd a b)) := by
  unfold F__law_added b__law_added
  walk_at "ew"
  rw [zipD_map, gd_pos (leLim (by rw [List.length_map, List.length_zip]; omega)), filV_map (fun p => .int ((p.1 ^^^ p.2 : Nat) : Int))]
  · walk_at "ew"
    simp only [wadd, wd, nis, List.map_map, Function.comp_def]
  · intro p hp
    walk_at "ew"
    rw [bxorN]
theorem F__law_word_times_eq {p : Nat} {w : List Nat} (hp : bl p ≤ 100000) (hw : wl w ≤ 100000) (h : w.length ≤ 1000000) : F__law_word_times [.sh (.int p), .sh (wd w)] = .ok (false, wd (wtms p w)) := by
  unfold F__law_word_times b__law_word_times
  walk_at "ew"
  rw [gd_pos (leLim h), filV_map (fun x => .int (pmul x p : Nat))]
  · walk_at "ew"
    simp only [wtms, wd, nis, List.map_map, Function.comp_def]
  · intro x hx
    walk_at "ew"
    rw [F__law_times_eq hp (wl_le.mp hw x hx)]
    rfl
theorem F__law_combined_eq {n : Nat} {ps : List Nat} {ws : List (List Nat)} (h1 : 1 ≤ n) (h2 : n ≤ 1000) (hp : ∀ p ∈ ps, bl p ≤ 100000) (hw : WsOk n ws) {d : PyData} (hd : d = .tuple (ws.map wd) ∨ d = .list (ws.map wd)) {e : PyData} (he : e = .tuple (nis ps) ∨ e = .list (nis ps)) :
    F__law_combined [.sh (.int (n : Nat)), .sh e, .sh d] = .ok (false, wd (wcomb n ps ws)) := by
  have key : (Res.thn (tab [(44, F__law_added), (45, F__law_word_times)]) (forV (fun x env' => optR ((Tg.tp (Tgs.cons (Tg.nm 4) (Tgs.cons (Tg.nm 5) Tgs.nil))).bv x env')
              (Sms.ev (tab [(44, F__law_added), (45, F__law_word_times)]) (Sms.cons (Sm.asg (Tg.nm 3) (Ex.call 44 (Exs.cons (Ex.var 3) (Exs.cons (Ex.call 45 (Exs.cons (Ex.var 4) (Exs.cons (Ex.var 5) Exs.nil))) Exs.nil)))) Sms.nil)))
          (List.map (fun p => PyData.tuple [PyData.int ↑p.fst, wd p.snd]) (ps.zip ws)) [Sl.sh (PyData.int ↑n), Sl.sh e, Sl.sh d, Sl.sh (wd (nought n)), Sl.un, Sl.un])
        (Sms.cons (Sm.ret (Ex.var 3)) Sms.nil)).val = Ev.ok (false, wd (wcomb n ps ws)) := by
    refine forV_lst (R := fun r => (Res.thn _ r _).val = _) (fun i env => ∃ s t, env = [.sh (.int (n : Nat)), .sh e, .sh d, .sh (wd (((ps.zip ws).take i).foldl (fun f p => wadd f (wtms p.1 p.2)) (nought n))), s, t]) ⟨.un, .un, rfl⟩ ?_ ?_
    · rintro i env hi ⟨s, t, rfl⟩
      have hm := zip_snd_mem (List.getElem_mem hi)
      have hl : ∀ p ∈ (ps.zip ws).take i, p.2.length = n := fun p hp => (hw _ (zip_snd_mem (List.mem_of_mem_take hp)).2).1
      have l1 := foldl_wadd_len ((ps.zip ws).take i) (nought n) (by simp [nought]) hl
      obtain ⟨w1, w2⟩ := hw _ hm.2
      walk_at "ew"
      rw [F__law_word_times_eq (hp _ hm.1) w2 (by omega)]
      walk_at "ew"
      rw [F__law_added_eq (by omega)]
      walk_at "ew"
      refine ⟨_, rfl, .sh (.int (((ps.zip ws)[i]).1 : Nat)), .sh (wd ((ps.zip ws)[i]).2), ?_⟩
      rw [foldl_take _ _ _ _ hi]
    · rintro env ⟨s, t, rfl⟩
      walk_at "ew"
      rw [List.take_length]
      rfl
  unfold F__law_combined b__law_combined
  rcases hd with rfl | rfl <;> rcases he with rfl | rfl <;>
  · walk_at "ew"
    rw [gd_nought h1 h2]
    walk_at "ew"
    rw [zipD_map]
    exact key
theorem F__law_leading_eq {w : List Nat} (h : 1 ≤ wl w) (hw : wl w ≤ 100000) (hl : w.length ≤ 1000000) : F__law_leading [.sh (wd w)] = .ok (false, wd (wlead w)) := by
  have ne : w ≠ [] := fun z => by subst z; simp [wl] at h
  unfold F__law_leading b__law_leading
  walk_at "ew"
  rw [gd_pos (leLim hl), filV_map (fun x => .int ((x >>> (wl w - 1) &&& 1 : Nat) : Int))]
  · walk_at "ew"
    simp only [wlead, wd, nis, List.map_map, Function.comp_def]
  · intro x hx
    rw [F__law_degree_eq ne hw hl]
    walk_at "ew"
    rw [wl_pos h, gd_pos (ge0 _)]
    walk_at "ew"
    rw [shrN, one_nat, bandN]
/-! W2: the law's own drawn words. -/
def N__law_of : List Str := ["source", "some"]
def b__law_of : Sms := (.cons (.ret (.ix (.var 1) (.call 1 (.cons (.var 0) (.cons (.bi .len (.cons (.var 1) .nil)) .nil)))))
    .nil)
def F__law_of : FV := evDef (tab [(1, F_pick)]) 2 2 b__law_of
def N__law_word : List Str := ["source", "n", "most", "digits", ".0", "k"]
def b__law_word : Sms := (.cons (.asg (.nm 3) (.bin .add (.lit (.int 1)) (.call 1 (.cons (.var 0) (.cons (.bin .add (.var 2) (.lit (.int 1))) .nil)))))
    (.cons (.ret (.bi .tuple (.cons (.comp (.ite (.cmp .gt (.call 1 (.cons (.var 0) (.cons (.lit (.int 5)) .nil))) (.lit (.int 0))) (.call 1 (.cons (.var 0) (.cons (.bin .shl (.lit (.int 1)) (.var 3)) .nil))) (.lit (.int 0))) (.nm 5) (.range1 (.var 1)) .nil [4, 5]) .nil)))
    .nil))
def F__law_word : FV := evDef (tab [(1, F_pick)]) 6 3 b__law_word
def N__law_words : List Str := ["source", "n", "many", "most", "found", "k", "word", "some", "late", ".0", "one"]
def b__law_words : Sms := (.cons (.asg (.nm 4) (.lst .nil))
    (.cons (.for_ (.nm 5) (.range1 (.var 2)) (.cons (.asg (.nm 6) (.call 48 (.cons (.var 0) (.cons (.var 1) (.cons (.var 3) .nil)))))
    (.cons (.ite (.and_ (.cmp .ne (.var 4) (.lst .nil)) (.cmp .eq (.call 1 (.cons (.var 0) (.cons (.lit (.int 4)) .nil))) (.lit (.int 0)))) (.cons (.asg (.nm 7) (.comp (.ite (.cmp .eq (.call 1 (.cons (.var 0) (.cons (.lit (.int 2)) .nil))) (.lit (.int 0))) (.bin .shl (.lit (.int 1)) (.call 1 (.cons (.var 0) (.cons (.lit (.int 3)) .nil)))) (.lit (.int 0))) (.nm 10) (.seq (.var 4)) .nil [9, 10]))
    (.cons (.asg (.nm 8) (.call 46 (.cons (.var 1) (.cons (.var 7) (.cons (.var 4) .nil)))))
    (.cons (.asg (.nm 6) (.ite (.cmp .le (.call 43 (.cons (.var 8) .nil)) (.var 3)) (.var 8) (.var 6)))
    .nil))) .nil)
    (.cons (.app 4 (.var 6))
    .nil))))
    (.cons (.ret (.bi .tuple (.cons (.var 4) .nil)))
    .nil)))
def F__law_words : FV := evDef (tab [(48, F__law_word), (1, F_pick), (46, F__law_combined), (43, F__law_degree)]) 11 4 b__law_words
def N__law_running : List Str := ["source", "most", "degree_v", "n"]
def b__law_running : Sms := (.cons (.asg (.nm 3) (.bin .add (.lit (.int 1)) (.call 1 (.cons (.var 0) (.cons (.var 1) .nil)))))
    (.cons (.ret (.tup (.cons (.var 3) (.cons (.call 49 (.cons (.var 0) (.cons (.var 3) (.cons (.call 2 (.cons (.var 0) (.cons (.lst (.cons (.lit (.int 0)) (.cons (.lit (.int 1)) (.cons (.lit (.int 1)) (.cons (.lit (.int 2)) (.cons (.lit (.int 2)) (.cons (.lit (.int 3)) (.cons (.lit (.int 4)) .nil)))))))) .nil))) (.cons (.var 2) .nil))))) .nil))))
    .nil))
def F__law_running : FV := evDef (tab [(1, F_pick), (49, F__law_words), (2, F__law_of)]) 4 3 b__law_running
theorem F__law_of_wp {ds : List PyData} (ne : ds ≠ []) (len : ds.length ≤ 1000) : (F__law_of [.src, .sh (.list ds)]).wq (fun v => ∃ d ∈ ds, v = (false, d)) No := by
  unfold F__law_of b__law_of
  walk_at "ew"
  refine pkQ _ rfl (List.length_pos_iff.mpr ne) (lt1000 (by omega)) fun r hr => ?_
  rw [atI_nat hr]
  walk_at "ew"
  exact ⟨_, List.getElem_mem hr, rfl⟩
/-- a drawn word: n of numbers of at most `most + 1` bits -/
def WordB (n most : Nat) (a : List Nat) : Prop := a.length = n ∧ wl a ≤ most + 1
theorem wl_app {a : List Nat} {y k : Nat} : wl (a ++ [y]) ≤ k ↔ wl a ≤ k ∧ bl y ≤ k := by
  rw [wl_le, wl_le]
  simp only [List.mem_append, List.mem_singleton]
  exact ⟨fun h => ⟨fun x hx => h x (.inl hx), h y (.inr rfl)⟩, fun h x hx => hx.elim (h.1 x) fun e => e ▸ h.2⟩
theorem pow_cast (n : Nat) : (1 : Int) * 2 ^ n = ((2 ^ n : Nat) : Int) := by rw [Int.one_mul]; norm_cast
theorem nis_app {a : List Nat} {y : Nat} : nis a ++ [.int (y : Nat)] = nis (a ++ [y]) := by simp [nis]
theorem F__law_word_wp {n most : Nat} (hn : n ≤ 1000) (hm : most ≤ 500) : (F__law_word [.src, .sh (.int n), .sh (.int most)]).wq (fun v => ∃ a, WordB n most a ∧ v = (false, wd a)) No := by
  unfold F__law_word b__law_word
  walk_at "ew"
  refine pkQ (most + 1) (by omega) (by omega) (lt1000 (by omega)) fun d hd => ?_
  rw [gd_pos (rngOk (by omega))]
  walk_at "ew"
  rw [gd_pos (leLim (by rw [intsD_length]; omega))]
  walk_at "down"
  refine filQ (fun i acc => ∃ a, acc = nis a ∧ a.length = i ∧ wl a ≤ most + 1) ?_ (acc := []) ⟨[], rfl, rfl, by simp [wl]⟩ ?_
  · rintro i x acc hx ⟨a, rfl, hl, ha⟩
    have put : ∀ y : Nat, bl y ≤ most + 1 → ∃ a', nis a ++ [.int (y : Nat)] = nis a' ∧ a'.length = i + 1 ∧ wl a' ≤ most + 1 := fun y hy => ⟨a ++ [y], nis_app, by simp [hl], wl_app.mpr ⟨ha, hy⟩⟩
    refine pkQ 5 rfl (by decide) (lt1000 (by decide)) fun q hq => ?_
    cases e : decide ((0 : Int) < (q : Nat)) with
    | true =>
      walk_at "ew"
      rw [show (1 : Int) + (d : Nat) = ((1 + d : Nat) : Int) by omega, one_nat, gd_pos (shlOk_nat (by rw [show bl 1 = 1 from rfl]; omega))]
      walk_at "ew"
      rw [pow_cast]
      refine pkQ _ rfl (Nat.one_le_two_pow) (Nat.pow_lt_pow_right (by decide) (by omega)) fun y hy => ?_
      walk_at "ew"
      exact put y (bl_le.mpr (Nat.lt_of_lt_of_le hy (Nat.pow_le_pow_right (by decide) (by omega))))
    | false =>
      walk_at "ew"
      exact put 0 (by rw [bl_zero]; omega)
  · rintro L ⟨a, rfl, hl, ha⟩
    walk_at "ew"
    exact ⟨a, ⟨by rw [hl, intsD_length], ha⟩, rfl⟩
/-- drawn words -/
def WordsB (n many most : Nat) (ws : List (List Nat)) : Prop := ws.length = many ∧ ∀ w ∈ ws, WordB n most w
theorem WordB.len {n most : Nat} {w : List Nat} (h : WordB n most w) : w.length = n := h.1
theorem wl_wadd_le {a b : List Nat} {k : Nat} (ha : wl a ≤ k) (hb : wl b ≤ k) : wl (wadd a b) ≤ k := by
  rw [wl_le] at *
  intro x hx
  obtain ⟨p, hp, rfl⟩ := List.mem_map.mp hx
  have h1 := bl_le.mp (ha _ (List.of_mem_zip hp).1)
  have h2 := bl_le.mp (hb _ (List.of_mem_zip hp).2)
  exact bl_le.mpr (Nat.xor_lt_two_pow h1 h2)
theorem bl_pmul {x y : Nat} : bl (pmul x y) ≤ bl x + bl y := by
  have key : ∀ k, bl (clm x y k) ≤ bl x + k := fun k => by
    induction k with
    | zero => show bl 0 ≤ _; rw [bl_zero]; omega
    | succ k ih =>
      refine bl_le.mpr (Nat.xor_lt_two_pow (bl_le.mp (by omega)) (bl_le.mp ?_))
      have h1 : y >>> k &&& 1 ≤ 1 := Nat.and_le_right
      have h2 := bl_shl x k
      rcases Nat.le_one_iff_eq_zero_or_eq_one.mp h1 with e | e <;> rw [e]
      · rw [Nat.zero_mul, bl_zero]; omega
      · rw [Nat.one_mul]; omega
  exact key _
theorem wl_wtms_le {p : Nat} {w : List Nat} : wl (wtms p w) ≤ wl w + bl p := by
  rw [wl_le]
  intro x hx
  obtain ⟨y, hy, rfl⟩ := List.mem_map.mp hx
  have := wl_le.mp (Nat.le_refl (wl w)) y hy
  have := @bl_pmul y p
  omega
theorem wcomb_len {n : Nat} {ps : List Nat} {ws : List (List Nat)} (h : ∀ w ∈ ws, w.length = n) : (wcomb n ps ws).length = n :=
  foldl_wadd_len _ _ (by simp [nought]) fun p hp => h _ (List.of_mem_zip hp).2
theorem wl_nought (n : Nat) : wl (nought n) = 0 := by
  apply Nat.le_zero.mp
  rw [wl_le]
  intro x hx
  rw [List.eq_of_mem_replicate hx, bl_zero]
  omega
theorem wl_foldl {k : Nat} : ∀ (xs : List (Nat × List Nat)) (f : List Nat), wl f ≤ k → (∀ p ∈ xs, bl p.1 + wl p.2 ≤ k) → wl (xs.foldl (fun f p => wadd f (wtms p.1 p.2)) f) ≤ k
  | [], f, h, _ => h
  | p :: xs, f, h, hx => wl_foldl xs _ (wl_wadd_le h (by have := hx p (List.mem_cons_self ..); have := @wl_wtms_le p.1 p.2; omega)) fun q hq => hx q (List.mem_cons_of_mem _ hq)
theorem wl_wcomb {n k : Nat} {ps : List Nat} {ws : List (List Nat)} (h : ∀ p ∈ ps.zip ws, bl p.1 + wl p.2 ≤ k) : wl (wcomb n ps ws) ≤ k :=
  wl_foldl _ _ (by rw [wl_nought]; omega) h
theorem dok_wd {w : List Nat} : dok 1 (wd w) := dok_tuple fun x hx => by obtain ⟨n, _, rfl⟩ := List.mem_map.mp hx; exact dok_int
theorem sh_wd {w : List Nat} : SeqAt.shaped (wd w) = true := shaped_of dok_wd (by decide)
theorem dok_wds {ws : List (List Nat)} : dok 2 (.list (ws.map wd)) := dok_list fun x hx => by obtain ⟨n, _, rfl⟩ := List.mem_map.mp hx; exact dok_wd
theorem sh_wds {ws : List (List Nat)} : SeqAt.shaped (.list (ws.map wd)) = true := shaped_of dok_wds (by decide)
theorem sh_wdsT {ws : List (List Nat)} : SeqAt.shaped (.tuple (ws.map wd)) = true := shaped_of (dok_tuple (k := 1) fun x hx => by obtain ⟨n, _, rfl⟩ := List.mem_map.mp hx; exact dok_wd) (by decide)
theorem flat_wd {w : List Nat} : flat (wd w) = true := flats_nis
theorem flats_wds {ws : List (List Nat)} : flats (ws.map wd) = true := by
  induction ws with
  | nil => rfl
  | cons n ns ih => rw [List.map_cons, flats_cons, ih, flat_wd]; rfl
local macro_rules | `(tactic| walk_at "ex") => `(tactic| try simp only [Sms.ev_cons, Sms.ev_nil, Ex_ev_var, Ex_ev_lit, Ex_ev_tup, Ex_ev_lst, Ex_ev_bin, Ex_ev_neg, Ex_ev_cmp, Ex_ev_cmp2, Ex_ev_and_, Ex_ev_or_, Ex_ev_not_, Ex_ev_ite, Ex_ev_call, Ex_ev_bi, Ex_ev_mth, Ex_ev_ix, Ex_ev_slc, Ex_ev_isa, Ex_ev_rev, Ex_ev_dic0, Ex_ev_comp, Exo_ev_no, Exo_ev_so, Exs_ev_nil, Exs_ev_cons, Exs_evt_nil, Exs_evt_cons, It_ev_seq, It_ev_range1, It_ev_range2, It_ev_enum, It_ev_zips, It_ev_zip, Exs_evf_nil, Exs_evf_cons, Sm_ev_asg_nm, Sm_ev_asg_tp, Sm_ev_par, Sm_ev_aug, Sm_ev_app, Sm_ev_setx, Sm_ev_ite, Sm_ev_for_, Sm_ev_whl, Sm_ev_retn, Sm_ev_brk, Sm_ev_cnt, Sm_ev_pass, Sm_ev_expr, Sm_ev_ret_lit, Sm_ev_ret_tup, Sm_ev_ret_lst, Sm_ev_ret_bin, Sm_ev_ret_neg, Sm_ev_ret_cmp, Sm_ev_ret_cmp2, Sm_ev_ret_and_, Sm_ev_ret_or_, Sm_ev_ret_not_, Sm_ev_ret_ite, Sm_ev_ret_call, Sm_ev_ret_bi, Sm_ev_ret_mth, Sm_ev_ret_ix, Sm_ev_ret_slc, Sm_ev_ret_isa, Sm_ev_ret_rev, Sm_ev_ret_dic0, Sm_ev_ret_comp, Ex.tst, Ev.ok_bind, Ev.ex_bind, Ev.bad_bind, evk_ok, evk_ex, evk_bad, Res.thn_nx, Res.thn_rt, Res.thn_bk, Res.thn_ct, Res.thn_ex, Res.thn_bad, gd_true, gdR_true, optV_some, optR_some, intV_int, seqV_list, seqV_tuple, lstV_list, twoV_list, twoV_tuple, tstV_bool, noex_ok, tab_cons, aft_eq, frz_eq, frzL_nil, frzL_un, frzL_sh, frzL_src, frzL_ow, memN_nil, memN_cons, leafy_int, leafy_bool, leafy_str, leafy_none, leafy_tuple, leafy_list, leafy_dict, flats_nil, flats_cons, flat_int, flat_bool, flat_str, flat_none, flat_tuple, flat_list, put_true, put_false, putAll_nil, putAll_cons, bv_nm, bv_tp, bv_nil, bv_cons, intO_int, wipeE, Ex.vs, Exs.vs, Exo.vs, It.vs, cond_true, cond_false, Bool.cond_self, Option.bind_some, Bool.true_and, Bool.and_true, Bool.false_or, Bool.or_false, Bool.true_or, Bool.or_true, Bool.false_and, Bool.and_false, Bool.not_true, Bool.not_false, decide_true, decide_false, reduceIte, List.map_cons, List.map_nil, List.cons_append, List.nil_append, List.replicate, List.length_cons, List.length_nil, Nat.reduceAdd, Nat.reduceSub, Nat.reduceEqDiff, Nat.reduceBEq, List.set_cons_succ, List.set_cons_zero, List.length_map, Nat.zero_add, evDef_eq, val_rt, val_nx, val_ex, Sm_ev_ext, Sm_ev_augx, Sm_ev_ret_v, binV_addI, binV_addS, binV_addL, binV_addT, binV_subI, binV_mulI, binV_mulT, binV_mulL, binV_fdivI, binV_modI, binV_powI, binV_shlI, binV_shrI, binV_bandI, binV_borI, binV_bxorI, augV_add, augV_sub, augV_band, augV_bor, augV_bxor, augV_mul, augV_fdiv, augV_mod, augV_shl, augV_shr, cmpV_eqI, cmpV_neI, cmpV_lt, cmpV_le, cmpV_gt, cmpV_ge, cmpV_eqIS, cmpV_neIS, cmpV_eqIB, cmpV_neIB, cmpV_eqIN, cmpV_neIN, cmpV_eqIL, cmpV_neIL, cmpV_eqIT, cmpV_neIT, cmpV_eqID, cmpV_neID, cmpV_eqSI, cmpV_neSI, cmpV_eqSS, cmpV_neSS, cmpV_eqSB, cmpV_neSB, cmpV_eqSN, cmpV_neSN, cmpV_eqSL, cmpV_neSL, cmpV_eqST, cmpV_neST, cmpV_eqSD, cmpV_neSD, cmpV_eqBI, cmpV_neBI, cmpV_eqBS, cmpV_neBS, cmpV_eqBB, cmpV_neBB, cmpV_eqBN, cmpV_neBN, cmpV_eqBL, cmpV_neBL, cmpV_eqBT, cmpV_neBT, cmpV_eqBD, cmpV_neBD, cmpV_eqNI, cmpV_neNI, cmpV_eqNS, cmpV_neNS, cmpV_eqNB, cmpV_neNB, cmpV_eqNN, cmpV_neNN, cmpV_eqNL, cmpV_neNL, cmpV_eqNT, cmpV_neNT, cmpV_eqND, cmpV_neND, cmpV_eqLI, cmpV_neLI, cmpV_eqLS, cmpV_neLS, cmpV_eqLB, cmpV_neLB, cmpV_eqLN, cmpV_neLN, cmpV_eqLL, cmpV_neLL, cmpV_eqLT, cmpV_neLT, cmpV_eqLD, cmpV_neLD, cmpV_eqTI, cmpV_neTI, cmpV_eqTS, cmpV_neTS, cmpV_eqTB, cmpV_neTB, cmpV_eqTN, cmpV_neTN, cmpV_eqTL, cmpV_neTL, cmpV_eqTT, cmpV_neTT, cmpV_eqTD, cmpV_neTD, cmpV_eqDI, cmpV_neDI, cmpV_eqDS, cmpV_neDS, cmpV_eqDB, cmpV_neDB, cmpV_eqDN, cmpV_neDN, cmpV_eqDL, cmpV_neDL, cmpV_eqDT, cmpV_neDT, cmpV_eqDD, cmpV_neDD, cmpV_isI, cmpV_inLItrue, cmpV_inTItrue, cmpV_inDItrue, cmpV_inLIfalse, cmpV_inTIfalse, cmpV_inDIfalse, cmpV_isS, cmpV_inLStrue, cmpV_inTStrue, cmpV_inDStrue, cmpV_inLSfalse, cmpV_inTSfalse, cmpV_inDSfalse, cmpV_isB, cmpV_inLBtrue, cmpV_inTBtrue, cmpV_inLBfalse, cmpV_inTBfalse, cmpV_isN, cmpV_inLNtrue, cmpV_inTNtrue, cmpV_inLNfalse, cmpV_inTNfalse, cmpV_isL, cmpV_inLLtrue, cmpV_inTLtrue, cmpV_inLLfalse, cmpV_inTLfalse, cmpV_isT, cmpV_inLTtrue, cmpV_inTTtrue, cmpV_inLTfalse, cmpV_inTTfalse, cmpV_isD, cmpV_inLDtrue, cmpV_inTDtrue, cmpV_inLDfalse, cmpV_inTDfalse, biV_lenL, biV_lenT, biV_lenS, biV_abs, biV_max2, biV_min2, biV_intI, biV_intB, biV_tuple_list, biV_tuple_tuple, biV_list_list, biV_list_tuple, biV_max_list, biV_max_tuple, biV_min_list, biV_min_tuple, biV_repr, biV_all, biV_any, biV_sorted, biV_sum, mtT_bits, mtT_indexL, mtT_indexT, mtT_get, mtV_bits, mtV_indexL, mtV_indexT, mtV_get1, mtV_get2, keyFor_int, keyFor_str, keyPut_int, keyPut_str, ixV_L, ixV_T, ixV_D, slV_L, slV_T, revV_L, revV_T, tstV_int, tstV_none, tstV_list, tstV_tuple, lstO_list, slot_sh, slot_ow, slot_succ, intAt_sh, intAt_succ, ownL_ow, ownL_succ, ownS_owL, ownS_owD, ownS_succ, retS_sh, retS_ow, retS_succ, leN_0, leN_1, leN_2, leN_3, leN_4, leN_5, leN_6, leN_7, leN_8, leN_9, leN_10, leN_11, leN_12, Int.toNat_natCast, Int.zero_add, Exs_eva_nil, Exs_eva_var, Exs_eva_lit, Exs_eva_tup, Exs_eva_lst, Exs_eva_bin, Exs_eva_neg, Exs_eva_cmp, Exs_eva_cmp2, Exs_eva_and_, Exs_eva_or_, Exs_eva_not_, Exs_eva_ite, Exs_eva_call, Exs_eva_bi, Exs_eva_mth, Exs_eva_ix, Exs_eva_slc, Exs_eva_isa, Exs_eva_rev, Exs_eva_dic0, Exs_eva_comp, Ev.pk_bind, evk_pk, noex_pk, Res.thn_pk, wp_nx, wp_rt, wp_ct, wp_bk, Ev.wp_ok, val_pk, F_pick_eq, slotA_sh, slotA_ow, slotA_src, slotA_succ, cnd_t, cnd_f, cnd_ex, cnd_pk, stepV_eq, sh_int, sh_bool, sh_none, sh_nilL, sh_nilT, eqv_nilL, eqv_nilT, frzL_jk, Bool.not_not, Bool.and_self, Int.reduceBEq, Int.reduceLT, Int.reduceLE, Int.reduceAdd, Int.reduceSub, Int.reduceNeg, Int.reduceMul, is_isInt_I, is_isInt_S, is_isInt_B, is_isInt_N, is_isInt_L, is_isInt_T, is_isInt_D, is_isBool_I, is_isBool_S, is_isBool_B, is_isBool_N, is_isBool_L, is_isBool_T, is_isBool_D, is_isTuple_I, is_isTuple_S, is_isTuple_B, is_isTuple_N, is_isTuple_L, is_isTuple_T, is_isTuple_D, is_isStr_I, is_isStr_S, is_isStr_B, is_isStr_N, is_isStr_L, is_isStr_T, is_isStr_D, is_isList_I, is_isList_S, is_isList_B, is_isList_N, is_isList_L, is_isList_T, is_isList_D, is_isDict_I, is_isDict_S, is_isDict_B, is_isDict_N, is_isDict_L, is_isDict_T, is_isDict_D, cast_0, cast_1, cast_2, cast_3, cast_4, cast_5, cast_6, cast_7, cast_8, cast_9, cast_10, cast_11, cast_12, cast_13, cast_14, cast_15, cast_16, cast_17, cast_18, cast_19, leN_13, leN_14, leN_15, leN_16, leN_17, leN_18, leN_19, leN_20, leN_21, leN_22, leN_23, toNat_0, toNat_1, toNat_2, toNat_3, toNat_4, toNat_5, toNat_6, toNat_7, toNat_8, toNat_9, toNat_10, toNat_11, toNat_12, toNat_13, toNat_14, toNat_15, toNat_16, toNat_17, toNat_18, toNat_19, toNat_20, toNat_21, toNat_22, toNat_23, toNat_24, toNat_25, toNat_26, toNat_27, toNat_28, toNat_29, toNat_30, toNat_31, toNat_32, toNat_33, toNat_34, toNat_35, toNat_36, toNat_37, toNat_38, toNat_39, toNat_40, wq_nx, wq_rt, wq_ct, wq_bk, Ev.wq_ok, Ev.wq_ex, wq_ex, Sm_ev_asx, slO_sh, slO_ow, slO_succ, twoV_listT, twoV_tupleL, Bool.false_eq_true, okv, okn, isaD, flats_nis, sh_wd, sh_wds, sh_wdsT, flat_wd, flats_wds])
theorem map_app {ws : List (List Nat)} {w : List Nat} : ws.map wd ++ [wd w] = (ws ++ [w]).map wd := by simp
theorem F__law_words_wp {n many most : Nat} (h1 : 1 ≤ n) (hn : n ≤ 1000) (hm : many ≤ 1000) (hs : most ≤ 500) : (F__law_words [.src, .sh (.int n), .sh (.int many), .sh (.int most)]).wq (fun v => ∃ ws, WordsB n many most ws ∧ v = (false, .tuple (ws.map wd))) No := by
  unfold F__law_words b__law_words
  walk_at "ex"
  rw [gd_pos (rngOk (by omega))]
  walk_at "ex"
  walk_at "down"
  refine forQ (fun i e => ∃ ws t5 t6 t7 t8, e = [.src, .sh (.int n), .sh (.int many), .sh (.int most), .ow (.list (ws.map wd)), jk t5, jk t6, jk t7, jk t8, .un, .un] ∧ WordsB n i most ws) ⟨[], .un, .un, .un, .un, rfl, rfl, by simp⟩ ?_ ?_
  · rintro i x e hx ⟨ws, t5, t6, t7, t8, rfl, hl, hw⟩
    obtain ⟨hi, rfl⟩ := intsD_get hx
    walk_at "ex"
    walk_at "down"
    refine (F__law_word_wp hn hs).no ?_
    rintro _ ⟨w, hw0, rfl⟩
    walk_at "ex"
    have put : ∀ (w' : List Nat) (t7 t8 : Sl), WordB n most w' → ∃ ws' u5 u6 u7 u8, [Sl.src, .sh (.int n), .sh (.int many), .sh (.int most), .ow (.list (ws.map wd ++ [wd w'])), .sh (.int i), .sh (wd w'), jk t7, jk t8, .un, .un] = [.src, .sh (.int n), .sh (.int many), .sh (.int most), .ow (.list (ws'.map wd)), jk u5, jk u6, jk u7, jk u8, .un, .un] ∧ WordsB n (i + 1) most ws' := fun w' t7 t8 h => by
      refine ⟨ws ++ [w'], .sh (.int i), .sh (wd w'), t7, t8, by rw [← map_app]; rfl, by rw [List.length_append, hl]; rfl, fun x hx => ?_⟩
      rcases List.mem_append.mp hx with z | z
      · exact hw x z
      · rw [List.mem_singleton.mp z]; exact h
    have ll : decide ((ws.map wd).length < lim) = true := decide_eq_true (by rw [List.length_map, hl]; unfold lim; omega)
    rw [List.length_map] at ll
    cases e : (ws.map wd).isEmpty with
    | true =>
      walk_at "ex"
      rw [gdR_pos ll]
      walk_at "ew"
      exact put w t7 t8 hw0
    | false =>
      walk_at "ex"
      walk_at "down"
      refine pkRQ 4 rfl (by decide) (lt1000 (by decide)) fun q hq => ?_
      walk_at "ex"
      cases e2 : ((q : Int) == 0) with
      | false =>
        walk_at "ex"
        rw [gdR_pos ll]
        walk_at "ew"
        exact put w t7 t8 hw0
      | true =>
        walk_at "ex"
        rw [gd_pos (leLim (by rw [hl]; omega))]
        walk_at "ex"
        walk_at "down"
        refine filQ (fun j acc => ∃ a, acc = nis a ∧ a.length = j ∧ ∀ y ∈ a, bl y ≤ 3) ?_ (acc := []) ⟨[], rfl, rfl, by simp⟩ ?_
        · rintro j x acc hx2 ⟨a, rfl, hla, ha⟩
          have put2 : ∀ y : Nat, bl y ≤ 3 → ∃ a', nis a ++ [.int (y : Nat)] = nis a' ∧ a'.length = j + 1 ∧ ∀ y ∈ a', bl y ≤ 3 := fun y hy => ⟨a ++ [y], nis_app, by simp [hla], fun z hz => by
            rcases List.mem_append.mp hz with z1 | z1
            · exact ha z z1
            · rw [List.mem_singleton.mp z1]; exact hy⟩
          walk_at "ex"
          refine pkQ 2 rfl (by decide) (lt1000 (by decide)) fun q2 hq2 => ?_
          cases e3 : ((q2 : Int) == 0) with
          | false =>
            walk_at "ex"
            walk_at "ew"
            exact put2 0 (by decide)
          | true =>
            walk_at "ex"
            refine pkQ 3 rfl (by decide) (lt1000 (by decide)) fun q3 hq3 => ?_
            rw [one_nat, gd_pos (shlOk_nat (by rw [show bl 1 = 1 from rfl]; omega))]
            walk_at "ex"
            rw [pow_cast]
            walk_at "ew"
            exact put2 _ (bl_le.mpr (Nat.pow_lt_pow_right (by decide) (by omega)))
        · rintro L ⟨a, rfl, hla, ha⟩
          have hok : WsOk n ws := fun w hw1 => ⟨(hw w hw1).1, by have := (hw w hw1).2; omega⟩
          have hap : ∀ p ∈ a, bl p ≤ 100000 := fun p hp => by have := ha p hp; omega
          walk_at "ex"
          rw [F__law_combined_eq h1 hn hap hok (.inr rfl) (.inr rfl)]
          have cl : (wcomb n a ws).length = n := wcomb_len fun w h => (hok w h).1
          have cw : wl (wcomb n a ws) ≤ 1000 := wl_wcomb fun p hp => by
            have h1 := ha _ (List.of_mem_zip hp).1
            have h2 := (hw _ (List.of_mem_zip hp).2).2
            omega
          walk_at "ex"
          rw [F__law_degree_eq (fun z => by rw [z] at cl; simp at cl; omega) (by omega) (by omega)]
          walk_at "ex"
          cases e4 : decide (((wl (wcomb n a ws) : Nat) : Int) - 1 ≤ (most : Nat)) with
          | true =>
            walk_at "ex"
            rw [gdR_pos ll]
            walk_at "ew"
            exact put _ (.ow _) (.sh _) ⟨cl, by have := of_decide_eq_true e4; omega⟩
          | false =>
            walk_at "ex"
            rw [gdR_pos ll]
            walk_at "ew"
            exact put _ (.ow _) (.sh _) hw0
  · rintro e ⟨ws, t5, t6, t7, t8, rfl, hl, hw⟩
    walk_at "ex"
    exact ⟨ws, ⟨by rw [hl, intsD_length], hw⟩, rfl⟩
theorem F__law_running_wp {most dv : Nat} (h1 : 1 ≤ most) (hm : most ≤ 1000) (hs : dv ≤ 500) : (F__law_running [.src, .sh (.int most), .sh (.int dv)]).wq (fun v => ∃ n many ws, 1 ≤ n ∧ n ≤ most ∧ many ≤ 4 ∧ WordsB n many dv ws ∧ v = (false, .tuple [.int (n : Nat), .tuple (ws.map wd)])) No := by
  unfold F__law_running b__law_running
  walk_at "ex"
  refine pkQ most rfl h1 (lt1000 (by omega)) fun d hd => ?_
  walk_at "down"
  refine (F__law_of_wp (by simp) (by simp)).no ?_
  rintro _ ⟨m, hm, rfl⟩
  have hm : ∃ many : Nat, m = .int (many : Nat) ∧ many ≤ 4 := by
    simp only [List.mem_cons, List.not_mem_nil, or_false] at hm
    rcases hm with rfl | rfl | rfl | rfl | rfl | rfl | rfl
    · exact ⟨0, rfl, by decide⟩
    · exact ⟨1, rfl, by decide⟩
    · exact ⟨1, rfl, by decide⟩
    · exact ⟨2, rfl, by decide⟩
    · exact ⟨2, rfl, by decide⟩
    · exact ⟨3, rfl, by decide⟩
    · exact ⟨4, rfl, by decide⟩
  obtain ⟨many, rfl, hmany⟩ := hm
  walk_at "ex"
  rw [show (1 : Int) + (d : Nat) = ((1 + d : Nat) : Int) by omega]
  walk_at "down"
  refine (F__law_words_wp (by omega) (by omega) (by omega) hs).no ?_
  rintro _ ⟨ws, hw, rfl⟩
  walk_at "ex"
  exact ⟨1 + d, many, ws, by omega, by omega, hmany, hw, rfl⟩
/-! W3: words and running codes judged. -/
def N_is_polynomial : List Str := ["value"]
def b_is_polynomial : Sms := (.cons (.ret (.and_ (.isa (.var 0) .int) (.and_ (.not_ (.isa (.var 0) .bool)) (.cmp2 .le .lt (.lit (.int 0)) (.var 0) (.bin .shl (.lit (.int 1)) (.lit (.int 40)))))))
    .nil)
def F_is_polynomial : FV := evDef (tab []) 1 1 b_is_polynomial
def N_is_word : List Str := ["n", "value", ".0", "p"]
def b_is_word : Sms := (.cons (.ret (.and_ (.isa (.var 1) .tup) (.and_ (.cmp .eq (.bi .len (.cons (.var 1) .nil)) (.var 0)) (.bi .all (.cons (.comp (.call 57 (.cons (.var 3) .nil)) (.nm 3) (.seq (.var 1)) .nil [2, 3]) .nil)))))
    .nil)
def F_is_word : FV := evDef (tab [(57, F_is_polynomial)]) 4 2 b_is_word
def N_is_running : List Str := ["value", "n", "words", ".0", "word"]
def b_is_running : Sms := (.cons (.ite (.or_ (.not_ (.isa (.var 0) .tup)) (.or_ (.cmp .ne (.bi .len (.cons (.var 0) .nil)) (.lit (.int 2))) (.not_ (.call 57 (.cons (.ix (.var 0) (.lit (.int 0))) .nil))))) (.cons (.ret (.lit (.bool false)))
    .nil) .nil)
    (.cons (.asg (.tp (.cons (.nm 1) (.cons (.nm 2) .nil))) (.var 0))
    (.cons (.ite (.or_ (.not_ (.cmp2 .le .le (.lit (.int 1)) (.var 1) (.lit (.int 4)))) (.or_ (.not_ (.isa (.var 2) .tup)) (.cmp .gt (.bi .len (.cons (.var 2) .nil)) (.lit (.int 4))))) (.cons (.ret (.lit (.bool false)))
    .nil) .nil)
    (.cons (.ret (.bi .all (.cons (.comp (.and_ (.call 58 (.cons (.var 1) (.cons (.var 4) .nil))) (.cmp .le (.call 9 (.cons (.var 4) .nil)) (.lit (.int 12)))) (.nm 4) (.seq (.var 2)) .nil [3, 4]) .nil)))
    .nil))))
def F_is_running : FV := evDef (tab [(57, F_is_polynomial), (58, F_is_word), (9, F_word_degree)]) 5 1 b_is_running
def N__law_is_word : List Str := ["n", "value", ".0", "p"]
def b__law_is_word : Sms := (.cons (.ite (.or_ (.not_ (.isa (.var 1) .tup)) (.cmp .ne (.bi .len (.cons (.var 1) .nil)) (.var 0))) (.cons (.ret (.lit (.bool false)))
    .nil) .nil)
    (.cons (.ret (.cmp .eq (.comp (.lit (.int 1)) (.nm 3) (.seq (.var 1)) (.cons (.or_ (.not_ (.isa (.var 3) .int)) (.or_ (.isa (.var 3) .bool) (.not_ (.cmp2 .le .lt (.lit (.int 0)) (.var 3) (.bin .shl (.lit (.int 1)) (.lit (.int 40))))))) .nil) [2, 3]) (.lst .nil)))
    .nil))
def F__law_is_word : FV := evDef (tab []) 4 2 b__law_is_word
def N__law_is_running : List Str := ["value", "n", "words", ".0", "word"]
def b__law_is_running : Sms := (.cons (.ite (.or_ (.not_ (.isa (.var 0) .tup)) (.or_ (.cmp .ne (.bi .len (.cons (.var 0) .nil)) (.lit (.int 2))) (.or_ (.not_ (.isa (.ix (.var 0) (.lit (.int 0))) .int)) (.isa (.ix (.var 0) (.lit (.int 0))) .bool)))) (.cons (.ret (.lit (.bool false)))
    .nil) .nil)
    (.cons (.asg (.tp (.cons (.nm 1) (.cons (.nm 2) .nil))) (.var 0))
    (.cons (.ite (.or_ (.not_ (.cmp2 .le .le (.lit (.int 1)) (.var 1) (.lit (.int 4)))) (.or_ (.not_ (.isa (.var 2) .tup)) (.cmp .gt (.bi .len (.cons (.var 2) .nil)) (.lit (.int 4))))) (.cons (.ret (.lit (.bool false)))
    .nil) .nil)
    (.cons (.ret (.cmp .eq (.comp (.lit (.int 1)) (.nm 4) (.seq (.var 2)) (.cons (.or_ (.not_ (.call 60 (.cons (.var 1) (.cons (.var 4) .nil)))) (.cmp .gt (.call 43 (.cons (.var 4) .nil)) (.lit (.int 12)))) .nil) [3, 4]) (.lst .nil)))
    .nil))))
def F__law_is_running : FV := evDef (tab [(60, F__law_is_word), (43, F__law_degree)]) 5 1 b__law_is_running
local macro_rules | `(tactic| walk_at "ex") => `(tactic| try simp only [Sms.ev_cons, Sms.ev_nil, Ex_ev_var, Ex_ev_lit, Ex_ev_tup, Ex_ev_lst, Ex_ev_bin, Ex_ev_neg, Ex_ev_cmp, Ex_ev_cmp2, Ex_ev_and_, Ex_ev_or_, Ex_ev_not_, Ex_ev_ite, Ex_ev_call, Ex_ev_bi, Ex_ev_mth, Ex_ev_ix, Ex_ev_slc, Ex_ev_isa, Ex_ev_rev, Ex_ev_dic0, Ex_ev_comp, Exo_ev_no, Exo_ev_so, Exs_ev_nil, Exs_ev_cons, Exs_evt_nil, Exs_evt_cons, It_ev_seq, It_ev_range1, It_ev_range2, It_ev_enum, It_ev_zips, It_ev_zip, Exs_evf_nil, Exs_evf_cons, Sm_ev_asg_nm, Sm_ev_asg_tp, Sm_ev_par, Sm_ev_aug, Sm_ev_app, Sm_ev_setx, Sm_ev_ite, Sm_ev_for_, Sm_ev_whl, Sm_ev_retn, Sm_ev_brk, Sm_ev_cnt, Sm_ev_pass, Sm_ev_expr, Sm_ev_ret_lit, Sm_ev_ret_tup, Sm_ev_ret_lst, Sm_ev_ret_bin, Sm_ev_ret_neg, Sm_ev_ret_cmp, Sm_ev_ret_cmp2, Sm_ev_ret_and_, Sm_ev_ret_or_, Sm_ev_ret_not_, Sm_ev_ret_ite, Sm_ev_ret_call, Sm_ev_ret_bi, Sm_ev_ret_mth, Sm_ev_ret_ix, Sm_ev_ret_slc, Sm_ev_ret_isa, Sm_ev_ret_rev, Sm_ev_ret_dic0, Sm_ev_ret_comp, Ex.tst, Ev.ok_bind, Ev.ex_bind, Ev.bad_bind, evk_ok, evk_ex, evk_bad, Res.thn_nx, Res.thn_rt, Res.thn_bk, Res.thn_ct, Res.thn_ex, Res.thn_bad, gd_true, gdR_true, optV_some, optR_some, intV_int, seqV_list, seqV_tuple, lstV_list, twoV_list, twoV_tuple, tstV_bool, noex_ok, tab_cons, aft_eq, frz_eq, frzL_nil, frzL_un, frzL_sh, frzL_src, frzL_ow, memN_nil, memN_cons, leafy_int, leafy_bool, leafy_str, leafy_none, leafy_tuple, leafy_list, leafy_dict, flats_nil, flats_cons, flat_int, flat_bool, flat_str, flat_none, flat_tuple, flat_list, put_true, put_false, putAll_nil, putAll_cons, bv_nm, bv_tp, bv_nil, bv_cons, intO_int, wipeE, Ex.vs, Exs.vs, Exo.vs, It.vs, cond_true, cond_false, Bool.cond_self, Option.bind_some, Bool.true_and, Bool.and_true, Bool.false_or, Bool.or_false, Bool.true_or, Bool.or_true, Bool.false_and, Bool.and_false, Bool.not_true, Bool.not_false, decide_true, decide_false, reduceIte, List.map_cons, List.map_nil, List.cons_append, List.nil_append, List.replicate, List.length_cons, List.length_nil, Nat.reduceAdd, Nat.reduceSub, Nat.reduceEqDiff, Nat.reduceBEq, List.set_cons_succ, List.set_cons_zero, List.length_map, Nat.zero_add, evDef_eq, val_rt, val_nx, val_ex, Sm_ev_ext, Sm_ev_augx, Sm_ev_ret_v, binV_addI, binV_addS, binV_addL, binV_addT, binV_subI, binV_mulI, binV_mulT, binV_mulL, binV_fdivI, binV_modI, binV_powI, binV_shlI, binV_shrI, binV_bandI, binV_borI, binV_bxorI, augV_add, augV_sub, augV_band, augV_bor, augV_bxor, augV_mul, augV_fdiv, augV_mod, augV_shl, augV_shr, cmpV_eqI, cmpV_neI, cmpV_lt, cmpV_le, cmpV_gt, cmpV_ge, cmpV_eqIS, cmpV_neIS, cmpV_eqIB, cmpV_neIB, cmpV_eqIN, cmpV_neIN, cmpV_eqIL, cmpV_neIL, cmpV_eqIT, cmpV_neIT, cmpV_eqID, cmpV_neID, cmpV_eqSI, cmpV_neSI, cmpV_eqSS, cmpV_neSS, cmpV_eqSB, cmpV_neSB, cmpV_eqSN, cmpV_neSN, cmpV_eqSL, cmpV_neSL, cmpV_eqST, cmpV_neST, cmpV_eqSD, cmpV_neSD, cmpV_eqBI, cmpV_neBI, cmpV_eqBS, cmpV_neBS, cmpV_eqBB, cmpV_neBB, cmpV_eqBN, cmpV_neBN, cmpV_eqBL, cmpV_neBL, cmpV_eqBT, cmpV_neBT, cmpV_eqBD, cmpV_neBD, cmpV_eqNI, cmpV_neNI, cmpV_eqNS, cmpV_neNS, cmpV_eqNB, cmpV_neNB, cmpV_eqNN, cmpV_neNN, cmpV_eqNL, cmpV_neNL, cmpV_eqNT, cmpV_neNT, cmpV_eqND, cmpV_neND, cmpV_eqLI, cmpV_neLI, cmpV_eqLS, cmpV_neLS, cmpV_eqLB, cmpV_neLB, cmpV_eqLN, cmpV_neLN, cmpV_eqLL, cmpV_neLL, cmpV_eqLT, cmpV_neLT, cmpV_eqLD, cmpV_neLD, cmpV_eqTI, cmpV_neTI, cmpV_eqTS, cmpV_neTS, cmpV_eqTB, cmpV_neTB, cmpV_eqTN, cmpV_neTN, cmpV_eqTL, cmpV_neTL, cmpV_eqTT, cmpV_neTT, cmpV_eqTD, cmpV_neTD, cmpV_eqDI, cmpV_neDI, cmpV_eqDS, cmpV_neDS, cmpV_eqDB, cmpV_neDB, cmpV_eqDN, cmpV_neDN, cmpV_eqDL, cmpV_neDL, cmpV_eqDT, cmpV_neDT, cmpV_eqDD, cmpV_neDD, cmpV_isI, cmpV_inLItrue, cmpV_inTItrue, cmpV_inDItrue, cmpV_inLIfalse, cmpV_inTIfalse, cmpV_inDIfalse, cmpV_isS, cmpV_inLStrue, cmpV_inTStrue, cmpV_inDStrue, cmpV_inLSfalse, cmpV_inTSfalse, cmpV_inDSfalse, cmpV_isB, cmpV_inLBtrue, cmpV_inTBtrue, cmpV_inLBfalse, cmpV_inTBfalse, cmpV_isN, cmpV_inLNtrue, cmpV_inTNtrue, cmpV_inLNfalse, cmpV_inTNfalse, cmpV_isL, cmpV_inLLtrue, cmpV_inTLtrue, cmpV_inLLfalse, cmpV_inTLfalse, cmpV_isT, cmpV_inLTtrue, cmpV_inTTtrue, cmpV_inLTfalse, cmpV_inTTfalse, cmpV_isD, cmpV_inLDtrue, cmpV_inTDtrue, cmpV_inLDfalse, cmpV_inTDfalse, biV_lenL, biV_lenT, biV_lenS, biV_abs, biV_max2, biV_min2, biV_intI, biV_intB, biV_tuple_list, biV_tuple_tuple, biV_list_list, biV_list_tuple, biV_max_list, biV_max_tuple, biV_min_list, biV_min_tuple, biV_repr, biV_all, biV_any, biV_sorted, biV_sum, mtT_bits, mtT_indexL, mtT_indexT, mtT_get, mtV_bits, mtV_indexL, mtV_indexT, mtV_get1, mtV_get2, keyFor_int, keyFor_str, keyPut_int, keyPut_str, ixV_L, ixV_T, ixV_D, slV_L, slV_T, revV_L, revV_T, tstV_int, tstV_none, tstV_list, tstV_tuple, lstO_list, slot_sh, slot_ow, slot_succ, intAt_sh, intAt_succ, ownL_ow, ownL_succ, ownS_owL, ownS_owD, ownS_succ, retS_sh, retS_ow, retS_succ, leN_0, leN_1, leN_2, leN_3, leN_4, leN_5, leN_6, leN_7, leN_8, leN_9, leN_10, leN_11, leN_12, Int.toNat_natCast, Int.zero_add, Exs_eva_nil, Exs_eva_var, Exs_eva_lit, Exs_eva_tup, Exs_eva_lst, Exs_eva_bin, Exs_eva_neg, Exs_eva_cmp, Exs_eva_cmp2, Exs_eva_and_, Exs_eva_or_, Exs_eva_not_, Exs_eva_ite, Exs_eva_call, Exs_eva_bi, Exs_eva_mth, Exs_eva_ix, Exs_eva_slc, Exs_eva_isa, Exs_eva_rev, Exs_eva_dic0, Exs_eva_comp, Ev.pk_bind, evk_pk, noex_pk, Res.thn_pk, wp_nx, wp_rt, wp_ct, wp_bk, Ev.wp_ok, val_pk, F_pick_eq, slotA_sh, slotA_ow, slotA_src, slotA_succ, cnd_t, cnd_f, cnd_ex, cnd_pk, stepV_eq, sh_int, sh_bool, sh_none, sh_nilL, sh_nilT, eqv_nilL, eqv_nilT, frzL_jk, Bool.not_not, Bool.and_self, Int.reduceBEq, Int.reduceLT, Int.reduceLE, Int.reduceAdd, Int.reduceSub, Int.reduceNeg, Int.reduceMul, is_isInt_I, is_isInt_S, is_isInt_B, is_isInt_N, is_isInt_L, is_isInt_T, is_isInt_D, is_isBool_I, is_isBool_S, is_isBool_B, is_isBool_N, is_isBool_L, is_isBool_T, is_isBool_D, is_isTuple_I, is_isTuple_S, is_isTuple_B, is_isTuple_N, is_isTuple_L, is_isTuple_T, is_isTuple_D, is_isStr_I, is_isStr_S, is_isStr_B, is_isStr_N, is_isStr_L, is_isStr_T, is_isStr_D, is_isList_I, is_isList_S, is_isList_B, is_isList_N, is_isList_L, is_isList_T, is_isList_D, is_isDict_I, is_isDict_S, is_isDict_B, is_isDict_N, is_isDict_L, is_isDict_T, is_isDict_D, cast_0, cast_1, cast_2, cast_3, cast_4, cast_5, cast_6, cast_7, cast_8, cast_9, cast_10, cast_11, cast_12, cast_13, cast_14, cast_15, cast_16, cast_17, cast_18, cast_19, leN_13, leN_14, leN_15, leN_16, leN_17, leN_18, leN_19, leN_20, leN_21, leN_22, leN_23, toNat_0, toNat_1, toNat_2, toNat_3, toNat_4, toNat_5, toNat_6, toNat_7, toNat_8, toNat_9, toNat_10, toNat_11, toNat_12, toNat_13, toNat_14, toNat_15, toNat_16, toNat_17, toNat_18, toNat_19, toNat_20, toNat_21, toNat_22, toNat_23, toNat_24, toNat_25, toNat_26, toNat_27, toNat_28, toNat_29, toNat_30, toNat_31, toNat_32, toNat_33, toNat_34, toNat_35, toNat_36, toNat_37, toNat_38, toNat_39, toNat_40, wq_nx, wq_rt, wq_ct, wq_bk, Ev.wq_ok, Ev.wq_ex, wq_ex, Sm_ev_asx, slO_sh, slO_ow, slO_succ, twoV_listT, twoV_tupleL, Bool.false_eq_true, okv, okn, isaD, flats_nis, sh_wd, sh_wds, sh_wdsT, flat_wd, flats_wds, sh_ones])
def isPoly : PyData → Bool
  | .int i => decide (0 ≤ i) && decide (i < 2 ^ 40)
  | _ => false
theorem F_is_polynomial_eq (d : PyData) : F_is_polynomial [.sh d] = .ok (false, .bool (isPoly d)) := by
  unfold F_is_polynomial b_is_polynomial
  cases d with
  | int i =>
    walk_at "ex"
    cases e : decide ((0 : Int) ≤ i) with
    | true =>
      walk_at "ex"
      rw [gd_pos (by decide)]
      walk_at "ex"
      simp only [isPoly, e, Bool.true_and]
      rfl
    | false =>
      walk_at "ex"
      simp only [isPoly, e, Bool.false_and]
  | _ => walk_at "ex"; rfl
def isWd (n : Int) : PyData → Bool
  | .tuple xs => ((xs.length : Int) == n) && xs.all isPoly
  | _ => false
theorem F_is_word_eq {n : Int} (hn : n ≤ 1000000) (d : PyData) : F_is_word [.sh (.int n), .sh d] = .ok (false, .bool (isWd n d)) := by
  unfold F_is_word b_is_word
  cases d with
  | tuple xs =>
    walk_at "ex"
    cases e : ((xs.length : Int) == n) with
    | true =>
      walk_at "ex"
      have e' : (xs.length : Int) = n := by simpa using e
      rw [gd_pos (leLim (by omega)), filV_mapD (fun d => .bool (isPoly d))]
      · walk_at "ex"
        rw [allBools_map]
        walk_at "ex"
        rw [all_map_id]
        simp only [isWd, e, Bool.true_and]
      · intro x hx
        walk_at "ex"
        rw [F_is_polynomial_eq]
        rfl
    | false =>
      walk_at "ex"
      simp only [isWd, e, Bool.false_and]
  | _ => walk_at "ex"; rfl
theorem F__law_is_word_eq {n : Int} (hn : n ≤ 1000000) (d : PyData) : F__law_is_word [.sh (.int n), .sh d] = .ok (false, .bool (isWd n d)) := by
  unfold F__law_is_word b__law_is_word
  cases d with
  | tuple xs =>
    walk_at "ex"
    cases e : ((xs.length : Int) == n) with
    | true =>
      walk_at "ex"
      have e' : (xs.length : Int) = n := by simpa using e
      rw [gd_pos (leLim (by omega)), filV_filD (fun d => !isPoly d) (fun _ => .int 1)]
      · walk_at "ex"
        rw [filt_empty]
        simp only [isWd, e, Bool.true_and, Bool.not_not]
      · intro x hx
        cases x with
        | int i =>
          walk_at "ex"
          cases e2 : decide ((0 : Int) ≤ i) with
          | true =>
            walk_at "ex"
            rw [gd_pos (by decide)]
            walk_at "ex"
            simp only [isPoly, e2, Bool.true_and]
            have e3 : (1 * 2 ^ 40 : Int) = 2 ^ 40 := by decide
            rw [e3]
            cases decide (i < 2 ^ 40) <;> rfl
          | false =>
            walk_at "ex"
            simp only [isPoly, e2, Bool.false_and]
            rfl
        | _ => walk_at "ex"; rfl
    | false =>
      walk_at "ex"
      simp only [isWd, e, Bool.false_and]
  | _ => walk_at "ex"; rfl
def natOf : PyData → Nat
  | .int i => i.toNat
  | _ => 0
def wordOf : PyData → List Nat
  | .tuple xs => xs.map natOf
  | _ => []
theorem poly_nat {d : PyData} (h : isPoly d = true) : d = .int (natOf d : Nat) ∧ bl (natOf d) ≤ 40 := by
  cases d with
  | int i =>
    simp only [isPoly, Bool.and_eq_true, decide_eq_true_eq] at h
    have e : ((natOf (.int i) : Nat) : Int) = i := by show ((i.toNat : Nat) : Int) = i; omega
    refine ⟨by rw [e], bl_le.mpr ?_⟩
    have h2 := h.2
    rw [← e] at h2
    exact_mod_cast h2
  | _ => cases h
theorem wd_of {n : Int} {w : PyData} (h : isWd n w = true) : w = wd (wordOf w) ∧ (((wordOf w).length : Nat) : Int) = n ∧ wl (wordOf w) ≤ 40 := by
  cases w with
  | tuple xs =>
    simp only [isWd, Bool.and_eq_true, beq_iff_eq, List.all_eq_true] at h
    refine ⟨?_, by show (((xs.map natOf).length : Nat) : Int) = n; rw [List.length_map]; exact h.1, wl_le.mpr fun x hx => ?_⟩
    · show PyData.tuple xs = .tuple ((xs.map natOf).map fun n => .int (n : Nat))
      congr 1
      rw [List.map_map]
      conv => lhs; rw [← List.map_id xs]
      exact List.map_congr_left fun x hx => (poly_nat (h.2 x hx)).1
    · obtain ⟨y, hy, rfl⟩ := List.mem_map.mp hx
      exact (poly_nat (h.2 y hy)).2
  | _ => cases h
def okW (n : Int) (w : PyData) : Bool := isWd n w && decide (((wl (wordOf w) : Nat) : Int) - 1 ≤ 12)
def isRun : PyData → Bool
  | .tuple [.int n, .tuple ws] => decide (0 ≤ n) && (decide (n < 2 ^ 40) && (decide (1 ≤ n) && (decide (n ≤ 4) && (decide ((ws.length : Int) ≤ 4) && ws.all (okW n)))))
  | _ => false
theorem atI_two {a b : PyData} : atI [a, b] 0 = some a := rfl
theorem F_word_degree_isWd {n : Int} {w : PyData} (h1 : 1 ≤ n) (hn : n ≤ 4) (h : isWd n w = true) : F_word_degree [.sh w] = .ok (false, .int ((wl (wordOf w) : Nat) - 1)) := by
  obtain ⟨e, l, _⟩ := wd_of h
  rw [e]
  have := @F_word_degree_eq (wordOf w) (fun z => by rw [z] at l; simp at l; omega) (by omega)
  rw [this]
  rw [← e]
theorem F__law_degree_isWd {n : Int} {w : PyData} (h1 : 1 ≤ n) (hn : n ≤ 4) (h : isWd n w = true) : F__law_degree [.sh w] = .ok (false, .int ((wl (wordOf w) : Nat) - 1)) := by
  obtain ⟨e, l, m⟩ := wd_of h
  rw [e]
  have := @F__law_degree_eq (wordOf w) (fun z => by rw [z] at l; simp at l; omega) (by omega) (by omega)
  rw [this]
  rw [← e]
theorem two_of_three {n : Nat} : ((((n + 1 + 1 + 1 : Nat)) : Int) == 2) = false := by simp only [beq_eq_false_iff_ne]; omega
theorem isRun_no {n : Int} {b : PyData} (h : isPoly (.int n) = false) : isRun (.tuple [.int n, b]) = false := by
  cases b with
  | tuple ws =>
    show (decide (0 ≤ n) && (decide (n < 2 ^ 40) && _)) = false
    rw [← Bool.and_assoc, show (decide (0 ≤ n) && decide (n < 2 ^ 40)) = isPoly (.int n) from rfl, h, Bool.false_and]
  | _ => rfl
theorem isRun_yes {n : Int} {ws : List PyData} (h : isPoly (.int n) = true) : isRun (.tuple [.int n, .tuple ws]) = (decide (1 ≤ n) && (decide (n ≤ 4) && (decide ((ws.length : Int) ≤ 4) && ws.all (okW n)))) := by
  show (decide (0 ≤ n) && (decide (n < 2 ^ 40) && _)) = _
  rw [← Bool.and_assoc, show (decide (0 ≤ n) && decide (n < 2 ^ 40)) = isPoly (.int n) from rfl, h, Bool.true_and]
theorem gt_le {a b : Int} : decide (b < a) = !decide (a ≤ b) := by
  by_cases h : a ≤ b
  · rw [decide_eq_true h, decide_eq_false (by omega)]; rfl
  · rw [decide_eq_false h, decide_eq_true (by omega)]; rfl
theorem F_is_running_eq (d : PyData) : F_is_running [.sh d] = .ok (false, .bool (isRun d)) := by
  unfold F_is_running b_is_running
  cases d with
  | tuple xs =>
    match xs with
    | [] => walk_at "ex"; rfl
    | [a] => walk_at "ex"; cases a <;> rfl
    | a :: b :: c :: r =>
      walk_at "ex"
      rw [two_of_three]
      walk_at "ex"
      cases a <;> cases b <;> rfl
    | [a, b] =>
      walk_at "ex"
      rw [atI_two]
      walk_at "ex"
      rw [F_is_polynomial_eq]
      walk_at "ex"
      cases a with
      | int n =>
        cases e : isPoly (.int n) with
        | false =>
          walk_at "ex"
          rw [isRun_no e]
        | true =>
          walk_at "ex"
          cases b with
          | tuple ws =>
            rw [isRun_yes e]
            walk_at "ex"
            cases e1 : decide (1 ≤ n) with
            | false => walk_at "ex"
            | true =>
              walk_at "ex"
              cases e2 : decide (n ≤ 4) with
              | false => walk_at "ex"
              | true =>
                walk_at "ex"
                rw [gt_le]
                cases e3 : decide (((ws.length : Nat) : Int) ≤ 4) with
                | false => walk_at "ex"
                | true =>
                  have e1' := of_decide_eq_true e1
                  have e2' := of_decide_eq_true e2
                  have e3' := of_decide_eq_true e3
                  walk_at "ex"
                  rw [gd_pos (leLim (by omega)), filV_mapD (fun w => .bool (okW n w))]
                  · walk_at "ex"
                    rw [allBools_map]
                    walk_at "ex"
                    rw [all_map_id]
                  · intro w hw
                    walk_at "ex"
                    rw [F_is_word_eq (by omega)]
                    walk_at "ex"
                    cases e4 : isWd n w with
                    | false =>
                      walk_at "ex"
                      simp only [okW, e4, Bool.false_and]
                    | true =>
                      walk_at "ex"
                      rw [F_word_degree_isWd e1' e2' e4]
                      walk_at "ex"
                      simp only [okW, e4, Bool.true_and]
          | _ =>
            walk_at "ex"
            cases e1 : decide (1 ≤ n) with
            | false => walk_at "ex"; rfl
            | true =>
              walk_at "ex"
              cases e2 : decide (n ≤ 4) with
              | false => walk_at "ex"; rfl
              | true => walk_at "ex"; rfl
      | _ => walk_at "ex"; rfl
  | _ => walk_at "ex"; rfl
theorem F__law_is_running_eq (d : PyData) : F__law_is_running [.sh d] = .ok (false, .bool (isRun d)) := by
  unfold F__law_is_running b__law_is_running
  cases d with
  | tuple xs =>
    match xs with
    | [] => walk_at "ex"; rfl
    | [a] => walk_at "ex"; cases a <;> rfl
    | a :: b :: c :: r =>
      walk_at "ex"
      rw [two_of_three]
      walk_at "ex"
      cases a <;> cases b <;> rfl
    | [a, b] =>
      walk_at "ex"
      rw [atI_two]
      walk_at "ex"
      cases a with
      | int n =>
        walk_at "ex"
        cases b with
        | tuple ws =>
          walk_at "ex"
          cases e1 : decide (1 ≤ n) with
          | false => walk_at "ex"; simp only [isRun, e1, Bool.false_and, Bool.and_false]
          | true =>
            walk_at "ex"
            cases e2 : decide (n ≤ 4) with
            | false => walk_at "ex"; simp only [isRun, e2, Bool.false_and, Bool.and_false]
            | true =>
              have e1' := of_decide_eq_true e1
              have e2' := of_decide_eq_true e2
              have e : isPoly (.int n) = true := by
                simp only [isPoly, Bool.and_eq_true, decide_eq_true_eq]
                omega
              rw [isRun_yes e]
              walk_at "ex"
              rw [gt_le]
              cases e3 : decide (((ws.length : Nat) : Int) ≤ 4) with
              | false => walk_at "ex"
              | true =>
                have e3' := of_decide_eq_true e3
                walk_at "ex"
                rw [gd_pos (leLim (by omega)), filV_filD (fun w => !okW n w) (fun _ => .int 1)]
                · walk_at "ex"
                  rw [filt_empty]
                  simp only [Bool.not_not, e1, e2, Bool.true_and]
                · intro w hw
                  walk_at "ex"
                  rw [F__law_is_word_eq (by omega)]
                  walk_at "ex"
                  cases e4 : isWd n w with
                  | false =>
                    walk_at "ex"
                    simp only [okW, e4, Bool.false_and]
                    rfl
                  | true =>
                    walk_at "ex"
                    rw [F__law_degree_isWd e1' e2' e4]
                    walk_at "ex"
                    rw [gt_le]
                    simp only [okW, e4, Bool.true_and]
                    cases decide (((wl (wordOf w) : Nat) : Int) - 1 ≤ 12) <;> rfl
        | _ =>
          walk_at "ex"
          cases e1 : decide (1 ≤ n) with
          | false => walk_at "ex"; rfl
          | true =>
            walk_at "ex"
            cases e2 : decide (n ≤ 4) with
            | false => walk_at "ex"; rfl
            | true => walk_at "ex"; rfl
      | _ => walk_at "ex"; rfl
  | _ => walk_at "ex"; rfl
/-! W4: bent values. -/
def N__law_bent : List Str := ["source", "value", "odd", "some", "k"]
def b__law_bent : Sms := (.cons (.asg (.nm 2) (.lst (.cons (.lit .none) (.cons (.lit (.int 0)) (.cons (.lit (.int 1)) (.cons (.lit (.int 4)) (.cons (.lit (.int 5)) (.cons (.lit (.bool true)) (.cons (.neg (.lit (.int 1))) (.cons (.lit (.int 8191)) (.cons (.lit (.int 8192)) (.cons (.bin .sub (.bin .shl (.lit (.int 1)) (.lit (.int 40))) (.lit (.int 1))) (.cons (.bin .shl (.lit (.int 1)) (.lit (.int 40))) (.cons (.lit (.str "0")) (.cons (.tup .nil) (.cons (.tup (.cons (.lit (.int 0)) .nil)) (.cons (.tup (.cons (.lit (.int 1)) (.cons (.lit (.int 2)) .nil))) (.cons (.lst (.cons (.lit (.int 1)) .nil)) (.cons .dic0 .nil)))))))))))))))))))
    (.cons (.ite (.or_ (.not_ (.isa (.var 1) .tup)) (.or_ (.cmp .eq (.var 1) (.tup .nil)) (.cmp .eq (.call 1 (.cons (.var 0) (.cons (.lit (.int 4)) .nil))) (.lit (.int 0))))) (.cons (.asg (.nm 3) (.lst (.cons (.call 2 (.cons (.var 0) (.cons (.var 2) .nil))) .nil)))
    (.cons (.ite (.isa (.var 1) .tup) (.cons (.asg (.nm 3) (.bin .add (.var 3) (.lst (.cons (.slc (.var 1) (.so (.lit (.int 1))) .no) (.cons (.slc (.var 1) .no (.so (.neg (.lit (.int 1))))) (.cons (.bin .add (.var 1) (.slc (.var 1) .no (.so (.lit (.int 1))))) (.cons (.bi .list (.cons (.var 1) .nil)) (.cons (.rev (.var 1)) (.cons (.bin .add (.var 1) (.tup (.cons (.lit (.int 0)) .nil))) .nil)))))))))
    .nil) .nil)
    (.cons (.ret (.call 2 (.cons (.var 0) (.cons (.var 3) .nil))))
    .nil))) .nil)
    (.cons (.asg (.nm 4) (.call 1 (.cons (.var 0) (.cons (.bi .len (.cons (.var 1) .nil)) .nil))))
    (.cons (.ret (.bin .add (.bin .add (.slc (.var 1) .no (.so (.var 4))) (.tup (.cons (.call 62 (.cons (.var 0) (.cons (.ix (.var 1) (.var 4)) .nil))) .nil))) (.slc (.var 1) (.so (.bin .add (.var 4) (.lit (.int 1)))) .no)))
    .nil))))
@[irreducible] def bentF (f : FV) : FV := evDef (tab [(2, F__law_of), (1, F_pick), (62, f)]) 5 2 b__law_bent
def F_bent : Nat → FV
  | 0 => fun _ => .bad
  | t + 1 => bentF (F_bent t)
theorem F_bent_succ {t : Nat} : F_bent (t + 1) = evDef (tab [(2, F__law_of), (1, F_pick), (62, F_bent t)]) 5 2 b__law_bent := by
  show bentF (F_bent t) = _
  unfold bentF
  rfl
theorem cutD_mem {xs : List PyData} {a b : Option Int} {x : PyData} (h : x ∈ DL.cutD xs a b) : x ∈ xs := List.mem_of_mem_drop (List.mem_of_mem_take h)
theorem cutD_len {xs : List PyData} {a b : Option Int} : (DL.cutD xs a b).length ≤ xs.length := by
  unfold DL.cutD
  rw [List.length_take, List.length_drop]
  omega
def odd : List PyData := [.none, .int 0, .int 1, .int 4, .int 5, .bool true, .int (-1), .int 8191, .int 8192, .int 1099511627775, .int 1099511627776, .str "0", .tuple [], .tuple [.int 0], .tuple [.int 1, .int 2], .list [.int 1], .dict []]
theorem odd_ok {d : PyData} (h : d ∈ odd) : rok 3 64 d := by
  simp only [odd, List.mem_cons, List.not_mem_nil, or_false] at h
  rcases h with rfl | rfl | rfl | rfl | rfl | rfl | rfl | rfl | rfl | rfl | rfl | rfl | rfl | rfl | rfl | rfl | rfl <;> exact ⟨by decide +kernel, by decide +kernel, by decide +kernel, by decide +kernel⟩
theorem two40 : (1 * 2 ^ 40 : Int) = 1099511627776 := by decide
theorem F_bent_int {t : Nat} {i : Int} : (F_bent (t + 1) [.src, .sh (.int i)]).wq (fun v => v.1 = false ∧ rok 3 64 v.2) No := by
  rw [F_bent_succ]
  unfold b__law_bent
  walk_at "ex"
  rw [gd_pos (show shlOk 1 40 = true by decide)]
  walk_at "ex"
  rw [two40]
  walk_at "ex"
  walk_at "down"
  refine (F__law_of_wp (by simp) (by simp)).no ?_
  rintro _ ⟨d, hd, rfl⟩
  have hd := odd_ok hd
  walk_at "ex"
  cases flat d <;>
  · walk_at "ex"
    walk_at "down"
    refine (F__law_of_wp (by simp) (by simp)).no ?_
    rintro _ ⟨d', hd', rfl⟩
    rw [List.mem_singleton] at hd'
    subst hd'
    walk_at "ex"
    exact ⟨by trivial, hd⟩
theorem rok_tuples {k m n n' : Nat} {xs : List PyData} (h : ∀ x ∈ xs, rok k m x) (hn : xs.length ≤ n) (hn' : n ≤ n') : rok (k + 1) (n' * (m + 2) + 3) (.tuple xs) := (rok_tuple h hn).mono (Nat.le_refl _) (by have := Nat.mul_le_mul_right (m + 2) hn'; omega)
theorem F_bent_tuple {t k m : Nat} {xs : List PyData} (hs : SeqAt.shaped (.tuple xs) = true) (hl : xs.length ≤ 8) (hk : 3 ≤ k) (hm : 64 ≤ m) (hx : ∀ x ∈ xs, rok k m x) (ih : ∀ x ∈ xs, (F_bent t [.src, .sh x]).wq (fun v => v.1 = false ∧ rok k m v.2) No) :
    (F_bent (t + 1) [.src, .sh (.tuple xs)]).wq (fun v => v.1 = false ∧ rok (k + 1) (20 * (m + 2) + 3) v.2) No := by
  have one : ∀ d, rok k m d → rok (k + 1) (20 * (m + 2) + 3) d := fun d h => h.mono (by omega) (by omega)
  have tup : ∀ ys : List PyData, (∀ y ∈ ys, rok k m y) → ys.length ≤ 20 → rok (k + 1) (20 * (m + 2) + 3) (.tuple ys) := fun ys h l => rok_tuples h l (Nat.le_refl _)
  have i0 : rok k m (.int 0) := (rok_int (b := 1) (by decide) (by decide)).mono (by omega) (by omega)
  rw [F_bent_succ]
  unfold b__law_bent
  walk_at "ex"
  rw [gd_pos (show shlOk 1 40 = true by decide)]
  walk_at "ex"
  rw [two40]
  walk_at "ex"
  rw [hs]
  walk_at "ex"
  have mem7 : ∀ d, rok 3 64 d → ∀ y ∈ [d] ++ [PyData.tuple (DL.cutD xs (some 1) none), .tuple (DL.cutD xs none (some (-1))), .tuple (xs ++ DL.cutD xs none (some 1)), .list xs, .tuple xs.reverse, .tuple (xs ++ [.int 0])], rok (k + 1) (20 * (m + 2) + 3) y := fun d hd y hy => by
    have c1 := @cutD_len xs (some 1) none
    have c2 := @cutD_len xs none (some (-1))
    have c3 := @cutD_len xs none (some 1)
    simp only [List.singleton_append, List.mem_cons, List.not_mem_nil, or_false] at hy
    rcases hy with rfl | rfl | rfl | rfl | rfl | rfl | rfl
    · exact hd.mono (by omega) (by omega)
    · exact tup _ (fun y hy => hx y (cutD_mem hy)) (by omega)
    · exact tup _ (fun y hy => hx y (cutD_mem hy)) (by omega)
    · exact tup _ (fun y hy => (List.mem_append.mp hy).elim (hx y) fun z => hx y (cutD_mem z)) (by rw [List.length_append]; omega)
    · exact (rok_list hx (show xs.length ≤ 20 by omega)).mono (Nat.le_refl _) (by omega)
    · exact tup _ (fun y hy => hx y (List.mem_reverse.mp hy)) (by rw [List.length_reverse]; omega)
    · exact tup _ (fun y hy => (List.mem_append.mp hy).elim (hx y) fun z => by rw [List.mem_singleton.mp z]; exact i0) (by rw [List.length_append]; exact Nat.le_trans (Nat.succ_le_succ hl) (by decide))
  have c3 := @cutD_len xs none (some 1)
  cases hb : xs.isEmpty with
  | true =>
    walk_at "ex"
    walk_at "down"
    refine (F__law_of_wp (by simp) (by simp)).no ?_
    rintro _ ⟨d, hd, rfl⟩
    have hd := odd_ok hd
    walk_at "ex"
    cases flat d <;>
    · walk_at "ex"
      rw [gd_pos (leLim (by omega)), gd_pos (leLim (by omega))]
      walk_at "ex"
      cases flats xs <;>
      · walk_at "ex"
        walk_at "down"
        refine (F__law_of_wp (by simp) (by simp)).no ?_
        rintro _ ⟨y, hy, rfl⟩
        walk_at "ex"
        exact ⟨by trivial, mem7 d hd y hy⟩
  | false =>
    walk_at "ex"
    walk_at "down"
    refine pkQ 4 rfl (by decide) (lt1000 (by decide)) fun q hq => ?_
    cases e2 : ((q : Int) == 0) with
    | true =>
      walk_at "ex"
      walk_at "down"
      refine (F__law_of_wp (by simp) (by simp)).no ?_
      rintro _ ⟨d, hd, rfl⟩
      have hd := odd_ok hd
      walk_at "ex"
      cases flat d <;>
      · walk_at "ex"
        rw [gd_pos (leLim (by omega)), gd_pos (leLim (by omega))]
        walk_at "ex"
        cases flats xs <;>
        · walk_at "ex"
          walk_at "down"
          refine (F__law_of_wp (by simp) (by simp)).no ?_
          rintro _ ⟨y, hy, rfl⟩
          walk_at "ex"
          exact ⟨by trivial, mem7 d hd y hy⟩
    | false =>
      walk_at "ex"
      walk_at "down"
      have l1 : 1 ≤ xs.length := by cases xs with
        | nil => cases hb
        | cons x r => exact Nat.le_add_left _ _
      refine pkQ xs.length rfl l1 (lt1000 (by omega)) fun j hj => ?_
      rw [atI_nat hj]
      walk_at "ex"
      walk_at "down"
      refine (ih _ (List.getElem_mem hj)).no ?_
      rintro ⟨vf, v⟩ ⟨_, hv⟩
      have c4 := @cutD_len xs none (some (j : Int))
      have c5 := @cutD_len xs (some ((j : Int) + 1)) none
      walk_at "ex"
      rw [gd_pos (leLim (by omega))]
      walk_at "ex"
      rw [List.length_append, gd_pos (leLim (by simp only [List.length_cons, List.length_nil]; omega))]
      walk_at "ex"
      refine ⟨by trivial, tup _ (fun y hy => ?_) (by simp only [List.length_append, List.length_cons, List.length_nil]; omega)⟩
      rcases List.mem_append.mp hy with hy | hy
      · rcases List.mem_append.mp hy with hy | hy
        · exact hx y (cutD_mem hy)
        · rw [List.mem_singleton.mp hy]; exact hv
      · exact hx y (cutD_mem hy)
/-! W4: bent values. -/
/-- a number with at most 40 bits -/
theorem rok_nat {n : Nat} (h : bl n ≤ 62) : rok 3 64 (.int (n : Nat)) := (rok_int (b := 62) (by decide) (by rw [Int.natAbs_natCast]; exact bl_le.mp h)).mono (by decide) (by decide)
theorem mem_nis {P : PyData → Prop} {a : List Nat} (h : ∀ x ∈ a, P (.int (x : Nat))) : ∀ d ∈ nis a, P d := fun d hd => by obtain ⟨x, hx, rfl⟩ := List.mem_map.mp hd; exact h x hx
theorem rok_wd {a : List Nat} (hl : a.length ≤ 8) (hw : wl a ≤ 62) : rok 4 1323 (wd a) :=
  (rok_tuples (k := 3) (m := 64) (n := 8) (n' := 20) (mem_nis fun x hx => rok_nat (wl_le.mp hw x hx)) (by rw [nis_len]; exact hl) (by decide)).mono (by decide) (by decide)
theorem F_bent_wd {t : Nat} {a : List Nat} (hl : a.length ≤ 8) (hw : wl a ≤ 62) : (F_bent (t + 2) [.src, .sh (wd a)]).wq (fun v => v.1 = false ∧ rok 4 1323 v.2) No := by
  have h1 : ∀ d ∈ nis a, rok 3 64 d := mem_nis fun x hx => rok_nat (wl_le.mp hw x hx)
  have h2 : ∀ d ∈ nis a, (F_bent (t + 1) [.src, .sh d]).wq (fun v => v.1 = false ∧ rok 3 64 v.2) No := mem_nis (P := fun d => (F_bent (t + 1) [.src, .sh d]).wq (fun v => v.1 = false ∧ rok 3 64 v.2) No) fun x hx => F_bent_int
  have h := F_bent_tuple (t := t + 1) (k := 3) (m := 64) (xs := nis a) sh_wd (by rw [nis_len]; exact hl) (by decide) (by decide) h1 h2
  exact h.imp fun v h => ⟨h.1, h.2.mono (by decide) (by decide)⟩
theorem mem_wds {P : PyData → Prop} {ws : List (List Nat)} (h : ∀ w ∈ ws, P (wd w)) : ∀ d ∈ ws.map wd, P d := fun d hd => by obtain ⟨x, hx, rfl⟩ := List.mem_map.mp hd; exact h x hx
theorem rok_wds {ws : List (List Nat)} (hl : ws.length ≤ 8) (hw : ∀ w ∈ ws, w.length ≤ 8 ∧ wl w ≤ 62) : rok 5 26503 (.tuple (ws.map wd)) :=
  (rok_tuples (k := 4) (m := 1323) (n := 8) (n' := 20) (mem_wds fun w h => rok_wd (hw w h).1 (hw w h).2) (by rw [List.length_map]; exact hl) (by decide)).mono (by decide) (by decide)
theorem F_bent_wds {t : Nat} {ws : List (List Nat)} (hl : ws.length ≤ 8) (hw : ∀ w ∈ ws, w.length ≤ 8 ∧ wl w ≤ 62) : (F_bent (t + 3) [.src, .sh (.tuple (ws.map wd))]).wq (fun v => v.1 = false ∧ rok 5 26503 v.2) No := by
  have h1 : ∀ d ∈ ws.map wd, rok 4 1323 d := mem_wds fun w h => rok_wd (hw w h).1 (hw w h).2
  have h2 : ∀ d ∈ ws.map wd, (F_bent (t + 2) [.src, .sh d]).wq (fun v => v.1 = false ∧ rok 4 1323 v.2) No := mem_wds (P := fun d => (F_bent (t + 2) [.src, .sh d]).wq (fun v => v.1 = false ∧ rok 4 1323 v.2) No) fun w h => F_bent_wd (hw w h).1 (hw w h).2
  have h := F_bent_tuple (t := t + 2) (k := 4) (m := 1323) (xs := ws.map wd) sh_wdsT (by rw [List.length_map]; exact hl) (by decide) (by decide) h1 h2
  exact h.imp fun v h => ⟨h.1, h.2.mono (by decide) (by decide)⟩
theorem mem_two {P : PyData → Prop} {a b : PyData} (ha : P a) (hb : P b) : ∀ d ∈ [a, b], P d := fun d hd => by
  simp only [List.mem_cons, List.not_mem_nil, or_false] at hd
  rcases hd with rfl | rfl
  · exact ha
  · exact hb
theorem F_bent_run {t n : Nat} {ws : List (List Nat)} (hn : bl n ≤ 62) (hl : ws.length ≤ 8) (hw : ∀ w ∈ ws, w.length ≤ 8 ∧ wl w ≤ 62) : (F_bent (t + 4) [.src, .sh (.tuple [.int (n : Nat), .tuple (ws.map wd)])]).wq (fun v => v.1 = false ∧ rok 6 530103 v.2) No := by
  have h1 : ∀ d ∈ [PyData.int (n : Nat), .tuple (ws.map wd)], rok 5 26503 d := mem_two ((rok_nat hn).mono (by decide) (by decide)) (rok_wds hl hw)
  have h2 : ∀ d ∈ [PyData.int (n : Nat), .tuple (ws.map wd)], (F_bent (t + 3) [.src, .sh d]).wq (fun v => v.1 = false ∧ rok 5 26503 v.2) No :=
    mem_two (P := fun d => (F_bent (t + 3) [.src, .sh d]).wq (fun v => v.1 = false ∧ rok 5 26503 v.2) No) ((F_bent_int (t := t + 2)).imp fun v h => ⟨h.1, h.2.mono (by decide) (by decide)⟩) (F_bent_wds hl hw)
  have h3 : SeqAt.shaped (.tuple [PyData.int (n : Nat), .tuple (ws.map wd)]) = true := shaped_of (k := 3) (dok_tuple (mem_two dok_int (dok_tuple (mem_wds fun w _ => dok_wd)))) (by decide)
  have h := F_bent_tuple (t := t + 3) (k := 5) (m := 26503) (xs := [PyData.int (n : Nat), .tuple (ws.map wd)]) h3 (by simp) (by decide) (by decide) h1 h2
  exact h.imp fun v h => ⟨h.1, h.2.mono (by decide) (by decide)⟩
/-! W6: facts of polynomials and words. -/
theorem bl_top {b k : Nat} (h : bl b = k + 1) : b.testBit k = true := by
  have h1 : ¬ b < 2 ^ k := fun z => by have := bl_le.mpr z; omega
  have h2 : b < 2 ^ (k + 1) := bl_le.mp (by omega)
  rw [Nat.testBit_eq_decide_div_mod_eq, decide_eq_true_eq]
  have : b / 2 ^ k = 1 := by
    apply Nat.div_eq_of_lt_le <;> omega
  rw [this]
theorem bl_xor_lt {a b : Nat} (h : bl a < bl b) : bl (a ^^^ b) = bl b := by
  obtain ⟨k, hk⟩ : ∃ k, bl b = k + 1 := ⟨bl b - 1, by omega⟩
  apply Nat.le_antisymm
  · rw [bl_le]
    exact Nat.xor_lt_two_pow (bl_le.mp (by omega)) lt_bl
  · have t : (a ^^^ b).testBit k = true := by
      rw [Nat.testBit_xor, bl_top hk, Nat.testBit_lt_two_pow (bl_le.mp (by omega))]
      rfl
    have := Nat.ge_two_pow_of_testBit t
    rcases Nat.lt_or_ge (bl (a ^^^ b)) (bl b) with z | z
    · have := bl_le.mp (show bl (a ^^^ b) ≤ k by omega)
      omega
    · exact z
theorem bl_pos_iff {x : Nat} : 1 ≤ bl x ↔ x ≠ 0 := ⟨fun h z => by subst z; simp [bl_zero] at h, fun h => bl_pos h⟩
theorem bl_shl_eq {x i : Nat} (h : x ≠ 0) : bl (x <<< i) = bl x + i := by
  apply Nat.le_antisymm (bl_shl x i)
  obtain ⟨k, hk⟩ : ∃ k, bl x = k + 1 := ⟨bl x - 1, by have := bl_pos h; omega⟩
  rcases Nat.lt_or_ge (bl (x <<< i)) (bl x + i) with z | z
  · have z1 := bl_le.mp (show bl (x <<< i) ≤ k + i by omega)
    rw [Nat.shiftLeft_eq, Nat.pow_add] at z1
    have z2 : x < 2 ^ k := Nat.lt_of_mul_lt_mul_right z1
    have := bl_le.mpr z2
    omega
  · exact z
theorem clm_le {x y : Nat} : ∀ k, bl (clm x y (k + 1)) ≤ bl x + k
  | 0 => by
    show bl (0 ^^^ _) ≤ _
    rw [Nat.zero_xor, Nat.shiftLeft_zero]
    have h1 : y >>> 0 &&& 1 ≤ 1 := Nat.and_le_right
    rcases Nat.le_one_iff_eq_zero_or_eq_one.mp h1 with e | e <;> rw [e]
    · rw [Nat.zero_mul, bl_zero]; omega
    · rw [Nat.one_mul]; omega
  | k + 1 => by
    refine bl_le.mpr (Nat.xor_lt_two_pow (bl_le.mp (Nat.le_succ_of_le (clm_le k))) (bl_le.mp ?_))
    have h1 : y >>> (k + 1) &&& 1 ≤ 1 := Nat.and_le_right
    have h2 := bl_shl x (k + 1)
    rcases Nat.le_one_iff_eq_zero_or_eq_one.mp h1 with e | e <;> rw [e]
    · rw [Nat.zero_mul, bl_zero]; omega
    · rw [Nat.one_mul]; omega
theorem shr_top {y k : Nat} (h : bl y = k + 1) : y >>> k &&& 1 = 1 := by
  have t := bl_top h
  rw [Nat.testBit_eq_decide_div_mod_eq, decide_eq_true_eq] at t
  rw [Nat.and_one_is_mod, Nat.shiftRight_eq_div_pow]
  exact t
theorem bl_pmul_eq {x y : Nat} (hx : x ≠ 0) (hy : y ≠ 0) : bl (pmul x y) + 1 = bl x + bl y := by
  obtain ⟨k, hk⟩ : ∃ k, bl y = k + 1 := ⟨bl y - 1, by have := bl_pos hy; omega⟩
  have hx1 := bl_pos hx
  have e : pmul x y = clm x y k ^^^ (x <<< k) := by
    rw [pmul, hk]
    show clm x y k ^^^ ((y >>> k &&& 1) * (x <<< k)) = _
    rw [shr_top hk, Nat.one_mul]
  have s := bl_shl_eq (i := k) hx
  rw [e, bl_xor_lt, s, hk]
  · omega
  · rw [s]
    cases k with
    | zero => show bl 0 < _; rw [bl_zero]; omega
    | succ k => have := @clm_le x y k; omega
theorem pmul_zero_left {y : Nat} : pmul 0 y = 0 := by
  have key : ∀ k, clm 0 y k = 0 := fun k => by
    induction k with
    | zero => rfl
    | succ k ih => show clm 0 y k ^^^ (_ * (0 <<< k)) = 0; rw [ih, Nat.zero_shiftLeft, Nat.mul_zero]; rfl
  exact key _
theorem wl_wtms_eq {p : Nat} (hp : p ≠ 0) : ∀ {w : List Nat}, 1 ≤ wl w → wl (wtms p w) + 1 = wl w + bl p
  | [], h => by simp [wl] at h
  | x :: xs, h => by
    have hp1 := bl_pos hp
    have rest : wl xs = 0 → wl (wtms p xs) = 0 := fun h0 => by
      apply Nat.le_zero.mp
      rw [wl_le]
      intro z hz
      obtain ⟨y, hy, rfl⟩ := List.mem_map.mp hz
      have := wl_le.mp (show wl xs ≤ 0 by omega) y hy
      have y0 : y = 0 := by
        rcases Nat.eq_zero_or_pos y with z | z
        · exact z
        · have := bl_pos (show y ≠ 0 by omega); omega
      rw [y0, pmul_zero_left, bl_zero]
      exact Nat.le_refl 0
    have one : x ≠ 0 → bl (pmul x p) + 1 = bl x + bl p := fun hx => bl_pmul_eq hx hp
    have zero : x = 0 → bl (pmul x p) = 0 := fun hx => by subst hx; rw [pmul_zero_left, bl_zero]
    show max (bl (pmul x p)) (wl (wtms p xs)) + 1 = max (bl x) (wl xs) + bl p
    by_cases hx : x = 0
    · have hb : bl x = 0 := by rw [hx, bl_zero]
      have h' : 1 ≤ max (bl x) (wl xs) := h
      have := wl_wtms_eq hp (w := xs) (by omega)
      have := zero hx
      omega
    · have hb := bl_pos hx
      have o := one hx
      by_cases h0 : wl xs = 0
      · have := rest h0; omega
      · have := wl_wtms_eq hp (w := xs) (by omega)
        omega
theorem eqv_self {x : Str} : PyData.eqv (.str x) (.str x) = true := by
  simp only [PyData.eqv]
  exact beq_self_eq_true x
theorem atI_43 {a b c d : PyData} : atI [a, b, c, d] 3 = some d := rfl
theorem foldl_max_nat : ∀ (xs : List Nat) (m : Nat), (xs.map fun n => ((n : Nat) : Int)).foldl max (m : Int) = ((xs.foldl max m : Nat) : Int)
  | [], m => rfl
  | x :: xs, m => by
    rw [List.map_cons, List.foldl_cons, List.foldl_cons, ← foldl_max_nat xs]
    congr 1
    omega
theorem foldl_max_pos : ∀ (xs : List Nat) (m : Nat), 0 < xs.foldl max m ↔ (0 < m ∨ 1 ≤ wl xs)
  | [], m => by simp [wl]
  | x :: xs, m => by
    rw [List.foldl_cons, foldl_max_pos xs, wl]
    have := @bl_pos_iff x
    omega
theorem biV_max_wd {w : List Nat} (h : w ≠ []) : ∃ m : Nat, BiV .max [wd w] = .ok (false, .int (m : Nat)) ∧ decide ((0 : Int) < (m : Nat)) = decide (1 ≤ wl w) := by
  cases w with
  | nil => exact absurd rfl h
  | cons x xs =>
    refine ⟨xs.foldl max x, ?_, ?_⟩
    · have e : xs.map (fun n => PyData.int (n : Nat)) = (xs.map fun n => ((n : Nat) : Int)).map PyData.int := by simp
      show BiV .max [.tuple (.int (x : Nat) :: xs.map fun n => PyData.int (n : Nat))] = _
      rw [biV_max_tuple, e, gd_pos (r := .ok _) (show okMB (PyData.int x :: (xs.map fun n => ((n : Nat) : Int)).map PyData.int) = true from okMB_ints ((x : Int) :: xs.map fun n => ((n : Nat) : Int))), PySem.W.maxD_ints, foldl_max_nat]
    · have h1 := foldl_max_pos xs x
      have h2 := @bl_pos_iff x
      rw [decide_eq_decide, wl]
      omega
/-! T1: words as a module: sums of words moved, combinations, leading rows. -/
/-! ### polynomials -/
theorem bit01 (y i : Nat) : y >>> i &&& 1 = 0 ∨ y >>> i &&& 1 = 1 := Nat.le_one_iff_eq_zero_or_eq_one.mp Nat.and_le_right
theorem clm_xor_left {a b y : Nat} : ∀ k, clm (a ^^^ b) y k = clm a y k ^^^ clm b y k
  | 0 => (Nat.xor_self 0).symm
  | k + 1 => by
    show clm (a ^^^ b) y k ^^^ (y >>> k &&& 1) * ((a ^^^ b) <<< k) = (clm a y k ^^^ (y >>> k &&& 1) * (a <<< k)) ^^^ (clm b y k ^^^ (y >>> k &&& 1) * (b <<< k))
    rw [clm_xor_left k, Nat.shiftLeft_xor_distrib]
    rcases bit01 y k with e | e <;> rw [e]
    · simp only [Nat.zero_mul, Nat.xor_zero]
    · simp only [Nat.one_mul]
      ac_rfl
theorem pmul_xor_left {a b y : Nat} : pmul (a ^^^ b) y = pmul a y ^^^ pmul b y := clm_xor_left _
theorem xor_bit (p q k : Nat) : (p ^^^ q) >>> k &&& 1 = (p >>> k &&& 1) ^^^ (q >>> k &&& 1) := by
  rw [Nat.shiftRight_xor_distrib, Nat.and_xor_distrib_right]
theorem clm_xor_right {x p q : Nat} : ∀ k, clm x (p ^^^ q) k = clm x p k ^^^ clm x q k
  | 0 => (Nat.xor_self 0).symm
  | k + 1 => by
    show clm x (p ^^^ q) k ^^^ ((p ^^^ q) >>> k &&& 1) * (x <<< k) = (clm x p k ^^^ (p >>> k &&& 1) * (x <<< k)) ^^^ (clm x q k ^^^ (q >>> k &&& 1) * (x <<< k))
    rw [clm_xor_right k, xor_bit]
    rcases bit01 p k with e | e <;> rcases bit01 q k with f | f <;> rw [e, f]
    · simp
    · simp; ac_rfl
    · simp; ac_rfl
    · simp only [Nat.xor_self, Nat.zero_mul, Nat.xor_zero, Nat.one_mul]
      rw [show (clm x p k ^^^ x <<< k) ^^^ (clm x q k ^^^ x <<< k) = (clm x p k ^^^ clm x q k) ^^^ (x <<< k ^^^ x <<< k) by ac_rfl, Nat.xor_self, Nat.xor_zero]
theorem pmul_xor_right {x p q : Nat} : pmul x (p ^^^ q) = pmul x p ^^^ pmul x q := by
  have h : bl (p ^^^ q) ≤ max (bl p) (bl q) := bl_le.mpr (Nat.xor_lt_two_pow (bl_le.mp (Nat.le_max_left ..)) (bl_le.mp (Nat.le_max_right ..)))
  rw [← clm_self x (p ^^^ q) h, ← clm_self x p (Nat.le_max_left (bl p) (bl q)), ← clm_self x q (Nat.le_max_right (bl p) (bl q)), clm_xor_right]
theorem bl_pow (i : Nat) : bl (2 ^ i) = i + 1 := by
  apply Nat.le_antisymm
  · exact bl_le.mpr (Nat.pow_lt_pow_right (by decide) (by omega))
  · rcases Nat.lt_or_ge (bl (2 ^ i)) (i + 1) with z | z
    · exact absurd (bl_le.mp (show bl (2 ^ i) ≤ i by omega)) (Nat.lt_irrefl _)
    · exact z
theorem pow_bit (i k : Nat) (h : k < i) : 2 ^ i >>> k &&& 1 = 0 := by
  rw [Nat.and_one_is_mod, Nat.shiftRight_eq_div_pow, Nat.pow_div (by omega) (by decide)]
  obtain ⟨j, hj⟩ : ∃ j, i - k = j + 1 := ⟨i - k - 1, by omega⟩
  rw [hj, Nat.pow_succ]
  omega
theorem clm_pow_low {x i : Nat} : ∀ k, k ≤ i → clm x (2 ^ i) k = 0
  | 0, _ => rfl
  | k + 1, h => by
    show clm x (2 ^ i) k ^^^ (2 ^ i >>> k &&& 1) * (x <<< k) = 0
    rw [clm_pow_low k (by omega), pow_bit i k (by omega)]
    simp
theorem pmul_pow {x i : Nat} : pmul x (2 ^ i) = x <<< i := by
  unfold pmul
  rw [bl_pow]
  show clm x (2 ^ i) i ^^^ (2 ^ i >>> i &&& 1) * (x <<< i) = x <<< i
  rw [clm_pow_low i (Nat.le_refl i), Nat.shiftRight_eq_div_pow, Nat.div_self (Nat.two_pow_pos i)]
  simp
theorem pmul_zero {x : Nat} : pmul x 0 = 0 := rfl
theorem pmul_one {x : Nat} : pmul x 1 = x := by
  have := @pmul_pow x 0
  simpa using this
/-! ### words -/
theorem wadd_get {a b : List Nat} {i : Nat} (h : i < (wadd a b).length) (ha : i < a.length) (hb : i < b.length) : (wadd a b)[i] = a[i] ^^^ b[i] := by
  simp [wadd]
theorem wadd_comm {a b : List Nat} : wadd a b = wadd b a := by
  apply List.ext_getElem
  · rw [wadd_len, wadd_len, Nat.min_comm]
  · intro i h1 h2
    rw [wadd_len] at h1
    rw [wadd_get _ (by omega) (by omega), wadd_get _ (by omega) (by omega), Nat.xor_comm]
theorem wadd_assoc {a b c : List Nat} : wadd (wadd a b) c = wadd a (wadd b c) := by
  apply List.ext_getElem
  · simp only [wadd_len, Nat.min_assoc]
  · intro i h1 h2
    have h3 := h1
    simp only [wadd_len] at h3
    rw [wadd_get _ (by rw [wadd_len]; omega) (by omega), wadd_get _ (by omega) (by omega), wadd_get _ (by omega) (by rw [wadd_len]; omega), wadd_get _ (by omega) (by omega), Nat.xor_assoc]
theorem nought_len {n : Nat} : (nought n).length = n := List.length_replicate
theorem wadd_nought {n : Nat} {a : List Nat} (h : a.length = n) : wadd a (nought n) = a := by
  apply List.ext_getElem
  · rw [wadd_len, nought_len, h, Nat.min_self]
  · intro i h1 h2
    rw [wadd_get _ h2 (by rw [nought_len]; omega)]
    simp [nought]
theorem nought_wadd {n : Nat} {a : List Nat} (h : a.length = n) : wadd (nought n) a = a := by rw [wadd_comm, wadd_nought h]
theorem wadd_self {n : Nat} {a : List Nat} (h : a.length = n) : wadd a a = nought n := by
  apply List.ext_getElem
  · rw [wadd_len, nought_len, h, Nat.min_self]
  · intro i h1 h2
    rw [nought_len] at h2
    rw [wadd_get _ (by omega) (by omega), Nat.xor_self]
    simp [nought]
theorem wadd_cancel {n : Nat} {a b : List Nat} (ha : a.length = n) (hb : b.length = n) : wadd (wadd a b) b = a := by
  rw [wadd_assoc, wadd_self hb, wadd_nought ha]
theorem wadd_eq_nought {n : Nat} {a b : List Nat} (ha : a.length = n) (hb : b.length = n) (h : wadd a b = nought n) : a = b := by
  have := wadd_cancel ha hb
  rw [h, nought_wadd hb] at this
  exact this.symm
theorem wtms_xor {p q : Nat} {w : List Nat} : wtms (p ^^^ q) w = wadd (wtms p w) (wtms q w) := by
  apply List.ext_getElem
  · rw [wadd_len, wtms_len, wtms_len, wtms_len, Nat.min_self]
  · intro i h1 h2
    rw [wtms_len] at h1
    rw [wadd_get _ (by rw [wtms_len]; omega) (by rw [wtms_len]; omega)]
    simp only [wtms, List.getElem_map, pmul_xor_right]
theorem wtms_wadd {p : Nat} {a b : List Nat} : wtms p (wadd a b) = wadd (wtms p a) (wtms p b) := by
  apply List.ext_getElem
  · simp only [wadd_len, wtms_len]
  · intro i h1 h2
    have h3 := h1
    rw [wtms_len, wadd_len] at h3
    rw [wadd_get _ (by rw [wtms_len]; omega) (by rw [wtms_len]; omega)]
    simp only [wtms, List.getElem_map]
    rw [wadd_get _ (by omega) (by omega), pmul_xor_left]
def wsh (i : Nat) (w : List Nat) : List Nat := w.map (· <<< i)
theorem wtms_pow {i : Nat} {w : List Nat} : wtms (2 ^ i) w = wsh i w := by
  unfold wtms wsh
  exact List.map_congr_left fun x _ => pmul_pow
theorem wtms_one {w : List Nat} : wtms 1 w = w := by
  unfold wtms
  conv => rhs; rw [← List.map_id w]
  exact List.map_congr_left fun x _ => pmul_one
theorem wtms_zero {w : List Nat} : wtms 0 w = nought w.length := by
  unfold wtms nought
  rw [List.eq_replicate_iff]
  refine ⟨by simp, fun b hb => ?_⟩
  obtain ⟨x, _, rfl⟩ := List.mem_map.mp hb
  rfl
theorem wtms_nought {p n : Nat} : wtms p (nought n) = nought n := by
  unfold wtms nought
  rw [List.map_replicate, pmul_zero_left]
theorem wsh_len {i : Nat} {w : List Nat} : (wsh i w).length = w.length := List.length_map ..
theorem wsh_wadd {i : Nat} {a b : List Nat} : wsh i (wadd a b) = wadd (wsh i a) (wsh i b) := by
  rw [← wtms_pow, wtms_wadd, wtms_pow, wtms_pow]
theorem wsh_wsh {i j : Nat} {w : List Nat} : wsh j (wsh i w) = wsh (i + j) w := by
  unfold wsh
  rw [List.map_map]
  exact List.map_congr_left fun x _ => (Nat.shiftLeft_add x i j).symm
theorem wsh_zero {w : List Nat} : wsh 0 w = w := by
  unfold wsh
  conv => rhs; rw [← List.map_id w]
  exact List.map_congr_left fun x _ => Nat.shiftLeft_zero
theorem wsh_nought {i n : Nat} : wsh i (nought n) = nought n := by
  unfold wsh nought
  rw [List.map_replicate, Nat.zero_shiftLeft]
/-! ### sums of words moved -/
inductive InSp (n : Nat) (B : List (List Nat)) : List Nat → Prop
  | zero : InSp n B (nought n)
  | add {w b : List Nat} (i : Nat) : InSp n B w → b ∈ B → InSp n B (wadd w (wsh i b))
def Lens (n : Nat) (B : List (List Nat)) : Prop := ∀ b ∈ B, b.length = n
section
variable {n : Nat} {B C : List (List Nat)}
theorem InSp.len (hB : Lens n B) {w : List Nat} (h : InSp n B w) : w.length = n := by
  induction h with
  | zero => exact nought_len
  | add i _ hb ih => rw [wadd_len, wsh_len, ih, hB _ hb, Nat.min_self]
theorem InSp.sum (hB : Lens n B) {u v : List Nat} (hu : InSp n B u) (hv : InSp n B v) : InSp n B (wadd u v) := by
  induction hv with
  | zero => rw [wadd_nought (hu.len hB)]; exact hu
  | add i _ hb ih => rw [← wadd_assoc]; exact .add i ih hb
theorem InSp.sh (j : Nat) {w : List Nat} (h : InSp n B w) : InSp n B (wsh j w) := by
  induction h with
  | zero => rw [wsh_nought]; exact .zero
  | add i _ hb ih => rw [wsh_wadd, wsh_wsh]; exact .add _ ih hb
theorem InSp.base (hB : Lens n B) {b : List Nat} (hb : b ∈ B) : InSp n B b := by
  have := InSp.add (n := n) 0 .zero hb
  rwa [wsh_zero, nought_wadd (hB _ hb)] at this
theorem InSp.trans (hC : Lens n C) (h : ∀ b ∈ B, InSp n C b) {w : List Nat} (hw : InSp n B w) : InSp n C w := by
  induction hw with
  | zero => exact .zero
  | add i _ hb ih => exact ih.sum hC ((h _ hb).sh i)
theorem map_clm {w : List Nat} {p : Nat} : ∀ k, (w.map fun x => clm x p (k + 1)) = wadd (w.map fun x => clm x p k) (if p >>> k &&& 1 = 1 then wsh k w else nought w.length) := fun k => by
  apply List.ext_getElem
  · rw [wadd_len]; split <;> simp [wsh, nought]
  · intro i h1 h2
    rw [List.length_map] at h1
    rw [wadd_get _ (by rw [List.length_map]; omega) (by split <;> simp [wsh, nought] <;> omega)]
    rw [List.getElem_map, List.getElem_map]
    show clm w[i] p k ^^^ (p >>> k &&& 1) * (w[i] <<< k) = _
    rcases bit01 p k with e | e
    · simp [e, nought]
    · simp [e, wsh]
theorem InSp.tms (hB : Lens n B) (p : Nat) {w : List Nat} (h : InSp n B w) : InSp n B (wtms p w) := by
  have key : ∀ k, InSp n B (w.map fun x => clm x p k) := fun k => by
    induction k with
    | zero =>
      have e : (w.map fun x => clm x p 0) = nought n := by
        unfold nought
        rw [List.eq_replicate_iff]
        exact ⟨by rw [List.length_map, h.len hB], fun b hb => by obtain ⟨x, _, rfl⟩ := List.mem_map.mp hb; rfl⟩
      rw [e]; exact .zero
    | succ k ih =>
      rw [map_clm]
      split
      · exact ih.sum hB (h.sh k)
      · rw [h.len hB, wadd_nought (ih.len hB)]; exact ih
  exact key (bl p)
/-- combinations, the last one first -/
def wc (n : Nat) : List Nat → List (List Nat) → List Nat
  | p :: ps, b :: bs => wadd (wtms p b) (wc n ps bs)
  | _, _ => nought n
theorem wc_len : ∀ {ps : List Nat} {B : List (List Nat)}, Lens n B → (wc n ps B).length = n
  | [], _, _ => by unfold wc; exact nought_len
  | p :: ps, [], _ => by unfold wc; exact nought_len
  | p :: ps, b :: bs, h => by
    unfold wc
    rw [wadd_len, wtms_len, h b (List.mem_cons_self ..), wc_len fun x hx => h x (List.mem_cons_of_mem _ hx), Nat.min_self]
theorem wcomb_wc : ∀ {ps : List Nat} {B : List (List Nat)} {f : List Nat}, Lens n B → f.length = n → (ps.zip B).foldl (fun f p => wadd f (wtms p.1 p.2)) f = wadd f (wc n ps B)
  | [], _, f, _, hf => by
    simp only [List.zip_nil_left, List.foldl_nil]
    unfold wc
    rw [wadd_nought hf]
  | p :: ps, [], f, _, hf => by
    simp only [List.zip_nil_right, List.foldl_nil]
    unfold wc
    rw [wadd_nought hf]
  | p :: ps, b :: bs, f, h, hf => by
    rw [List.zip_cons_cons, List.foldl_cons, wcomb_wc (fun x hx => h x (List.mem_cons_of_mem _ hx)) (by rw [wadd_len, wtms_len, hf, h b (List.mem_cons_self ..), Nat.min_self])]
    show _ = wadd f (wadd (wtms p b) (wc n ps bs))
    rw [wadd_assoc]
theorem wcomb_eq (hB : Lens n B) {ps : List Nat} : wcomb n ps B = wc n ps B := by
  unfold wcomb
  rw [wcomb_wc hB nought_len, nought_wadd (wc_len hB)]
theorem Lens.tl {b : List Nat} {bs : List (List Nat)} (h : Lens n (b :: bs)) : Lens n bs := fun x hx => h x (List.mem_cons_of_mem _ hx)
theorem Lens.hd {b : List Nat} {bs : List (List Nat)} (h : Lens n (b :: bs)) : b.length = n := h b (List.mem_cons_self ..)
theorem InSp.mono (h : ∀ b ∈ B, b ∈ C) {w : List Nat} (hw : InSp n B w) : InSp n C w := by
  induction hw with
  | zero => exact .zero
  | add i _ hb ih => exact .add i ih (h _ hb)
theorem wc_in : ∀ {ps : List Nat} {B : List (List Nat)}, Lens n B → InSp n B (wc n ps B)
  | [], _, _ => by unfold wc; exact .zero
  | p :: ps, [], _ => by unfold wc; exact .zero
  | p :: ps, b :: bs, h => by
    unfold wc
    exact ((InSp.base h (List.mem_cons_self ..)).tms h p).sum h ((wc_in h.tl).mono fun x hx => List.mem_cons_of_mem _ hx)
theorem wc_zero : ∀ {B : List (List Nat)}, Lens n B → wc n (List.replicate B.length 0) B = nought n
  | [], _ => rfl
  | b :: bs, h => by
    rw [List.length_cons, List.replicate_succ]
    unfold wc
    rw [wtms_zero, h.hd, wc_zero h.tl, wadd_nought nought_len]
theorem wc_xor : ∀ {ps qs : List Nat} {B : List (List Nat)}, Lens n B → ps.length = B.length → qs.length = B.length → wc n (wadd ps qs) B = wadd (wc n ps B) (wc n qs B)
  | [], [], [], _, _, _ => by
    show nought n = wadd (nought n) (nought n)
    rw [wadd_nought nought_len]
  | [], _ :: _, [], _, _, h2 => by simp at h2
  | _ :: _, [], [], _, h1, _ => by simp at h1
  | _ :: _, _ :: _, [], _, h1, _ => by simp at h1
  | [], _, _ :: _, _, h1, _ => by simp at h1
  | _ :: _, [], _ :: _, _, _, h2 => by simp at h2
  | p :: ps, q :: qs, b :: bs, h, h1, h2 => by
    show wadd (wtms (p ^^^ q) b) (wc n (wadd ps qs) bs) = wadd (wadd (wtms p b) (wc n ps bs)) (wadd (wtms q b) (wc n qs bs))
    rw [wc_xor h.tl (by simpa using h1) (by simpa using h2), wtms_xor]
    rw [wadd_assoc, wadd_assoc, ← wadd_assoc (a := wtms q b), ← wadd_assoc (a := wc n ps bs), wadd_comm (a := wtms q b)]
/-- the lot of one place -/
def unit (k j i : Nat) : List Nat := (List.replicate k 0).set j (2 ^ i)
theorem wc_unit {i : Nat} : ∀ {B : List (List Nat)} {j : Nat} (_ : Lens n B) (hj : j < B.length), wc n (unit B.length j i) B = wsh i B[j]
  | b :: bs, 0, h, _ => by
    unfold unit
    rw [List.length_cons, List.replicate_succ, List.set_cons_zero]
    unfold wc
    rw [wc_zero h.tl, wtms_pow, wadd_nought (by rw [wsh_len]; exact h.hd)]
    rfl
  | b :: bs, j + 1, h, hj => by
    unfold unit
    rw [List.length_cons, List.replicate_succ, List.set_cons_succ]
    unfold wc
    have := wc_unit (i := i) (j := j) h.tl (by simpa using hj)
    unfold unit at this
    rw [this, wtms_zero, h.hd, nought_wadd (by rw [wsh_len]; exact h.tl _ (List.getElem_mem _))]
    rfl
theorem InSp.comb (hB : Lens n B) {w : List Nat} (h : InSp n B w) : ∃ ps : List Nat, ps.length = B.length ∧ w = wc n ps B := by
  induction h with
  | zero => exact ⟨List.replicate B.length 0, List.length_replicate, (wc_zero hB).symm⟩
  | add i _ hb ih =>
    obtain ⟨ps, hl, rfl⟩ := ih
    obtain ⟨j, hj, rfl⟩ := List.mem_iff_getElem.mp hb
    have hu : (unit B.length j i).length = B.length := by unfold unit; simp
    exact ⟨wadd ps (unit B.length j i), by rw [wadd_len, hl, hu, Nat.min_self], by rw [wc_xor hB hl hu, wc_unit hB hj]⟩
end
/-! T2: leading rows, degrees of combinations, words counted. -/
/-- the row of the digits at a place -/
def wbit (d : Nat) (w : List Nat) : List Nat := w.map fun p => p >>> d &&& 1
theorem wlead_bit {w : List Nat} : wlead w = wbit (wl w - 1) w := rfl
theorem wbit_len {d : Nat} {w : List Nat} : (wbit d w).length = w.length := List.length_map ..
theorem wbit_wadd {d : Nat} {a b : List Nat} : wbit d (wadd a b) = wadd (wbit d a) (wbit d b) := by
  apply List.ext_getElem
  · simp only [wbit_len, wadd_len]
  · intro i h1 h2
    have h3 := h1
    rw [wbit_len, wadd_len] at h3
    rw [wadd_get _ (by rw [wbit_len]; omega) (by rw [wbit_len]; omega)]
    simp only [wbit, List.getElem_map]
    rw [wadd_get _ (by omega) (by omega), xor_bit]
theorem wbit_nought {d n : Nat} : wbit d (nought n) = nought n := by
  unfold wbit nought
  rw [List.map_replicate, Nat.zero_shiftRight]
  rfl
theorem bit_high {x d : Nat} (h : bl x ≤ d) : x >>> d &&& 1 = 0 := by
  rw [Nat.shiftRight_eq_div_pow, Nat.div_eq_of_lt (bl_le.mp h)]
  rfl
theorem wbit_high {d : Nat} {w : List Nat} (h : wl w ≤ d) : wbit d w = nought w.length := by
  unfold wbit nought
  rw [List.eq_replicate_iff]
  refine ⟨by simp, fun b hb => ?_⟩
  obtain ⟨x, hx, rfl⟩ := List.mem_map.mp hb
  exact bit_high (wl_le.mp h x hx)
/-- the digit of a product at the sum of two greatest places -/
theorem bit_pmul {x p a : Nat} (hp : p ≠ 0) (hx : bl x ≤ a + 1) : pmul x p >>> (a + (bl p - 1)) &&& 1 = x >>> a &&& 1 := by
  have p1 := bl_pos hp
  rcases Nat.lt_or_ge (bl x) (a + 1) with h | h
  · rw [bit_high (show bl x ≤ a by omega)]
    by_cases z : x = 0
    · subst z; rw [pmul_zero_left]; exact bit_high (by rw [bl_zero]; omega)
    · have := bl_pmul_eq z hp
      exact bit_high (by omega)
  · have e : bl x = a + 1 := by omega
    have z : x ≠ 0 := fun z => by subst z; rw [bl_zero] at e; omega
    have := bl_pmul_eq z hp
    rw [shr_top e, shr_top (k := a + (bl p - 1)) (by omega)]
theorem wbit_wtms {p : Nat} {w : List Nat} (hp : p ≠ 0) (hw : 1 ≤ wl w) : wbit (wl w - 1 + (bl p - 1)) (wtms p w) = wlead w := by
  unfold wbit wtms wlead
  rw [List.map_map]
  refine List.map_congr_left fun x hx => ?_
  have := wl_le.mp (Nat.le_refl (wl w)) x hx
  exact bit_pmul hp (by omega)
theorem wl_wadd_max {a b : List Nat} : wl (wadd a b) ≤ max (wl a) (wl b) := wl_wadd_le (Nat.le_max_left ..) (Nat.le_max_right ..)
theorem wl_zero {n : Nat} {w : List Nat} (hl : w.length = n) (h : wl w = 0) : w = nought n := by
  unfold nought
  rw [List.eq_replicate_iff]
  refine ⟨hl, fun x hx => ?_⟩
  have := wl_le.mp (show wl w ≤ 0 by omega) x hx
  by_cases z : x = 0
  · exact z
  · have := bl_pos z; omega
/-- rows are free -/
def Indep (n : Nat) (rows : List (List Nat)) : Prop := ∀ s : List Nat, s.length = rows.length → (∀ x ∈ s, x ≤ 1) → wc n s rows = nought n → ∀ x ∈ s, x = 0
def WellLed (n : Nat) (B : List (List Nat)) : Prop := (∀ b ∈ B, 1 ≤ wl b) ∧ Indep n (B.map wlead)
/-- the greatest degree, more 1, of the parts of a combination -/
def mx : List Nat → List (List Nat) → Nat
  | p :: ps, b :: bs => max (if p = 0 then 0 else bl p + wl b - 1) (mx ps bs)
  | _, _ => 0
theorem wl_wtms {p : Nat} {w : List Nat} (hp : p ≠ 0) (hw : 1 ≤ wl w) : wl (wtms p w) = bl p + wl w - 1 := by
  have := wl_wtms_eq hp hw
  omega
section
variable {n : Nat}
theorem wl_wc_le : ∀ {ps : List Nat} {B : List (List Nat)}, Lens n B → (∀ b ∈ B, 1 ≤ wl b) → wl (wc n ps B) ≤ mx ps B
  | [], _, _, _ => by unfold wc; rw [wl_nought]; exact Nat.zero_le _
  | p :: ps, [], _, _ => by unfold wc; rw [wl_nought]; exact Nat.zero_le _
  | p :: ps, b :: bs, h, h1 => by
    have ih := wl_wc_le (ps := ps) h.tl fun x hx => h1 x (List.mem_cons_of_mem _ hx)
    unfold wc mx
    by_cases z : p = 0
    · subst z
      rw [wtms_zero, h.hd, nought_wadd (wc_len h.tl), if_pos rfl]
      exact Nat.le_trans ih (Nat.le_max_right ..)
    · have := wl_wtms z (h1 b (List.mem_cons_self ..))
      have m := @wl_wadd_max (wtms p b) (wc n ps bs)
      rw [if_neg z]
      omega
/-- which parts have the degree D -/
def tops (D : Nat) : List Nat → List (List Nat) → List Nat
  | p :: ps, b :: bs => (if p ≠ 0 ∧ bl p + wl b - 1 = D then 1 else 0) :: tops D ps bs
  | _, _ => []
theorem tops_len (D : Nat) : ∀ {ps : List Nat} {B : List (List Nat)}, ps.length = B.length → (tops D ps B).length = B.length
  | [], [], _ => rfl
  | p :: ps, b :: bs, h => by
    unfold tops
    rw [List.length_cons, List.length_cons, tops_len D (by simpa using h)]
  | [], b :: bs, h => by simp at h
  | p :: ps, [], h => by simp at h
theorem tops_le (D : Nat) : ∀ {ps : List Nat} {B : List (List Nat)}, ∀ x ∈ tops D ps B, x ≤ 1
  | [], _, x, h => by simp [tops] at h
  | p :: ps, [], x, h => by simp [tops] at h
  | p :: ps, b :: bs, x, h => by
    unfold tops at h
    rcases List.mem_cons.mp h with rfl | h
    · split <;> decide
    · exact tops_le D x h
theorem wbit_wc (d : Nat) : ∀ {ps : List Nat} {B : List (List Nat)}, Lens n B → (∀ b ∈ B, 1 ≤ wl b) → mx ps B ≤ d + 1 → wbit d (wc n ps B) = wc n (tops (d + 1) ps B) (B.map wlead)
  | [], _, _, _, _ => by unfold wc tops; rw [wbit_nought]
  | p :: ps, [], _, _, _ => by unfold wc tops; rw [wbit_nought]
  | p :: ps, b :: bs, h, h1, hm => by
    have hb := h1 b (List.mem_cons_self ..)
    unfold mx at hm
    have ih := wbit_wc d (ps := ps) h.tl (fun x hx => h1 x (List.mem_cons_of_mem _ hx)) (by omega)
    unfold wc tops
    rw [wbit_wadd, ih, List.map_cons]
    show _ = wadd (wtms _ (wlead b)) (wc n (tops (d + 1) ps bs) (bs.map wlead))
    congr 1
    have ll : (wlead b).length = n := by rw [wlead_bit, wbit_len]; exact h.hd
    by_cases z : p = 0
    · subst z
      rw [if_neg (by simp), wtms_zero, wtms_zero, wbit_nought, h.hd, ll]
    · have p1 := bl_pos z
      rw [if_neg z] at hm
      by_cases e : bl p + wl b - 1 = d + 1
      · rw [if_pos ⟨z, e⟩, wtms_one]
        have := wbit_wtms z hb
        rw [show wl b - 1 + (bl p - 1) = d by omega] at this
        exact this
      · rw [if_neg (fun q => e q.2), wtms_zero, ll, wbit_high (by rw [wl_wtms z hb]; omega), wtms_len, h.hd]
theorem mx_top : ∀ {ps : List Nat} {B : List (List Nat)}, ps.length = B.length → 1 ≤ mx ps B → ∃ x ∈ tops (mx ps B) ps B, x = 1
  | [], B, _, h => by unfold mx at h; omega
  | p :: ps, [], h, _ => by simp at h
  | p :: ps, b :: bs, hl, h => by
    have e : mx (p :: ps) (b :: bs) = max (if p = 0 then 0 else bl p + wl b - 1) (mx ps bs) := rfl
    rw [e] at h ⊢
    unfold tops
    rcases Nat.lt_or_ge (mx ps bs) (if p = 0 then 0 else bl p + wl b - 1) with g | g
    · refine ⟨1, ?_, rfl⟩
      rw [Nat.max_eq_left (by omega)]
      by_cases z : p = 0
      · rw [if_pos z] at g; omega
      · rw [if_neg z, if_pos ⟨z, rfl⟩]
        exact List.mem_cons_self ..
    · rw [Nat.max_eq_right g] at h ⊢
      obtain ⟨x, hx, e⟩ := mx_top (by simpa using hl) h
      exact ⟨x, List.mem_cons_of_mem _ hx, e⟩
/-- a combination of well led words has the greatest degree of its parts -/
theorem wl_wc {ps : List Nat} {B : List (List Nat)} (h : Lens n B) (w : WellLed n B) (hl : ps.length = B.length) : wl (wc n ps B) = mx ps B := by
  apply Nat.le_antisymm (wl_wc_le h w.1)
  rcases Nat.eq_zero_or_pos (mx ps B) with z | z
  · omega
  · obtain ⟨d, hd⟩ : ∃ d, mx ps B = d + 1 := ⟨mx ps B - 1, by omega⟩
    rcases Nat.lt_or_ge (wl (wc n ps B)) (d + 1) with g | g
    · have e := wbit_wc d h w.1 (show mx ps B ≤ d + 1 by omega)
      rw [wbit_high (by omega), wc_len h] at e
      obtain ⟨x, hx, x1⟩ := mx_top hl z
      rw [hd] at hx
      have := w.2 (tops (d + 1) ps B) (by rw [tops_len _ hl, List.length_map]) (tops_le _) e.symm x hx
      omega
    · omega
theorem mx_zero : ∀ {ps : List Nat} {B : List (List Nat)}, (∀ b ∈ B, 1 ≤ wl b) → ps.length = B.length → mx ps B = 0 → ∀ p ∈ ps, p = 0
  | [], _, _, _, _, p, hp => by cases hp
  | p :: ps, [], _, hl, _, _, _ => by simp at hl
  | p :: ps, b :: bs, h1, hl, h, q, hq => by
    have e : max (if p = 0 then 0 else bl p + wl b - 1) (mx ps bs) = 0 := h
    rcases List.mem_cons.mp hq with rfl | hq
    · by_cases z : q = 0
      · exact z
      · rw [if_neg z] at e
        have := bl_pos z
        have := h1 b (List.mem_cons_self ..)
        omega
    · exact mx_zero (fun x hx => h1 x (List.mem_cons_of_mem _ hx)) (by simpa using hl) (by omega) q hq
/-- well led words are free -/
theorem wc_inj {ps qs : List Nat} {B : List (List Nat)} (h : Lens n B) (w : WellLed n B) (h1 : ps.length = B.length) (h2 : qs.length = B.length) (e : wc n ps B = wc n qs B) : ps = qs := by
  have k : wc n (wadd ps qs) B = nought n := by rw [wc_xor h h1 h2, e, wadd_self (wc_len h)]
  have l : (wadd ps qs).length = B.length := by rw [wadd_len, h1, h2, Nat.min_self]
  have m := wl_wc h w l
  rw [k, wl_nought] at m
  have z := mx_zero w.1 l m.symm
  refine wadd_eq_nought h1 h2 ?_
  unfold nought
  rw [List.eq_replicate_iff]
  exact ⟨l, z⟩
/-! ### words counted -/
/-- all tuples of coefficients for words below a degree -/
def tups (m : Nat) : List (List Nat) → List (List Nat)
  | [] => [[]]
  | b :: bs => (List.range (2 ^ (m + 1 - wl b))).flatMap fun p => (tups m bs).map (p :: ·)
theorem tups_mem {m : Nat} : ∀ {B : List (List Nat)} {ps : List Nat}, (∀ b ∈ B, 1 ≤ wl b) → (ps ∈ tups m B ↔ ps.length = B.length ∧ mx ps B ≤ m)
  | [], ps, _ => by
    unfold tups
    rw [List.mem_singleton]
    constructor
    · rintro rfl; exact ⟨rfl, Nat.zero_le _⟩
    · rintro ⟨h, _⟩; exact List.eq_nil_of_length_eq_zero h
  | b :: bs, ps, h1 => by
    have ih := fun {qs : List Nat} => tups_mem (m := m) (ps := qs) (B := bs) fun x hx => h1 x (List.mem_cons_of_mem _ hx)
    have hb := h1 b (List.mem_cons_self ..)
    unfold tups
    simp only [List.mem_flatMap, List.mem_range, List.mem_map]
    have key : ∀ p, p < 2 ^ (m + 1 - wl b) ↔ (if p = 0 then 0 else bl p + wl b - 1) ≤ m := fun p => by
      rw [← bl_le]
      by_cases z : p = 0
      · rw [if_pos z, z, bl_zero]; omega
      · have := bl_pos z
        rw [if_neg z]; omega
    constructor
    · rintro ⟨p, hp, qs, hq, rfl⟩
      obtain ⟨l, q⟩ := ih.mp hq
      refine ⟨by simp [l], ?_⟩
      show max _ _ ≤ m
      have := (key p).mp hp
      omega
    · rintro ⟨l, q⟩
      cases ps with
      | nil => simp at l
      | cons p qs =>
        have q : max (if p = 0 then 0 else bl p + wl b - 1) (mx qs bs) ≤ m := q
        exact ⟨p, (key p).mpr (by omega), qs, ih.mpr ⟨by simpa using l, by omega⟩, rfl⟩
theorem tups_nodup {m : Nat} : ∀ {B : List (List Nat)}, (tups m B).Nodup
  | [] => by unfold tups; simp
  | b :: bs => by
    unfold tups
    refine List.pairwise_flatMap.mpr ⟨fun p _ => ?_, ?_⟩
    · exact List.pairwise_map.mpr (List.Pairwise.imp (fun {a c} hne e => hne (by cases e; rfl)) tups_nodup)
    · exact List.Pairwise.imp (fun {a c} hne => by
        intro x hx y hy e
        simp only [List.mem_map] at hx hy
        obtain ⟨u, _, rfl⟩ := hx
        obtain ⟨v, _, rfl⟩ := hy
        cases e
        exact hne rfl) List.nodup_range
/-- how much room below a degree -/
def room (m : Nat) (B : List (List Nat)) : Nat := (B.map fun b => m + 1 - wl b).sum
theorem tups_len {m : Nat} : ∀ {B : List (List Nat)}, (tups m B).length = 2 ^ room m B
  | [] => rfl
  | b :: bs => by
    unfold tups room
    rw [List.length_flatMap]
    simp only [List.length_map, tups_len, List.map_const', List.sum_replicate_nat, List.length_range, List.map_cons, List.sum_cons]
    rw [Nat.pow_add]
    rfl
theorem nodup_len {α : Type} [DecidableEq α] : ∀ {xs ys : List α}, xs.Nodup → (∀ x ∈ xs, x ∈ ys) → xs.length ≤ ys.length
  | [], _, _, _ => Nat.zero_le _
  | x :: xs, ys, h, s => by
    have h' := List.nodup_cons.mp h
    have := nodup_len (ys := ys.erase x) h'.2 fun y hy => (List.mem_erase_of_ne (fun e => h'.1 (by rw [← e]; exact hy))).mpr (s y (List.mem_cons_of_mem _ hy))
    rw [List.length_erase_of_mem (s x (List.mem_cons_self ..))] at this
    have : 0 < ys.length := List.length_pos_of_mem (s x (List.mem_cons_self ..))
    rw [List.length_cons]
    omega
/-- the words below a degree -/
def below (n m : Nat) (B : List (List Nat)) : List (List Nat) := (tups m B).map fun ps => wc n ps B
theorem below_mem {m : Nat} {B : List (List Nat)} (h : Lens n B) (w : WellLed n B) {x : List Nat} : x ∈ below n m B ↔ InSp n B x ∧ wl x ≤ m := by
  unfold below
  rw [List.mem_map]
  constructor
  · rintro ⟨ps, hp, rfl⟩
    obtain ⟨l, q⟩ := (tups_mem w.1).mp hp
    exact ⟨wc_in h, by rw [wl_wc h w l]; exact q⟩
  · rintro ⟨h1, h2⟩
    obtain ⟨ps, l, rfl⟩ := h1.comb h
    exact ⟨ps, (tups_mem w.1).mpr ⟨l, by rw [wl_wc h w l] at h2; exact h2⟩, rfl⟩
theorem below_nodup {m : Nat} {B : List (List Nat)} (h : Lens n B) (w : WellLed n B) : (below n m B).Nodup := by
  unfold below
  refine (List.pairwise_map.mpr ?_)
  refine List.Pairwise.imp_of_mem (fun {a c} ha hc hne => ?_) tups_nodup
  intro e
  exact hne (wc_inj h w ((tups_mem w.1).mp ha).1 ((tups_mem w.1).mp hc).1 e)
theorem below_len {m : Nat} {B : List (List Nat)} : (below n m B).length = 2 ^ room m B := by
  unfold below
  rw [List.length_map, tups_len]
/-- well led words of the same sums have the same room -/
theorem room_le {B C : List (List Nat)} (hB : Lens n B) (hC : Lens n C) (wB : WellLed n B) (wC : WellLed n C) (h : ∀ b ∈ B, InSp n C b) (m : Nat) : room m B ≤ room m C := by
  have := nodup_len (below_nodup (m := m) hB wB) (ys := below n m C) fun x hx => (below_mem hC wC).mpr (by
    obtain ⟨a, b⟩ := (below_mem hB wB).mp hx
    exact ⟨a.trans hC h, b⟩)
  rw [below_len, below_len] at this
  exact (Nat.pow_le_pow_iff_right (by decide)).mp this
end
/-! T3: degrees of well led words; lots; a word of a tied lot given way. -/
section
variable {n : Nat}
theorem room_succ (m : Nat) : ∀ B : List (List Nat), room (m + 1) B = room m B + (B.map wl).countP (fun d => decide (d ≤ m + 1))
  | [] => rfl
  | b :: bs => by
    have ih := room_succ m bs
    unfold room at *
    rw [List.map_cons, List.map_cons, List.sum_cons, List.map_cons, List.sum_cons, List.countP_cons]
    by_cases h : wl b ≤ m + 1
    · rw [if_pos (decide_eq_true h)]; omega
    · rw [if_neg (by rw [decide_eq_false h]; decide)]; omega
theorem count_le (a : Nat) : ∀ l : List Nat, l.countP (fun d => decide (d ≤ a + 1)) = l.countP (fun d => decide (d ≤ a)) + l.count (a + 1)
  | [] => rfl
  | x :: l => by
    have ih := count_le a l
    simp only [List.countP_cons, List.count_cons]
    by_cases h1 : x ≤ a
    · have h2 : x ≤ a + 1 := by omega
      have h3 : (x == a + 1) = false := by simp only [beq_eq_false_iff_ne]; omega
      simp only [h1, h2, h3, decide_true, if_true]; simp; omega
    · by_cases h2 : x = a + 1
      · subst h2
        simp only [h1, decide_false, Nat.le_refl, decide_true, beq_self_eq_true, if_true]; simp; omega
      · have h3 : (x == a + 1) = false := by simp only [beq_eq_false_iff_ne]; exact h2
        have h4 : ¬ x ≤ a + 1 := by omega
        simp only [h1, h3, h4, decide_false]; simp; omega
/-- well led words with the same sums have the same degrees -/
theorem degs_perm {B C : List (List Nat)} (hB : Lens n B) (hC : Lens n C) (wB : WellLed n B) (wC : WellLed n C) (h1 : ∀ b ∈ B, InSp n C b) (h2 : ∀ c ∈ C, InSp n B c) : (B.map wl).Perm (C.map wl) := by
  have hr : ∀ m, room m B = room m C := fun m => Nat.le_antisymm (room_le hB hC wB wC h1 m) (room_le hC hB wC wB h2 m)
  have z : ∀ D : List (List Nat), WellLed n D → (D.map wl).countP (fun d => decide (d ≤ 0)) = 0 := fun D w => by
    rw [List.countP_eq_zero]
    intro d hd
    obtain ⟨b, hb, rfl⟩ := List.mem_map.mp hd
    have := w.1 b hb
    simp; omega
  have hc : ∀ a, (B.map wl).countP (fun d => decide (d ≤ a)) = (C.map wl).countP (fun d => decide (d ≤ a)) := fun a => by
    cases a with
    | zero => rw [z B wB, z C wC]
    | succ m =>
      have e1 := room_succ m B
      have e2 := room_succ m C
      rw [hr, hr] at e1
      omega
  rw [List.perm_iff_count]
  intro a
  cases a with
  | zero =>
    have y : ∀ D : List (List Nat), WellLed n D → (D.map wl).count 0 = 0 := fun D w => by
      rw [List.count_eq_zero]
      intro hd
      obtain ⟨b, hb, e⟩ := List.mem_map.mp hd
      have := w.1 b hb
      omega
    rw [y B wB, y C wC]
  | succ a =>
    have e1 := count_le a (B.map wl)
    have e2 := count_le a (C.map wl)
    rw [hc, hc] at e1
    omega
/-! ### lots: lists of places -/
/-- coefficients at the places of a lot -/
def csel (k : Nat) (c : Nat → Nat) (lot : List Nat) : List Nat := (List.range k).map fun i => if i ∈ lot then c i else 0
theorem csel_len {k : Nat} {c : Nat → Nat} {lot : List Nat} : (csel k c lot).length = k := by simp [csel]
/-- the sum of the words of a lot, each times its coefficient -/
def lsum (n : Nat) (c : Nat → Nat) (B : List (List Nat)) : List Nat → List Nat
  | [] => nought n
  | i :: r => wadd (wtms (c i) (B.getD i [])) (lsum n c B r)
def sing (k j p : Nat) : List Nat := (List.replicate k 0).set j p
theorem sing_len {k j p : Nat} : (sing k j p).length = k := by simp [sing]
theorem wc_sing {p : Nat} : ∀ {B : List (List Nat)} {j : Nat} (_ : Lens n B) (hj : j < B.length), wc n (sing B.length j p) B = wtms p (B.getD j [])
  | b :: bs, 0, h, _ => by
    unfold sing
    rw [List.length_cons, List.replicate_succ, List.set_cons_zero]
    unfold wc
    rw [wc_zero h.tl, wadd_nought (by rw [wtms_len]; exact h.hd)]
    rfl
  | b :: bs, j + 1, h, hj => by
    unfold sing
    rw [List.length_cons, List.replicate_succ, List.set_cons_succ]
    unfold wc
    have hj' : j < bs.length := by simpa using hj
    have := wc_sing (p := p) (j := j) h.tl hj'
    unfold sing at this
    rw [this, wtms_zero, h.hd]
    show wadd (nought n) (wtms p (bs.getD j [])) = wtms p (bs.getD j [])
    exact nought_wadd (by rw [wtms_len, List.getD_eq_getElem?_getD, List.getElem?_eq_getElem hj']; exact h.tl _ (List.getElem_mem _))
theorem csel_cons {k i : Nat} {c : Nat → Nat} {r : List Nat} (hi : i < k) (hr : i ∉ r) : csel k c (i :: r) = wadd (sing k i (c i)) (csel k c r) := by
  apply List.ext_getElem
  · rw [csel_len, wadd_len, sing_len, csel_len, Nat.min_self]
  · intro j h1 h2
    rw [csel_len] at h1
    rw [wadd_get _ (by rw [sing_len]; omega) (by rw [csel_len]; omega)]
    simp only [csel, sing, List.getElem_map, List.getElem_range, List.mem_cons, List.getElem_set, List.getElem_replicate]
    by_cases e : j = i
    · subst e
      simp [hr]
    · have e' : i ≠ j := fun z => e z.symm
      simp [e, e']
theorem wc_csel {B : List (List Nat)} {c : Nat → Nat} (h : Lens n B) : ∀ {lot : List Nat}, lot.Nodup → (∀ i ∈ lot, i < B.length) → wc n (csel B.length c lot) B = lsum n c B lot
  | [], _, _ => by
    have e : csel B.length c [] = List.replicate B.length 0 := by
      rw [List.eq_replicate_iff]
      exact ⟨csel_len, fun x hx => by obtain ⟨i, _, rfl⟩ := List.mem_map.mp hx; simp⟩
    rw [e, wc_zero h]
    rfl
  | i :: r, hd, hi => by
    have hd' := List.nodup_cons.mp hd
    rw [csel_cons (hi i (List.mem_cons_self ..)) hd'.1, wc_xor h sing_len csel_len, wc_sing h (hi i (List.mem_cons_self ..)), wc_csel h hd'.2 fun j hj => hi j (List.mem_cons_of_mem _ hj)]
    rfl
theorem getD_mem {B : List (List Nat)} {i : Nat} (hi : i < B.length) : B.getD i [] ∈ B := by
  rw [List.getD_eq_getElem?_getD, List.getElem?_eq_getElem hi]
  exact List.getElem_mem hi
theorem lsum_len {c : Nat → Nat} {B : List (List Nat)} (h : Lens n B) : ∀ {lot : List Nat}, (∀ i ∈ lot, i < B.length) → (lsum n c B lot).length = n
  | [], _ => nought_len
  | i :: r, hi => by
    unfold lsum
    rw [wadd_len, wtms_len, h _ (getD_mem (hi i (List.mem_cons_self ..))), lsum_len h fun j hj => hi j (List.mem_cons_of_mem _ hj), Nat.min_self]
/-- a lot is tied: its leading rows add up to noughts -/
def Tied (n : Nat) (B : List (List Nat)) (lot : List Nat) : Prop := lsum n (fun _ => 1) (B.map wlead) lot = nought n
/-- places, each once, of some -/
structure LotOf (k : Nat) (lot : List Nat) : Prop where
  nd : lot.Nodup
  lt : ∀ i ∈ lot, i < k
  ne : lot ≠ []
theorem Lens.lead {B : List (List Nat)} (h : Lens n B) : Lens n (B.map wlead) := fun r hr => by
  obtain ⟨b, hb, rfl⟩ := List.mem_map.mp hr
  rw [wlead_bit, wbit_len]
  exact h b hb
/-- free rows: no lot is tied -/
theorem indep_iff {B : List (List Nat)} (h : Lens n B) : Indep n (B.map wlead) ↔ ∀ lot, LotOf B.length lot → ¬ Tied n B lot := by
  constructor
  · rintro hi lot ⟨nd, lt, ne⟩ t
    obtain ⟨i, r, rfl⟩ : ∃ i r, lot = i :: r := by cases lot with
      | nil => exact absurd rfl ne
      | cons i r => exact ⟨i, r, rfl⟩
    have lt' : ∀ j ∈ (i :: r), j < (B.map wlead).length := fun j hj => by rw [List.length_map]; exact lt j hj
    have e := wc_csel (c := fun _ => 1) h.lead nd lt'
    have z := hi (csel (B.map wlead).length (fun _ => 1) (i :: r)) csel_len (fun x hx => by
      obtain ⟨j, _, rfl⟩ := List.mem_map.mp hx
      split
      · exact Nat.le_refl 1
      · exact Nat.zero_le 1) (e.trans t) 1 (List.mem_map.mpr ⟨i, List.mem_range.mpr (lt' i (List.mem_cons_self ..)), by simp⟩)
    cases z
  · intro hl s sl s1 e x hx
    rcases Nat.le_one_iff_eq_zero_or_eq_one.mp (s1 x hx) with z | z
    · exact z
    · exfalso
      have sl' : s.length = B.length := by rw [sl, List.length_map]
      have es : s = csel (B.map wlead).length (fun _ => 1) ((List.range B.length).filter fun i => s.getD i 0 == 1) := by
        apply List.ext_getElem
        · rw [csel_len, sl]
        · intro j h1 h2
          simp only [csel, List.getElem_map, List.getElem_range, List.mem_filter, List.mem_range, beq_iff_eq, List.getD_eq_getElem?_getD, List.getElem?_eq_getElem h1, Option.getD_some]
          rcases Nat.le_one_iff_eq_zero_or_eq_one.mp (s1 s[j] (List.getElem_mem h1)) with z | z
          · rw [z]; simp
          · rw [z]; simp [← sl', h1]
      refine hl ((List.range B.length).filter fun i => s.getD i 0 == 1) ⟨List.Pairwise.filter _ List.nodup_range, fun i hi => List.mem_range.mp (List.mem_filter.mp hi).1, fun z => ?_⟩ ?_
      · obtain ⟨j, hj, ej⟩ := List.mem_iff_getElem.mp hx
        have : j ∈ (List.range B.length).filter fun i => s.getD i 0 == 1 := List.mem_filter.mpr ⟨List.mem_range.mpr (by omega), by rw [List.getD_eq_getElem?_getD, List.getElem?_eq_getElem hj]; simp [ej, ‹x = 1›]⟩
        rw [z] at this
        cases this
      · have := wc_csel (c := fun _ => 1) (lot := (List.range B.length).filter fun i => s.getD i 0 == 1) h.lead (List.Pairwise.filter _ List.nodup_range) fun i hi => by rw [List.length_map]; exact List.mem_range.mp (List.mem_filter.mp hi).1
        unfold Tied
        rw [← this, ← es, e]
end
/-! T4: sums of tied lots, words that give way, words found by lots. -/
section
variable {n : Nat}
theorem wl_ge {w : List Nat} {x : Nat} (h : x ∈ w) : bl x ≤ wl w := wl_le.mp (Nat.le_refl _) x h
theorem wl_mem : ∀ {w : List Nat}, 1 ≤ wl w → ∃ x ∈ w, bl x = wl w
  | [], h => by simp [wl] at h
  | y :: r, h => by
    have e : wl (y :: r) = max (bl y) (wl r) := rfl
    rw [e] at h ⊢
    rcases Nat.lt_or_ge (bl y) (wl r) with g | g
    · obtain ⟨x, hx, q⟩ := wl_mem (w := r) (by omega)
      exact ⟨x, List.mem_cons_of_mem _ hx, by omega⟩
    · exact ⟨y, List.mem_cons_self .., by omega⟩
theorem wbit_top {w : List Nat} {d : Nat} (h : wl w = d + 1) : wbit d w ≠ nought w.length := fun e => by
  obtain ⟨x, hx, q⟩ := wl_mem (w := w) (by omega)
  have t := shr_top (y := x) (k := d) (by omega)
  have m : x >>> d &&& 1 ∈ wbit d w := List.mem_map.mpr ⟨x, hx, rfl⟩
  rw [e, t] at m
  have := (List.mem_replicate.mp m).2
  omega
theorem lead_ne {w : List Nat} (h : 1 ≤ wl w) : wlead w ≠ nought w.length := by
  rw [wlead_bit]
  exact wbit_top (by omega)
/-- by how much each word of a lot is moved -/
def mv (B : List (List Nat)) (most i : Nat) : Nat := 2 ^ (most - wl (B.getD i []))
theorem wl_lsum {B : List (List Nat)} {most : Nat} (h1 : ∀ b ∈ B, 1 ≤ wl b) : ∀ {lot : List Nat}, (∀ i ∈ lot, i < B.length) → (∀ i ∈ lot, wl (B.getD i []) ≤ most) → wl (lsum n (mv B most) B lot) ≤ most
  | [], _, _ => by unfold lsum; rw [wl_nought]; omega
  | i :: r, hi, hm => by
    unfold lsum
    have ih := wl_lsum (lot := r) h1 (fun j hj => hi j (List.mem_cons_of_mem _ hj)) fun j hj => hm j (List.mem_cons_of_mem _ hj)
    have a := h1 _ (getD_mem (hi i (List.mem_cons_self ..)))
    have b := hm i (List.mem_cons_self ..)
    have c := wl_wtms (p := mv B most i) (Nat.ne_of_gt (Nat.two_pow_pos _)) a
    have d := @wl_wadd_max (wtms (mv B most i) (B.getD i [])) (lsum n (mv B most) B r)
    unfold mv at c
    rw [bl_pow] at c
    unfold mv at d ⊢
    unfold mv at ih
    omega
theorem wbit_lsum {B : List (List Nat)} {most : Nat} (hB : Lens n B) (h1 : ∀ b ∈ B, 1 ≤ wl b) : ∀ {lot : List Nat}, (∀ i ∈ lot, i < B.length) → (∀ i ∈ lot, wl (B.getD i []) ≤ most) → wbit (most - 1) (lsum n (mv B most) B lot) = lsum n (fun _ => 1) (B.map wlead) lot
  | [], _, _ => by unfold lsum; exact wbit_nought
  | i :: r, hi, hm => by
    unfold lsum
    have hi0 := hi i (List.mem_cons_self ..)
    have a := h1 _ (getD_mem hi0)
    have b := hm i (List.mem_cons_self ..)
    rw [wbit_wadd, wbit_lsum hB h1 (fun j hj => hi j (List.mem_cons_of_mem _ hj)) fun j hj => hm j (List.mem_cons_of_mem _ hj), wtms_one]
    congr 1
    have t := wbit_wtms (p := mv B most i) (Nat.ne_of_gt (Nat.two_pow_pos _)) a
    unfold mv at t ⊢
    rw [bl_pow, show wl (B.getD i []) - 1 + (most - wl (B.getD i []) + 1 - 1) = most - 1 by omega] at t
    rw [t, List.getD_eq_getElem?_getD, List.getD_eq_getElem?_getD, List.getElem?_map, List.getElem?_eq_getElem hi0]
    rfl
/-- the sum of a tied lot is of a lesser degree -/
theorem late_lt {B : List (List Nat)} {most : Nat} {lot : List Nat} (hB : Lens n B) (h1 : ∀ b ∈ B, 1 ≤ wl b) (hi : ∀ i ∈ lot, i < B.length) (hm : ∀ i ∈ lot, wl (B.getD i []) ≤ most) (m1 : 1 ≤ most) (t : Tied n B lot) : wl (lsum n (mv B most) B lot) < most := by
  have a := wl_lsum (n := n) h1 hi hm
  rcases Nat.lt_or_ge (wl (lsum n (mv B most) B lot)) most with g | g
  · exact g
  · exfalso
    refine wbit_top (w := lsum n (mv B most) B lot) (d := most - 1) (by omega) ?_
    rw [wbit_lsum hB h1 hi hm, lsum_len hB hi]
    exact t
theorem lsum_in {B C : List (List Nat)} {c : Nat → Nat} (hC : Lens n C) : ∀ {lot : List Nat}, (∀ i ∈ lot, InSp n C (B.getD i [])) → InSp n C (lsum n c B lot)
  | [], _ => .zero
  | i :: r, h => ((h i (List.mem_cons_self ..)).tms hC _).sum hC (lsum_in hC fun j hj => h j (List.mem_cons_of_mem _ hj))
/-- a word of a lot by the lot's sum and the others -/
theorem lsum_part {B C : List (List Nat)} {c : Nat → Nat} {j : Nat} (hB : Lens n B) (hC : Lens n C) : ∀ {lot : List Nat}, lot.Nodup → (∀ i ∈ lot, i < B.length) → j ∈ lot → (∀ i ∈ lot, i ≠ j → InSp n C (B.getD i [])) → ∃ rest, InSp n C rest ∧ lsum n c B lot = wadd (wtms (c j) (B.getD j [])) rest
  | [], _, _, h, _ => by cases h
  | i :: r, nd, hi, hj, h => by
    have nd' := List.nodup_cons.mp nd
    by_cases e : i = j
    · subst e
      exact ⟨_, lsum_in hC fun k hk => h k (List.mem_cons_of_mem _ hk) fun z => nd'.1 (by rw [← z]; exact hk), rfl⟩
    · obtain ⟨rest, h1, h2⟩ := lsum_part (c := c) hB hC nd'.2 (fun k hk => hi k (List.mem_cons_of_mem _ hk)) (by
        rcases List.mem_cons.mp hj with z | z
        · exact absurd z.symm e
        · exact z) fun k hk => h k (List.mem_cons_of_mem _ hk)
      refine ⟨wadd (wtms (c i) (B.getD i [])) rest, ((h i (List.mem_cons_self ..) e).tms hC _).sum hC h1, ?_⟩
      unfold lsum
      rw [h2, ← wadd_assoc, ← wadd_assoc, wadd_comm (a := wtms (c i) (B.getD i []))]
theorem back_in {B C : List (List Nat)} {c : Nat → Nat} {j : Nat} {lot : List Nat} (hB : Lens n B) (hC : Lens n C) (nd : lot.Nodup) (hi : ∀ i ∈ lot, i < B.length) (hj : j ∈ lot) (cj : c j = 1) (h : ∀ i < B.length, i ≠ j → InSp n C (B.getD i [])) (hl : InSp n C (lsum n c B lot)) : ∀ b ∈ B, InSp n C b := by
  intro b hb
  obtain ⟨i, hi', rfl⟩ := List.mem_iff_getElem.mp hb
  have e : B[i] = B.getD i [] := by rw [List.getD_eq_getElem?_getD, List.getElem?_eq_getElem hi']; rfl
  by_cases z : i = j
  · subst z
    obtain ⟨rest, h1, h2⟩ := lsum_part (c := c) hB hC nd hi hj fun k hk ne => h k (hi k hk) ne
    rw [cj, wtms_one, ← e] at h2
    have h3 := hl.sum hC h1
    rw [h2, wadd_cancel (hB _ hb) (h1.len hC)] at h3
    exact h3
  · rw [e]; exact h i hi' z
/-! ### lots ascending -/
structure LotAsc (k : Nat) (lot : List Nat) : Prop where
  asc : lot.Pairwise (· < ·)
  lt : ∀ i ∈ lot, i < k
  ne : lot ≠ []
theorem LotAsc.of {k : Nat} {lot : List Nat} (h : LotAsc k lot) : LotOf k lot := ⟨h.asc.imp fun {a b} z => Nat.ne_of_lt z, h.lt, h.ne⟩
/-- a lot by a mask -/
def mlot (s : List Nat) : List Nat := (List.range s.length).filter fun i => s.getD i 0 == 1
theorem mlot_asc {s : List Nat} : (mlot s).Pairwise (· < ·) := List.Pairwise.filter _ List.pairwise_lt_range
theorem mlot_mem {s : List Nat} {i : Nat} : i ∈ mlot s ↔ i < s.length ∧ s.getD i 0 = 1 := by
  unfold mlot
  rw [List.mem_filter, List.mem_range, beq_iff_eq]
theorem csel_mlot {s : List Nat} (s1 : ∀ x ∈ s, x ≤ 1) : csel s.length (fun _ => 1) (mlot s) = s := by
  apply List.ext_getElem
  · exact csel_len
  · intro j h1 h2
    simp only [csel, List.getElem_map, List.getElem_range, mlot_mem, List.getD_eq_getElem?_getD, List.getElem?_eq_getElem h2, Option.getD_some]
    rcases Nat.le_one_iff_eq_zero_or_eq_one.mp (s1 s[j] (List.getElem_mem h2)) with z | z
    · rw [z]; simp
    · rw [z]; simp [h2]
theorem lsum_mlot {B : List (List Nat)} (hB : Lens n B) {s : List Nat} (hl : s.length = B.length) (s1 : ∀ x ∈ s, x ≤ 1) : lsum n (fun _ => 1) B (mlot s) = wc n s B := by
  rw [← wc_csel hB (mlot_asc.imp fun {a b} z => Nat.ne_of_lt z) fun i hi => by rw [← hl]; exact (mlot_mem.mp hi).1, ← hl, csel_mlot s1]
/-- what is kept of a mask -/
def fmask (q : List Nat → Bool) : List Nat → List (List Nat) → List Nat
  | x :: s, b :: B => if q b = true then x :: fmask q s B else fmask q s B
  | _, _ => []
theorem fmask_len {q : List Nat → Bool} : ∀ {s : List Nat} {B : List (List Nat)}, s.length = B.length → (fmask q s B).length = (B.filter q).length
  | [], [], _ => rfl
  | [], b :: B, h => by simp at h
  | x :: s, [], h => by simp at h
  | x :: s, b :: B, h => by
    have ih := fmask_len (q := q) (s := s) (B := B) (by simpa using h)
    unfold fmask
    rw [List.filter_cons]
    split
    · rw [List.length_cons, List.length_cons, ih]
    · exact ih
theorem fmask_le {q : List Nat → Bool} : ∀ {s : List Nat} {B : List (List Nat)}, (∀ x ∈ s, x ≤ 1) → ∀ x ∈ fmask q s B, x ≤ 1
  | [], _, _, x, hx => by simp [fmask] at hx
  | y :: s, [], _, x, hx => by simp [fmask] at hx
  | y :: s, b :: B, h, x, hx => by
    unfold fmask at hx
    split at hx
    · rcases List.mem_cons.mp hx with rfl | hx
      · exact h _ (List.mem_cons_self ..)
      · exact fmask_le (fun z hz => h z (List.mem_cons_of_mem _ hz)) x hx
    · exact fmask_le (fun z hz => h z (List.mem_cons_of_mem _ hz)) x hx
theorem wc_fmask {q : List Nat → Bool} {f : List Nat → List Nat} : ∀ {s : List Nat} {B : List (List Nat)}, s.length = B.length → Lens n (B.map f) → (∀ i < B.length, q (B.getD i []) = false → s.getD i 0 = 0) → wc n (fmask q s B) ((B.filter q).map f) = wc n s (B.map f)
  | [], [], _, _, _ => rfl
  | [], b :: B, h, _, _ => by simp at h
  | x :: s, [], h, _, _ => by simp at h
  | x :: s, b :: B, h, hl, hz => by
    have ih := wc_fmask (q := q) (f := f) (s := s) (B := B) (by simpa using h) hl.tl fun i hi e => by
      have := hz (i + 1) (by rw [List.length_cons]; omega) (by simpa using e)
      simpa using this
    unfold fmask
    rw [List.filter_cons]
    cases e : q b with
    | true =>
      rw [if_pos rfl, if_pos rfl, List.map_cons, List.map_cons]
      show wadd (wtms x (f b)) _ = wadd (wtms x (f b)) _
      rw [ih]
    | false =>
      have x0 : x = 0 := hz 0 (by simp) e
      rw [if_neg Bool.false_ne_true, if_neg Bool.false_ne_true, ih, List.map_cons]
      show _ = wadd (wtms x (f b)) (wc n s (B.map f))
      rw [x0, wtms_zero, hl.hd, nought_wadd (wc_len hl.tl)]
theorem wc_append {n : Nat} : ∀ {s t : List Nat} {B C : List (List Nat)}, s.length = B.length → Lens n B → Lens n C → wc n (s ++ t) (B ++ C) = wadd (wc n s B) (wc n t C)
  | [], t, [], C, _, _, hC => by
    show wc n t C = wadd (nought n) (wc n t C)
    rw [nought_wadd (wc_len hC)]
  | [], t, b :: B, C, h, _, _ => by simp at h
  | x :: s, t, [], C, h, _, _ => by simp at h
  | x :: s, t, b :: B, C, h, hB, hC => by
    show wadd (wtms x b) (wc n (s ++ t) (B ++ C)) = wadd (wadd (wtms x b) (wc n s B)) (wc n t C)
    rw [wc_append (by simpa using h) hB.tl hC, wadd_assoc]
theorem tops_getD {D : Nat} : ∀ {ps : List Nat} {B : List (List Nat)} {i : Nat}, i < B.length → (tops D ps B).getD i 0 ≠ 0 → wl (B.getD i []) ≤ D
  | [], _, i, _, h => by simp [tops] at h
  | p :: ps, [], i, h, _ => by simp at h
  | p :: ps, b :: bs, 0, _, h => by
    have h : (if p ≠ 0 ∧ bl p + wl b - 1 = D then 1 else 0) ≠ 0 := h
    show wl b ≤ D
    split at h
    · rename_i q
      have := bl_pos q.1
      omega
    · exact absurd rfl h
  | p :: ps, b :: bs, i + 1, hi, h => tops_getD (ps := ps) (B := bs) (i := i) (by simpa using hi) h
/-- a word of a code is found by a lot with the words of at most its degree -/
theorem found_lot {B : List (List Nat)} (hB : Lens n B) (w : WellLed n B) {x : List Nat} (hx : InSp n B x) (x1 : 1 ≤ wl x) :
    ∃ lot, LotAsc ((B.filter fun b => decide (wl b ≤ wl x)).length + 1) lot ∧ (B.filter fun b => decide (wl b ≤ wl x)).length ∈ lot ∧ Tied n ((B.filter fun b => decide (wl b ≤ wl x)) ++ [x]) lot := by
  obtain ⟨ps, hl, e⟩ := hx.comb hB
  have hm := wl_wc hB w hl
  rw [← e] at hm
  obtain ⟨d, hd⟩ : ∃ d, wl x = d + 1 := ⟨wl x - 1, by omega⟩
  have hb := wbit_wc d hB w.1 (show mx ps B ≤ d + 1 by omega)
  rw [← e] at hb
  have hlead : wlead x = wc n (tops (d + 1) ps B) (B.map wlead) := by rw [wlead_bit, hd]; exact hb
  have tl := tops_len (d + 1) hl
  have fm := wc_fmask (q := fun b => decide (wl b ≤ wl x)) (f := wlead) tl hB.lead fun i hi q => by
    by_cases z : (tops (d + 1) ps B).getD i 0 = 0
    · exact z
    · have := tops_getD hi z
      have := of_decide_eq_false q
      omega
  have fl := fmask_len (q := fun b => decide (wl b ≤ wl x)) tl
  have hF : Lens n (B.filter fun b => decide (wl b ≤ wl x)) := fun b hb => hB b (List.mem_filter.mp hb).1
  have hX : Lens n [x] := fun b hb => by rw [List.mem_singleton.mp hb]; exact hx.len hB
  have sl : (fmask (fun b => decide (wl b ≤ wl x)) (tops (d + 1) ps B) B ++ [1]).length = (B.filter fun b => decide (wl b ≤ wl x)).length + 1 := by rw [List.length_append, fl]; rfl
  have s1 : ∀ y ∈ fmask (fun b => decide (wl b ≤ wl x)) (tops (d + 1) ps B) B ++ [1], y ≤ 1 := fun y hy => by
    rcases List.mem_append.mp hy with h | h
    · exact fmask_le (tops_le _) y h
    · rw [List.mem_singleton.mp h]; exact Nat.le_refl 1
  have last : (B.filter fun b => decide (wl b ≤ wl x)).length ∈ mlot (fmask (fun b => decide (wl b ≤ wl x)) (tops (d + 1) ps B) B ++ [1]) := mlot_mem.mpr ⟨by rw [sl]; omega, by rw [← fl]; simp⟩
  refine ⟨mlot (fmask (fun b => decide (wl b ≤ wl x)) (tops (d + 1) ps B) B ++ [1]), ⟨mlot_asc, fun i hi => by rw [← sl]; exact (mlot_mem.mp hi).1, fun z => by rw [z] at last; cases last⟩, last, ?_⟩
  have hFX : Lens n ((B.filter fun b => decide (wl b ≤ wl x)) ++ [x]) := fun b hb => (List.mem_append.mp hb).elim (hF b) (hX b)
  unfold Tied
  rw [lsum_mlot hFX.lead (by rw [sl]; simp) s1, List.map_append, wc_append (by rw [fl, List.length_map]) hF.lead hX.lead, fm, ← hlead]
  show wadd (wlead x) (wadd (wtms 1 (wlead x)) (nought n)) = nought n
  have ll : (wlead x).length = n := by rw [wlead_bit, wbit_len]; exact hx.len hB
  rw [wtms_one, wadd_nought ll, wadd_self ll]
end
/-! T5: rows taken off one another: a tied lot, or free rows. -/
section
variable {n : Nat}
/-- of two lots what is in just one -/
def sd (l s : List Nat) : List Nat := (l.filter fun x => !s.contains x) ++ s.filter fun x => !l.contains x
theorem sd_mem {l s : List Nat} {x : Nat} : x ∈ sd l s ↔ (x ∈ l ∧ x ∉ s) ∨ (x ∈ s ∧ x ∉ l) := by
  unfold sd
  simp
theorem sd_nodup {l s : List Nat} (hl : l.Nodup) (hs : s.Nodup) : (sd l s).Nodup := by
  unfold sd
  refine List.nodup_append.mpr ⟨hl.filter _, hs.filter _, fun a ha b hb e => ?_⟩
  subst e
  simp at ha hb
  exact ha.2 hb.1
theorem lsum_sd {B : List (List Nat)} (hB : Lens n B) {l s : List Nat} (hl : l.Nodup) (hs : s.Nodup) (il : ∀ i ∈ l, i < B.length) (is : ∀ i ∈ s, i < B.length) :
    lsum n (fun _ => 1) B (sd l s) = wadd (lsum n (fun _ => 1) B l) (lsum n (fun _ => 1) B s) := by
  rw [← wc_csel hB (sd_nodup hl hs) fun i hi => (sd_mem.mp hi).elim (fun h => il i h.1) (fun h => is i h.1), ← wc_csel hB hl il, ← wc_csel hB hs is, ← wc_xor hB csel_len csel_len]
  congr 1
  apply List.ext_getElem
  · rw [wadd_len, csel_len, csel_len, csel_len, Nat.min_self]
  · intro j h1 h2
    rw [csel_len] at h1
    rw [wadd_get _ (by rw [csel_len]; exact h1) (by rw [csel_len]; exact h1)]
    simp only [csel, List.getElem_map, List.getElem_range, sd_mem]
    by_cases a : j ∈ l <;> by_cases b : j ∈ s <;> simp [a, b]
/-- the first 1 of a row -/
def p1 (r : List Nat) : Option Nat := r.findIdx? fun x => x == 1
theorem p1_iff {r : List Nat} {p : Nat} : p1 r = some p ↔ ∃ h : p < r.length, r[p] = 1 ∧ ∀ q (hq : q < p), r[q] ≠ 1 := by
  unfold p1
  rw [List.findIdx?_eq_some_iff_getElem]
  simp
theorem p1_none {r : List Nat} : p1 r = none ↔ ∀ x ∈ r, x ≠ 1 := by
  unfold p1
  rw [List.findIdx?_eq_none_iff]
  simp
def Bin (r : List Nat) : Prop := ∀ x ∈ r, x ≤ 1
theorem Bin.get {r : List Nat} (h : Bin r) {i : Nat} (hi : i < r.length) (h1 : r[i] ≠ 1) : r[i] = 0 := by
  have := h r[i] (List.getElem_mem hi)
  omega
theorem Bin.wadd {a b : List Nat} (ha : Bin a) (hb : Bin b) : Bin (wadd a b) := fun x hx => by
  obtain ⟨p, hp, rfl⟩ := List.mem_map.mp hx
  have h1 := ha _ (List.of_mem_zip hp).1
  have h2 := hb _ (List.of_mem_zip hp).2
  rcases Nat.le_one_iff_eq_zero_or_eq_one.mp h1 with e | e <;> rcases Nat.le_one_iff_eq_zero_or_eq_one.mp h2 with f | f <;> rw [e, f] <;> decide
theorem Bin.lead {w : List Nat} : Bin (wlead w) := fun x hx => by
  obtain ⟨p, _, rfl⟩ := List.mem_map.mp hx
  exact Nat.and_le_right
theorem bin_nought {r : List Nat} (h : Bin r) (hl : r.length = n) (e : p1 r = none) : r = nought n := by
  unfold nought
  rw [List.eq_replicate_iff]
  exact ⟨hl, fun x hx => by have := h x hx; have := p1_none.mp e x hx; omega⟩
theorem p1_wadd {r s : List Nat} {p q : Nat} (hr : Bin r) (hs : Bin s) (hl : r.length = s.length) (er : p1 r = some p) (es : p1 s = some p) (e : p1 (W.wadd r s) = some q) : p < q := by
  obtain ⟨a1, a2, a3⟩ := p1_iff.mp er
  obtain ⟨b1, b2, b3⟩ := p1_iff.mp es
  obtain ⟨c1, c2, c3⟩ := p1_iff.mp e
  rw [wadd_len] at c1
  rw [wadd_get (by rw [wadd_len]; exact c1) (by omega) (by omega)] at c2
  rcases Nat.lt_or_ge p q with g | g
  · exact g
  · exfalso
    rcases Nat.lt_or_ge q p with g2 | g2
    · rw [hr.get (by omega) (a3 q g2), hs.get (by omega) (b3 q g2)] at c2
      cases c2
    · have : q = p := by omega
      subst this
      rw [a2, b2] at c2
      cases c2
/-- a row as a sum of leading rows, the last one the k-th -/
structure Row (n : Nat) (B : List (List Nat)) (k : Nat) (r l : List Nat) : Prop where
  len : r.length = n
  bin : Bin r
  sum : r = lsum n (fun _ => 1) (B.map wlead) l
  nd : l.Nodup
  lt : ∀ x ∈ l, x ≤ k
  mem : k ∈ l
theorem Row.start {B : List (List Nat)} (hB : Lens n B) {k : Nat} (hk : k < B.length) : Row n B k (wlead B[k]) [k] := by
  have ll : (wlead B[k]).length = n := by rw [wlead_bit, wbit_len]; exact hB _ (List.getElem_mem hk)
  refine ⟨ll, .lead, ?_, by simp, fun x hx => by rw [List.mem_singleton.mp hx]; exact Nat.le_refl _, List.mem_cons_self ..⟩
  show _ = W.wadd (wtms 1 ((B.map wlead).getD k [])) (nought n)
  rw [wtms_one, List.getD_eq_getElem?_getD, List.getElem?_map, List.getElem?_eq_getElem hk]
  show _ = W.wadd (wlead B[k]) (nought n)
  rw [wadd_nought ll]
theorem Row.step {B : List (List Nat)} (hB : Lens n B) {k j : Nat} {r l s m : List Nat} (hk : k < B.length) (hj : j < k) (a : Row n B k r l) (b : Row n B j s m) : Row n B k (W.wadd r s) (sd l m) := by
  refine ⟨by rw [wadd_len, a.len, b.len, Nat.min_self], a.bin.wadd b.bin, ?_, sd_nodup a.nd b.nd, fun x hx => ?_, sd_mem.mpr (.inl ⟨a.mem, fun h => by have := b.lt k h; omega⟩)⟩
  · rw [lsum_sd hB.lead a.nd b.nd (fun i hi => by rw [List.length_map]; have := a.lt i hi; omega) (fun i hi => by rw [List.length_map]; have := b.lt i hi; omega), ← a.sum, ← b.sum]
  · rcases sd_mem.mp hx with h | h
    · exact a.lt x h.1
    · have := b.lt x h.1; omega
/-- what is known: a row for each word, with unlike first ones -/
structure Known (n : Nat) (B : List (List Nat)) (K : List (Nat × List Nat × List Nat)) : Prop where
  row : ∀ j (h : j < K.length), Row n B j K[j].2.1 K[j].2.2
  piv : ∀ j (h : j < K.length), p1 K[j].2.1 = some K[j].1
  key : (K.map (·.1)).Nodup
theorem wadd_getD {a b : List Nat} {i : Nat} (ha : i < a.length) (hb : i < b.length) : (W.wadd a b).getD i 0 = a.getD i 0 ^^^ b.getD i 0 := by
  have h : i < (W.wadd a b).length := by rw [wadd_len]; omega
  simp only [List.getD_eq_getElem?_getD, List.getElem?_eq_getElem ha, List.getElem?_eq_getElem hb, List.getElem?_eq_getElem h, Option.getD_some]
  exact wadd_get h ha hb
theorem get_lsum {R : List (List Nat)} (hR : Lens n R) {p : Nat} (hp : p < n) : ∀ {J : List Nat} (hJ : ∀ i ∈ J, i < R.length), (∀ i ∈ J, (R.getD i []).getD p 0 = 0) → (lsum n (fun _ => 1) R J).getD p 0 = 0
  | [], _, _ => by simp [lsum, nought, List.getD_eq_getElem?_getD, List.getElem?_replicate, hp]
  | i :: J, hJ, hz => by
    have hi := hJ i (List.mem_cons_self ..)
    have li : (R.getD i []).length = n := hR _ (getD_mem hi)
    have lJ := lsum_len (c := fun _ => 1) hR fun k hk => hJ k (List.mem_cons_of_mem _ hk)
    show (W.wadd (wtms 1 (R.getD i [])) (lsum n (fun _ => 1) R J)).getD p 0 = 0
    rw [wtms_one, wadd_getD (by omega) (by omega), get_lsum hR hp (fun k hk => hJ k (List.mem_cons_of_mem _ hk)) fun k hk => hz k (List.mem_cons_of_mem _ hk), Nat.xor_zero]
    exact hz i (List.mem_cons_self ..)
/-- of a list that is not empty one with the least worth -/
theorem least_of (f : Nat → Nat) : ∀ {J : List Nat}, J ≠ [] → ∃ j ∈ J, ∀ i ∈ J, f j ≤ f i
  | [], h => absurd rfl h
  | [j], _ => ⟨j, List.mem_cons_self .., fun i hi => by rw [List.mem_singleton.mp hi]; exact Nat.le_refl _⟩
  | j :: k :: J, _ => by
    obtain ⟨m, hm, h⟩ := least_of f (J := k :: J) (by simp)
    by_cases g : f j ≤ f m
    · exact ⟨j, List.mem_cons_self .., fun i hi => by
        rcases List.mem_cons.mp hi with rfl | hi
        · exact Nat.le_refl _
        · exact Nat.le_trans g (h i hi)⟩
    · exact ⟨m, List.mem_cons_of_mem _ hm, fun i hi => by
        rcases List.mem_cons.mp hi with rfl | hi
        · omega
        · exact h i hi⟩
theorem known_free {B : List (List Nat)} {K : List (Nat × List Nat × List Nat)} (kn : Known n B K) {J : List Nat} (nd : J.Nodup) (lt : ∀ i ∈ J, i < K.length) (ne : J ≠ []) : lsum n (fun _ => 1) (K.map (·.2.1)) J ≠ nought n := by
  intro e
  obtain ⟨j, hj, hm⟩ := least_of (fun i => (K.getD i (0, [], [])).1) ne
  have hjl := lt j hj
  have gk : ∀ i (h : i < K.length), K.getD i (0, [], []) = K[i] := fun i h => by rw [List.getD_eq_getElem?_getD, List.getElem?_eq_getElem h]; rfl
  have gr : ∀ i (h : i < K.length), (K.map (·.2.1)).getD i [] = K[i].2.1 := fun i h => by rw [List.getD_eq_getElem?_getD, List.getElem?_map, List.getElem?_eq_getElem h]; rfl
  have hR : Lens n (K.map (·.2.1)) := fun r hr => by
    obtain ⟨x, hx, rfl⟩ := List.mem_map.mp hr
    obtain ⟨i, hi, rfl⟩ := List.mem_iff_getElem.mp hx
    exact (kn.row i hi).len
  obtain ⟨q1, q2, q3⟩ := p1_iff.mp (kn.piv j hjl)
  have q4 : K[j].1 < n := by rw [← (kn.row j hjl).len]; exact q1
  -- the others have 0 there
  have oth : ∀ i ∈ J, i ≠ j → ((K.map (·.2.1)).getD i []).getD K[j].1 0 = 0 := fun i hi ne => by
    have hil := lt i hi
    rw [gr i hil]
    obtain ⟨u1, u2, u3⟩ := p1_iff.mp (kn.piv i hil)
    have h1 := hm i hi
    rw [gk i hil, gk j hjl] at h1
    have h2 : K[j].1 ≠ K[i].1 := fun z => by
      have kk := List.pairwise_iff_getElem.mp kn.key
      rcases Nat.lt_or_ge i j with g | g
      · exact kk i j (by rw [List.length_map]; exact hil) (by rw [List.length_map]; exact hjl) g (by simp [z])
      · exact kk j i (by rw [List.length_map]; exact hjl) (by rw [List.length_map]; exact hil) (by omega) (by simp [z])
    have h3 : K[j].1 < K[i].2.1.length := by rw [(kn.row i hil).len]; exact q4
    rw [List.getD_eq_getElem?_getD, List.getElem?_eq_getElem h3]
    exact (kn.row i hil).bin.get h3 (u3 _ (by omega))
  -- taken apart
  have part : ∀ {J : List Nat}, J.Nodup → (∀ i ∈ J, i < K.length) → j ∈ J → (∀ i ∈ J, i ≠ j → ((K.map (·.2.1)).getD i []).getD K[j].1 0 = 0) → (lsum n (fun _ => 1) (K.map (·.2.1)) J).getD K[j].1 0 = 1 := by
    intro J
    induction J with
    | nil => intro _ _ h; cases h
    | cons i J ih =>
      intro nd lt hj oth
      have nd' := List.nodup_cons.mp nd
      have ltm : ∀ k ∈ J, k < (K.map (·.2.1)).length := fun k hk => by rw [List.length_map]; exact lt k (List.mem_cons_of_mem _ hk)
      have hi := lt i (List.mem_cons_self ..)
      have li : ((K.map (·.2.1)).getD i []).length = n := hR _ (getD_mem (by rw [List.length_map]; exact hi))
      have lJ := lsum_len (c := fun _ => 1) hR ltm
      show (W.wadd (wtms 1 ((K.map (·.2.1)).getD i [])) (lsum n (fun _ => 1) (K.map (·.2.1)) J)).getD K[j].1 0 = 1
      rw [wtms_one, wadd_getD (by omega) (by omega)]
      by_cases z : i = j
      · subst z
        rw [get_lsum hR q4 ltm fun k hk => oth k (List.mem_cons_of_mem _ hk) fun z => nd'.1 (by rw [← z]; exact hk), Nat.xor_zero, gr i hi, List.getD_eq_getElem?_getD, List.getElem?_eq_getElem q1]
        exact q2
      · rw [oth i (List.mem_cons_self ..) z, Nat.zero_xor]
        exact ih nd'.2 (fun k hk => lt k (List.mem_cons_of_mem _ hk)) (by
          rcases List.mem_cons.mp hj with q | q
          · exact absurd q.symm z
          · exact q) (fun k hk => oth k (List.mem_cons_of_mem _ hk))
  have f := part nd lt hj oth
  rw [e] at f
  simp [nought, List.getD_eq_getElem?_getD, List.getElem?_replicate, q4] at f
/-- sums of leading rows by the rows known -/
theorem known_sum {B : List (List Nat)} (hB : Lens n B) {K : List (Nat × List Nat × List Nat)} (kn : Known n B K) (kl : K.length ≤ B.length) : ∀ m, m ≤ K.length → ∀ L : List Nat, L.Nodup → (∀ x ∈ L, x < m) → ∃ J : List Nat, J.Nodup ∧ (∀ x ∈ J, x < m) ∧ (L ≠ [] → J ≠ []) ∧ lsum n (fun _ => 1) (B.map wlead) L = lsum n (fun _ => 1) (K.map (·.2.1)) J
  | 0, _, L, _, h => by
    cases L with
    | nil => exact ⟨[], by simp, fun _ z => (by cases z), fun z => absurd rfl z, rfl⟩
    | cons x L => exact absurd (h x (List.mem_cons_self ..)) (by omega)
  | m + 1, hm, L, nd, h => by
    by_cases z : m ∈ L
    · have rw' := kn.row m (by omega)
      have sdl : ∀ x ∈ sd L K[m].2.2, x < m := fun x hx => by
        rcases sd_mem.mp hx with ⟨a, b⟩ | ⟨a, b⟩
        · have := h x a
          have : x ≠ m := fun q => b (by rw [q]; exact rw'.mem)
          omega
        · have := rw'.lt x a
          have : x ≠ m := fun q => b (by rw [q]; exact z)
          omega
      obtain ⟨J, j1, j2, j3, j4⟩ := known_sum hB kn kl m (by omega) (sd L K[m].2.2) (sd_nodup nd rw'.nd) sdl
      refine ⟨m :: J, List.nodup_cons.mpr ⟨fun q => by have := j2 m q; omega, j1⟩, fun x hx => by
        rcases List.mem_cons.mp hx with rfl | hx
        · omega
        · have := j2 x hx; omega, fun _ => by simp, ?_⟩
      rw [lsum_sd hB.lead nd rw'.nd (fun i hi => by rw [List.length_map]; have := h i hi; omega) (fun i hi => by rw [List.length_map]; have := rw'.lt i hi; omega), ← rw'.sum] at j4
      show _ = W.wadd (wtms 1 ((K.map (·.2.1)).getD m [])) (lsum n (fun _ => 1) (K.map (·.2.1)) J)
      rw [← j4, wtms_one, List.getD_eq_getElem?_getD, List.getElem?_map, List.getElem?_eq_getElem (show m < K.length by omega)]
      show _ = W.wadd K[m].2.1 (W.wadd (lsum n (fun _ => 1) (B.map wlead) L) K[m].2.1)
      rw [wadd_comm (a := K[m].2.1), wadd_cancel (lsum_len hB.lead fun i hi => by rw [List.length_map]; have := h i hi; omega) rw'.len]
    · obtain ⟨J, j1, j2, j3, j4⟩ := known_sum hB kn kl m (by omega) L nd fun x hx => by
        have := h x hx
        have : x ≠ m := fun q => z (by rw [← q]; exact hx)
        omega
      exact ⟨J, j1, fun x hx => by have := j2 x hx; omega, j3, j4⟩
/-- a row for each word: the leading rows are free -/
theorem known_indep {B : List (List Nat)} (hB : Lens n B) {K : List (Nat × List Nat × List Nat)} (kn : Known n B K) (kl : K.length = B.length) : Indep n (B.map wlead) := by
  rw [indep_iff hB]
  intro lot lo t
  obtain ⟨J, j1, j2, j3, j4⟩ := known_sum hB kn (by omega) K.length (Nat.le_refl _) lot lo.nd fun x hx => by rw [kl]; exact lo.lt x hx
  exact known_free kn j1 j2 (j3 lo.ne) (by rw [← j4]; exact t)
end
/-! T6: a word of a tied lot gives way to the lot's sum. -/
/-- what is asked of words -/
structure Wds (n M : Nat) (ws : List (List Nat)) : Prop where
  n1 : 1 ≤ n
  n8 : n ≤ 8
  M1 : M ≤ 1000
  len : Lens n ws
  pos : ∀ w ∈ ws, 1 ≤ wl w
  le : ∀ w ∈ ws, wl w ≤ M
  few : ws.length ≤ 8
section
variable {n M : Nat} {ws : List (List Nat)}
theorem getD_get {B : List (List Nat)} {i : Nat} (h : i < B.length) : B[i] = B.getD i [] := by
  rw [List.getD_eq_getElem?_getD, List.getElem?_eq_getElem h]; rfl
theorem Wds.at (h : Wds n M ws) {i : Nat} (hi : i < ws.length) : (ws.getD i []).length = n ∧ 1 ≤ wl (ws.getD i []) ∧ wl (ws.getD i []) ≤ M :=
  ⟨h.len _ (getD_mem hi), h.pos _ (getD_mem hi), h.le _ (getD_mem hi)⟩
/-- the greatest degree, more 1, of a lot -/
def lmax (ws : List (List Nat)) : List Nat → Nat
  | [] => 0
  | i :: r => max (wl (ws.getD i [])) (lmax ws r)
theorem lmax_ge : ∀ {lot : List Nat} {i : Nat}, i ∈ lot → wl (ws.getD i []) ≤ lmax ws lot
  | j :: r, i, h => by
    have e : lmax ws (j :: r) = max (wl (ws.getD j [])) (lmax ws r) := rfl
    rcases List.mem_cons.mp h with rfl | h
    · omega
    · have := lmax_ge (lot := r) h; omega
theorem lmax_in : ∀ {lot : List Nat}, lot ≠ [] → ∃ i ∈ lot, wl (ws.getD i []) = lmax ws lot
  | [], h => absurd rfl h
  | j :: r, _ => by
    have e : lmax ws (j :: r) = max (wl (ws.getD j [])) (lmax ws r) := rfl
    by_cases z : r = []
    · subst z
      exact ⟨j, List.mem_cons_self .., by rw [e]; show _ = max _ 0; omega⟩
    · obtain ⟨i, hi, q⟩ := lmax_in z
      rcases Nat.lt_or_ge (wl (ws.getD j [])) (lmax ws r) with g | g
      · exact ⟨i, List.mem_cons_of_mem _ hi, by omega⟩
      · exact ⟨j, List.mem_cons_self .., by omega⟩
/-- all degrees, each 1 more, added -/
def wsum (B : List (List Nat)) : Nat := (B.map wl).sum
theorem wsum_perm {B C : List (List Nat)} (h : B.Perm C) : wsum B = wsum C := by
  unfold wsum
  induction h with
  | nil => rfl
  | cons x _ ih => simp only [List.map_cons, List.sum_cons, ih]
  | swap x y l => simp only [List.map_cons, List.sum_cons]; omega
  | trans _ _ a b => exact a.trans b
theorem wsum_erase : ∀ {B : List (List Nat)} {p : Nat}, p < B.length → wsum B = wl (B.getD p []) + wsum (B.eraseIdx p)
  | b :: B, 0, _ => rfl
  | b :: B, p + 1, h => by
    have := wsum_erase (B := B) (p := p) (by simpa using h)
    unfold wsum at *
    simp only [List.eraseIdx_cons_succ, List.map_cons, List.sum_cons, List.getD_cons_succ]
    omega
/-- words with the same sums -/
def SameSp (n : Nat) (B C : List (List Nat)) : Prop := (∀ b ∈ B, InSp n C b) ∧ ∀ c ∈ C, InSp n B c
theorem SameSp.trans {A B C : List (List Nat)} (hA : Lens n A) (hC : Lens n C) (h : SameSp n A B) (k : SameSp n B C) : SameSp n A C :=
  ⟨fun a ha => (h.1 a ha).trans hC k.1, fun c hc => (k.2 c hc).trans hA h.2⟩
def late (n : Nat) (B : List (List Nat)) (lot : List Nat) : List Nat := lsum n (mv B (lmax B lot)) B lot
theorem way (h : Wds n M ws) {lot : List Nat} (lo : LotAsc ws.length lot) (t : Tied n ws lot) {p : Nat} (hp : p ∈ lot) (pm : wl (ws.getD p []) = lmax ws lot) {C : List (List Nat)}
    (hC : C.Perm (ws.eraseIdx p ++ if 1 ≤ wl (late n ws lot) then [late n ws lot] else [])) : Wds n M C ∧ SameSp n C ws ∧ wsum C < wsum ws ∧ C.length ≤ ws.length := by
  have hpl := lo.lt p hp
  have ll : (late n ws lot).length = n := lsum_len h.len lo.lt
  have lm : wl (late n ws lot) < lmax ws lot := late_lt h.len h.pos lo.lt (fun i hi => lmax_ge hi) (by have := (h.at hpl).2.1; omega) t
  have pM := (h.at hpl).2.2
  have mem : ∀ c ∈ C, (∃ i, i < ws.length ∧ i ≠ p ∧ c = ws.getD i []) ∨ (c = late n ws lot ∧ 1 ≤ wl (late n ws lot)) := fun c hc => by
    rcases List.mem_append.mp (hC.mem_iff.mp hc) with q | q
    · obtain ⟨i, h1, h2, rfl⟩ := List.mem_eraseIdx_iff_getElem.mp q
      exact .inl ⟨i, h1, h2, getD_get h1⟩
    · split at q
      · rename_i z; exact .inr ⟨List.mem_singleton.mp q, z⟩
      · cases q
  have oth : ∀ i < ws.length, i ≠ p → ws.getD i [] ∈ C := fun i hi ne => hC.mem_iff.mpr (List.mem_append_left _ (List.mem_eraseIdx_iff_getElem.mpr ⟨i, hi, ne, getD_get hi⟩))
  have lC : Lens n C := fun c hc => by
    rcases mem c hc with ⟨i, hi, _, rfl⟩ | ⟨rfl, _⟩
    · exact (h.at hi).1
    · exact ll
  have len : C.length ≤ ws.length := by
    rw [hC.length_eq, List.length_append, List.length_eraseIdx_of_lt hpl]
    split <;> simp <;> omega
  have lin : InSp n ws (late n ws lot) := lsum_in h.len fun i hi => .base h.len (getD_mem (lo.lt i hi))
  have linC : InSp n C (late n ws lot) := by
    by_cases z : 1 ≤ wl (late n ws lot)
    · exact .base lC (hC.mem_iff.mpr (List.mem_append_right _ (by rw [if_pos z]; exact List.mem_singleton_self _)))
    · rw [wl_zero ll (by omega)]; exact .zero
  refine ⟨⟨h.n1, h.n8, h.M1, lC, fun c hc => ?_, fun c hc => ?_, Nat.le_trans len h.few⟩, ⟨fun c hc => ?_, ?_⟩, ?_, len⟩
  · rcases mem c hc with ⟨i, hi, _, rfl⟩ | ⟨rfl, z⟩
    · exact (h.at hi).2.1
    · exact z
  · rcases mem c hc with ⟨i, hi, _, rfl⟩ | ⟨rfl, z⟩
    · exact (h.at hi).2.2
    · omega
  · rcases mem c hc with ⟨i, hi, _, rfl⟩ | ⟨rfl, z⟩
    · exact .base h.len (getD_mem hi)
    · exact lin
  · refine back_in (c := mv ws (lmax ws lot)) (j := p) h.len lC (lo.asc.imp fun {a b} z => Nat.ne_of_lt z) lo.lt hp ?_ (fun i hi ne => .base lC (oth i hi ne)) linC
    unfold mv
    rw [pm, Nat.sub_self]
  · rw [wsum_perm hC, wsum_erase hpl]
    have : wsum (ws.eraseIdx p ++ if 1 ≤ wl (late n ws lot) then [late n ws lot] else []) ≤ wsum (ws.eraseIdx p) + wl (late n ws lot) := by
      unfold wsum
      rw [List.map_append, List.sum_append]
      split <;> simp
    omega
end
/-! W7: tied lots, lots, words gone down. -/
def N_tied_lot : List Str := ["words", "known", "k", "word", "row", "lot", "late", "some", ".0", "one"]
def b_tied_lot_1_1b : Sms := (.cons (.asx (.tp (.cons (.nm 6) (.cons (.nm 7) .nil))) 1 (.mth .index (.var 4) (.cons (.lit (.int 1)) .nil))) (.cons (.asg (.nm 4) (.call 10 (.cons (.var 4) (.cons (.var 6) .nil)))) (.cons (.asg (.nm 5) (.bin .add (.comp (.var 9) (.nm 9) (.seq (.var 5)) (.cons (.cmp (.in_ false) (.var 9) (.var 7)) .nil) [8, 9]) (.comp (.var 9) (.nm 9) (.seq (.var 7)) (.cons (.cmp (.in_ false) (.var 9) (.var 5)) .nil) [8, 9]))) .nil)))
def b_tied_lot_1_t2 : Sms := (.cons (.ite (.cmp (.in_ false) (.lit (.int 1)) (.var 4)) (.cons (.ret (.bi .tuple (.cons (.bi .sorted (.cons (.var 5) .nil)) .nil))) .nil) .nil) (.cons (.setx 1 (.mth .index (.var 4) (.cons (.lit (.int 1)) .nil)) (.tup (.cons (.var 4) (.cons (.var 5) .nil)))) .nil))
def b_tied_lot_1_t1 : Sms := (.cons (.whl (.and_ (.cmp (.in_ true) (.lit (.int 1)) (.var 4)) (.cmp (.in_ true) (.mth .index (.var 4) (.cons (.lit (.int 1)) .nil)) (.var 1))) b_tied_lot_1_1b) b_tied_lot_1_t2)
def b_tied_lot_1b : Sms := (.cons (.par [4, 5] (.cons (.call 12 (.cons (.var 3) .nil)) (.cons (.lst (.cons (.var 2) .nil)) .nil))) b_tied_lot_1_t1)
def b_tied_lot_t2 : Sms := (.cons (.ret (.lit .none)) .nil)
def b_tied_lot_t1 : Sms := (.cons (.for_ (.tp (.cons (.nm 2) (.cons (.nm 3) .nil))) (.enum (.var 0)) b_tied_lot_1b) b_tied_lot_t2)
def b_tied_lot : Sms := (.cons (.asg (.nm 1) .dic0) b_tied_lot_t1)
def F_tied_lot : FV := evDef (tab [(12, F_leading_row), (10, F_words_added)]) 10 1 b_tied_lot
def N_lot_sum : List Str := ["words", "lot", "k", "most", "found", ".0"]
def b_lot_sum_2b : Sms := (.cons (.asg (.nm 4) (.call 10 (.cons (.var 4) (.cons (.call 11 (.cons (.bin .shl (.lit (.int 1)) (.bin .sub (.var 3) (.call 9 (.cons (.ix (.var 0) (.var 2)) .nil)))) (.cons (.ix (.var 0) (.var 2)) .nil))) .nil)))) .nil)
def b_lot_sum_t3 : Sms := (.cons (.ret (.var 4)) .nil)
def b_lot_sum_t2 : Sms := (.cons (.for_ (.nm 2) (.seq (.var 1)) b_lot_sum_2b) b_lot_sum_t3)
def b_lot_sum : Sms := (.cons (.asg (.nm 3) (.bi .max (.cons (.comp (.call 9 (.cons (.ix (.var 0) (.var 2)) .nil)) (.nm 2) (.seq (.var 1)) .nil [5, 2]) .nil))) (.cons (.asg (.nm 4) (.bin .mul (.tup (.cons (.lit (.int 0)) .nil)) (.bi .len (.cons (.ix (.var 0) (.ix (.var 1) (.lit (.int 0)))) .nil)))) b_lot_sum_t2))
def F_lot_sum : FV := evDef (tab [(9, F_word_degree), (10, F_words_added), (11, F_word_times)]) 6 2 b_lot_sum
def N_gone_down : List Str := ["n", "words", "lot", "most", "place", "late", ".0", "word", "k"]
def b_gone_down_2b : Sms := (.cons (.asg (.nm 3) (.bi .max (.cons (.comp (.call 9 (.cons (.ix (.var 1) (.var 8)) .nil)) (.nm 8) (.seq (.var 2)) .nil [6, 8]) .nil))) (.cons (.asg (.nm 4) (.ix (.comp (.var 8) (.nm 8) (.seq (.var 2)) (.cons (.cmp .eq (.call 9 (.cons (.ix (.var 1) (.var 8)) .nil)) (.var 3)) .nil) [6, 8]) (.lit (.int 0)))) (.cons (.asg (.nm 5) (.call 14 (.cons (.var 1) (.cons (.var 2) .nil)))) (.cons (.asg (.nm 1) (.bin .add (.bin .add (.slc (.var 1) .no (.so (.var 4))) (.ite (.cmp .ge (.call 9 (.cons (.var 5) .nil)) (.lit (.int 0))) (.lst (.cons (.var 5) .nil)) (.lst .nil))) (.slc (.var 1) (.so (.bin .add (.var 4) (.lit (.int 1)))) .no))) (.cons (.asg (.nm 2) (.call 13 (.cons (.var 1) .nil))) .nil)))))
def b_gone_down_t3 : Sms := (.cons (.ret (.bi .tuple (.cons (.var 1) .nil))) .nil)
def b_gone_down_t2 : Sms := (.cons (.whl (.cmp (.isnt false) (.var 2) (.lit .none)) b_gone_down_2b) b_gone_down_t3)
def b_gone_down : Sms := (.cons (.asg (.nm 1) (.comp (.var 7) (.nm 7) (.seq (.var 1)) (.cons (.cmp .ge (.call 9 (.cons (.var 7) .nil)) (.lit (.int 0))) .nil) [6, 7])) (.cons (.asg (.nm 2) (.call 13 (.cons (.var 1) .nil))) b_gone_down_t2))
def F_gone_down : FV := evDef (tab [(9, F_word_degree), (13, F_tied_lot), (14, F_lot_sum)]) 9 2 b_gone_down
def N__law_lots : List Str := ["words", "found", "k", ".0", "lot"]
def b__law_lots_1b : Sms := (.cons (.asg (.nm 1) (.bin .add (.var 1) (.comp (.bin .add (.var 4) (.tup (.cons (.var 2) .nil))) (.nm 4) (.seq (.var 1)) .nil [3, 4]))) .nil)
def b__law_lots_t2 : Sms := (.cons (.ret (.bi .sorted (.cons (.slc (.var 1) (.so (.lit (.int 1))) .no) .nil))) .nil)
def b__law_lots_t1 : Sms := (.cons (.for_ (.nm 2) (.range1 (.bi .len (.cons (.var 0) .nil))) b__law_lots_1b) b__law_lots_t2)
def b__law_lots : Sms := (.cons (.asg (.nm 1) (.lst (.cons (.tup .nil) .nil))) b__law_lots_t1)
def F__law_lots : FV := evDef (tab []) 5 1 b__law_lots
def N__law_is_tied : List Str := ["words", "lot", "row", "k"]
def b__law_is_tied_1b : Sms := (.cons (.asg (.nm 2) (.call 44 (.cons (.var 2) (.cons (.call 47 (.cons (.ix (.var 0) (.var 3)) .nil)) .nil)))) .nil)
def b__law_is_tied_t2 : Sms := (.cons (.ret (.cmp .eq (.bi .max (.cons (.var 2) .nil)) (.lit (.int 0)))) .nil)
def b__law_is_tied_t1 : Sms := (.cons (.for_ (.nm 3) (.seq (.var 1)) b__law_is_tied_1b) b__law_is_tied_t2)
def b__law_is_tied : Sms := (.cons (.asg (.nm 2) (.bin .mul (.tup (.cons (.lit (.int 0)) .nil)) (.bi .len (.cons (.ix (.var 0) (.ix (.var 1) (.lit (.int 0)))) .nil)))) b__law_is_tied_t1)
def F__law_is_tied : FV := evDef (tab [(44, F__law_added), (47, F__law_leading)]) 4 2 b__law_is_tied
def N__law_gone_down : List Str := ["n", "words", "lot", "some", "k", "most", "late", "gone", ".0", "word"]
def b__law_gone_down_2_3b : Sms := (.cons (.asg (.nm 6) (.call 44 (.cons (.var 6) (.cons (.call 45 (.cons (.bin .shl (.lit (.int 1)) (.bin .sub (.var 5) (.call 43 (.cons (.ix (.var 1) (.var 4)) .nil)))) (.cons (.ix (.var 1) (.var 4)) .nil))) .nil)))) .nil)
def b__law_gone_down_2_t4 : Sms := (.cons (.asg (.nm 7) (.ix (.comp (.var 4) (.nm 4) (.seq (.var 2)) (.cons (.cmp .eq (.call 43 (.cons (.ix (.var 1) (.var 4)) .nil)) (.var 5)) .nil) [8, 4]) (.lit (.int 0)))) (.cons (.asg (.nm 1) (.bin .add (.comp (.var 9) (.tp (.cons (.nm 4) (.cons (.nm 9) .nil))) (.enum (.var 1)) (.cons (.cmp .ne (.var 4) (.var 7)) .nil) [8, 4, 9]) (.bin .mul (.lst (.cons (.var 6) .nil)) (.bi .int (.cons (.cmp .ge (.call 43 (.cons (.var 6) .nil)) (.lit (.int 0))) .nil))))) (.cons (.asg (.nm 3) (.comp (.var 2) (.nm 2) (.seq (.call 72 (.cons (.var 1) .nil))) (.cons (.call 73 (.cons (.var 1) (.cons (.var 2) .nil))) .nil) [8, 2])) .nil)))
def b__law_gone_down_2_t3 : Sms := (.cons (.for_ (.nm 4) (.seq (.var 2)) b__law_gone_down_2_3b) b__law_gone_down_2_t4)
def b__law_gone_down_2b : Sms := (.cons (.asx (.nm 2) 3 (.lit (.int 0))) (.cons (.asg (.nm 5) (.bi .max (.cons (.comp (.call 43 (.cons (.ix (.var 1) (.var 4)) .nil)) (.nm 4) (.seq (.var 2)) .nil [8, 4]) .nil))) (.cons (.asg (.nm 6) (.bin .mul (.tup (.cons (.lit (.int 0)) .nil)) (.var 0))) b__law_gone_down_2_t3)))
def b__law_gone_down_t3 : Sms := (.cons (.ret (.var 1)) .nil)
def b__law_gone_down_t2 : Sms := (.cons (.whl (.cmp .ne (.var 3) (.lst .nil)) b__law_gone_down_2b) b__law_gone_down_t3)
def b__law_gone_down : Sms := (.cons (.asg (.nm 1) (.comp (.var 9) (.nm 9) (.seq (.var 1)) (.cons (.cmp .ge (.call 43 (.cons (.var 9) .nil)) (.lit (.int 0))) .nil) [8, 9])) (.cons (.asg (.nm 3) (.comp (.var 2) (.nm 2) (.seq (.call 72 (.cons (.var 1) .nil))) (.cons (.call 73 (.cons (.var 1) (.cons (.var 2) .nil))) .nil) [8, 2])) b__law_gone_down_t2))
def F__law_gone_down : FV := evDef (tab [(43, F__law_degree), (72, F__law_lots), (73, F__law_is_tied), (44, F__law_added), (45, F__law_word_times)]) 10 2 b__law_gone_down
def N__law_is_of : List Str := ["base", "word", "some", "lots", "most", "k", ".0", "one", "lot"]
def b__law_is_of_0_4b : Sms := (.cons (.asg (.nm 1) (.call 44 (.cons (.var 1) (.cons (.call 45 (.cons (.bin .shl (.lit (.int 1)) (.bin .sub (.var 4) (.call 43 (.cons (.ix (.var 2) (.var 5)) .nil)))) (.cons (.ix (.var 2) (.var 5)) .nil))) .nil)))) .nil)
def b__law_is_of_0_t4 : Sms := (.cons (.for_ (.nm 5) (.seq (.slc (.ix (.var 3) (.lit (.int 0))) .no (.so (.neg (.lit (.int 1)))))) b__law_is_of_0_4b) .nil)
def b__law_is_of_0b : Sms := (.cons (.asg (.nm 2) (.comp (.var 7) (.nm 7) (.seq (.var 0)) (.cons (.cmp .le (.call 43 (.cons (.var 7) .nil)) (.call 43 (.cons (.var 1) .nil))) .nil) [6, 7])) (.cons (.asg (.nm 3) (.comp (.var 8) (.nm 8) (.seq (.call 72 (.cons (.bin .add (.var 2) (.lst (.cons (.var 1) .nil))) .nil))) (.cons (.and_ (.cmp (.in_ true) (.bi .len (.cons (.var 2) .nil)) (.var 8)) (.call 73 (.cons (.bin .add (.var 2) (.lst (.cons (.var 1) .nil))) (.cons (.var 8) .nil)))) .nil) [6, 8])) (.cons (.ite (.cmp .eq (.var 3) (.lst .nil)) (.cons (.ret (.lit (.bool false))) .nil) .nil) (.cons (.asg (.nm 4) (.call 43 (.cons (.var 1) .nil))) b__law_is_of_0_t4))))
def b__law_is_of_t1 : Sms := (.cons (.ret (.lit (.bool true))) .nil)
def b__law_is_of : Sms := (.cons (.whl (.cmp .ge (.call 43 (.cons (.var 1) .nil)) (.lit (.int 0))) b__law_is_of_0b) b__law_is_of_t1)
def F__law_is_of : FV := evDef (tab [(43, F__law_degree), (72, F__law_lots), (73, F__law_is_tied), (44, F__law_added), (45, F__law_word_times)]) 9 2 b__law_is_of
def N__law_lot_right : List Str := ["source", "n", "words", "told", "lots", "turn", "some", "far", "most", ".0", "lot", "word", "p", "k"]
def b__law_lot_right_1x_1b : Sms := (.cons (.asg (.nm 6) (.comp (.call 1 (.cons (.var 0) (.cons (.bin .shl (.lit (.int 1)) (.bin .add (.lit (.int 1)) (.call 1 (.cons (.var 0) (.cons (.lit (.int 9)) .nil))))) .nil))) (.nm 11) (.seq (.var 2)) .nil [9, 11])) (.cons (.asg (.nm 7) (.comp (.bin .add (.bin .sub (.call 41 (.cons (.var 12) .nil)) (.lit (.int 1))) (.call 43 (.cons (.var 11) .nil))) (.tp (.cons (.nm 12) (.cons (.nm 11) .nil))) (.zip (.var 6) (.var 2)) (.cons (.cmp .gt (.var 12) (.lit (.int 0))) .nil) [9, 12, 11])) (.cons (.ite (.and_ (.cmp .ne (.var 7) (.lst .nil)) (.cmp .ne (.call 43 (.cons (.call 46 (.cons (.var 1) (.cons (.var 6) (.cons (.var 2) .nil)))) .nil)) (.bi .max (.cons (.var 7) .nil)))) (.cons (.ret (.lit (.bool false))) .nil) .nil) .nil)))
def b__law_lot_right_1x_t2 : Sms := (.cons (.ret (.lit (.bool true))) .nil)
def b__law_lot_right_1x_t1 : Sms := (.cons (.for_ (.nm 5) (.range1 (.lit (.int 4))) b__law_lot_right_1x_1b) b__law_lot_right_1x_t2)
def b__law_lot_right_t2 : Sms := (.cons (.ite (.cmp (.in_ false) (.var 3) (.var 4)) (.cons (.ret (.lit (.bool false))) .nil) .nil) (.cons (.asg (.nm 8) (.bi .max (.cons (.comp (.call 43 (.cons (.ix (.var 2) (.var 13)) .nil)) (.nm 13) (.seq (.var 3)) .nil [9, 13]) .nil))) (.cons (.asg (.nm 6) (.comp (.ite (.cmp (.in_ true) (.var 13) (.var 3)) (.bin .shl (.lit (.int 1)) (.bin .sub (.var 8) (.call 43 (.cons (.var 11) .nil)))) (.lit (.int 0))) (.tp (.cons (.nm 13) (.cons (.nm 11) .nil))) (.enum (.var 2)) .nil [9, 13, 11])) (.cons (.ret (.cmp .lt (.call 43 (.cons (.call 46 (.cons (.var 1) (.cons (.var 6) (.cons (.var 2) .nil)))) .nil)) (.var 8))) .nil))))
def b__law_lot_right_t1 : Sms := (.cons (.ite (.cmp (.isnt true) (.var 3) (.lit .none)) (.cons (.ite (.cmp .ne (.var 4) (.lst .nil)) (.cons (.ret (.lit (.bool false))) .nil) .nil) b__law_lot_right_1x_t1) .nil) b__law_lot_right_t2)
def b__law_lot_right : Sms := (.cons (.par [3, 4] (.cons (.call 13 (.cons (.var 2) .nil)) (.cons (.comp (.var 10) (.nm 10) (.seq (.call 72 (.cons (.var 2) .nil))) (.cons (.call 73 (.cons (.var 2) (.cons (.var 10) .nil))) .nil) [9, 10]) .nil))) b__law_lot_right_t1)
def F__law_lot_right : FV := evDef (tab [(13, F_tied_lot), (72, F__law_lots), (73, F__law_is_tied), (1, F_pick), (41, F__law_length), (43, F__law_degree), (46, F__law_combined)]) 14 3 b__law_lot_right

local macro_rules | `(tactic| walk_at "ex") => `(tactic| try simp only [Sms.ev_cons, Sms.ev_nil, Ex_ev_var, Ex_ev_lit, Ex_ev_tup, Ex_ev_lst, Ex_ev_bin, Ex_ev_neg, Ex_ev_cmp, Ex_ev_cmp2, Ex_ev_and_, Ex_ev_or_, Ex_ev_not_, Ex_ev_ite, Ex_ev_call, Ex_ev_bi, Ex_ev_mth, Ex_ev_ix, Ex_ev_slc, Ex_ev_isa, Ex_ev_rev, Ex_ev_dic0, Ex_ev_comp, Exo_ev_no, Exo_ev_so, Exs_ev_nil, Exs_ev_cons, Exs_evt_nil, Exs_evt_cons, It_ev_seq, It_ev_range1, It_ev_range2, It_ev_enum, It_ev_zips, It_ev_zip, Exs_evf_nil, Exs_evf_cons, Sm_ev_asg_nm, Sm_ev_asg_tp, Sm_ev_par, Sm_ev_aug, Sm_ev_app, Sm_ev_setx, Sm_ev_ite, Sm_ev_for_, Sm_ev_whl, Sm_ev_retn, Sm_ev_brk, Sm_ev_cnt, Sm_ev_pass, Sm_ev_expr, Sm_ev_ret_lit, Sm_ev_ret_tup, Sm_ev_ret_lst, Sm_ev_ret_bin, Sm_ev_ret_neg, Sm_ev_ret_cmp, Sm_ev_ret_cmp2, Sm_ev_ret_and_, Sm_ev_ret_or_, Sm_ev_ret_not_, Sm_ev_ret_ite, Sm_ev_ret_call, Sm_ev_ret_bi, Sm_ev_ret_mth, Sm_ev_ret_ix, Sm_ev_ret_slc, Sm_ev_ret_isa, Sm_ev_ret_rev, Sm_ev_ret_dic0, Sm_ev_ret_comp, Ex.tst, Ev.ok_bind, Ev.ex_bind, Ev.bad_bind, evk_ok, evk_ex, evk_bad, Res.thn_nx, Res.thn_rt, Res.thn_bk, Res.thn_ct, Res.thn_ex, Res.thn_bad, gd_true, gdR_true, optV_some, optR_some, intV_int, seqV_list, seqV_tuple, lstV_list, twoV_list, twoV_tuple, tstV_bool, noex_ok, tab_cons, aft_eq, frz_eq, frzL_nil, frzL_un, frzL_sh, frzL_src, frzL_ow, memN_nil, memN_cons, leafy_int, leafy_bool, leafy_str, leafy_none, leafy_tuple, leafy_list, leafy_dict, flats_nil, flats_cons, flat_int, flat_bool, flat_str, flat_none, flat_tuple, flat_list, put_true, put_false, putAll_nil, putAll_cons, bv_nm, bv_tp, bv_nil, bv_cons, intO_int, wipeE, Ex.vs, Exs.vs, Exo.vs, It.vs, cond_true, cond_false, Bool.cond_self, Option.bind_some, Bool.true_and, Bool.and_true, Bool.false_or, Bool.or_false, Bool.true_or, Bool.or_true, Bool.false_and, Bool.and_false, Bool.not_true, Bool.not_false, decide_true, decide_false, reduceIte, List.map_cons, List.map_nil, List.cons_append, List.nil_append, List.replicate, List.length_cons, List.length_nil, Nat.reduceAdd, Nat.reduceSub, Nat.reduceEqDiff, Nat.reduceBEq, List.set_cons_succ, List.set_cons_zero, List.length_map, Nat.zero_add, evDef_eq, val_rt, val_nx, val_ex, Sm_ev_ext, Sm_ev_augx, Sm_ev_ret_v, binV_addI, binV_addS, binV_addL, binV_addT, binV_subI, binV_mulI, binV_mulT, binV_mulL, binV_fdivI, binV_modI, binV_powI, binV_shlI, binV_shrI, binV_bandI, binV_borI, binV_bxorI, augV_add, augV_sub, augV_band, augV_bor, augV_bxor, augV_mul, augV_fdiv, augV_mod, augV_shl, augV_shr, cmpV_eqI, cmpV_neI, cmpV_lt, cmpV_le, cmpV_gt, cmpV_ge, cmpV_eqIS, cmpV_neIS, cmpV_eqIB, cmpV_neIB, cmpV_eqIN, cmpV_neIN, cmpV_eqIL, cmpV_neIL, cmpV_eqIT, cmpV_neIT, cmpV_eqID, cmpV_neID, cmpV_eqSI, cmpV_neSI, cmpV_eqSS, cmpV_neSS, cmpV_eqSB, cmpV_neSB, cmpV_eqSN, cmpV_neSN, cmpV_eqSL, cmpV_neSL, cmpV_eqST, cmpV_neST, cmpV_eqSD, cmpV_neSD, cmpV_eqBI, cmpV_neBI, cmpV_eqBS, cmpV_neBS, cmpV_eqBB, cmpV_neBB, cmpV_eqBN, cmpV_neBN, cmpV_eqBL, cmpV_neBL, cmpV_eqBT, cmpV_neBT, cmpV_eqBD, cmpV_neBD, cmpV_eqNI, cmpV_neNI, cmpV_eqNS, cmpV_neNS, cmpV_eqNB, cmpV_neNB, cmpV_eqNN, cmpV_neNN, cmpV_eqNL, cmpV_neNL, cmpV_eqNT, cmpV_neNT, cmpV_eqND, cmpV_neND, cmpV_eqLI, cmpV_neLI, cmpV_eqLS, cmpV_neLS, cmpV_eqLB, cmpV_neLB, cmpV_eqLN, cmpV_neLN, cmpV_eqLL, cmpV_neLL, cmpV_eqLT, cmpV_neLT, cmpV_eqLD, cmpV_neLD, cmpV_eqTI, cmpV_neTI, cmpV_eqTS, cmpV_neTS, cmpV_eqTB, cmpV_neTB, cmpV_eqTN, cmpV_neTN, cmpV_eqTL, cmpV_neTL, cmpV_eqTT, cmpV_neTT, cmpV_eqTD, cmpV_neTD, cmpV_eqDI, cmpV_neDI, cmpV_eqDS, cmpV_neDS, cmpV_eqDB, cmpV_neDB, cmpV_eqDN, cmpV_neDN, cmpV_eqDL, cmpV_neDL, cmpV_eqDT, cmpV_neDT, cmpV_eqDD, cmpV_neDD, cmpV_isI, cmpV_inLItrue, cmpV_inTItrue, cmpV_inDItrue, cmpV_inLIfalse, cmpV_inTIfalse, cmpV_inDIfalse, cmpV_isS, cmpV_inLStrue, cmpV_inTStrue, cmpV_inDStrue, cmpV_inLSfalse, cmpV_inTSfalse, cmpV_inDSfalse, cmpV_isB, cmpV_inLBtrue, cmpV_inTBtrue, cmpV_inLBfalse, cmpV_inTBfalse, cmpV_isN, cmpV_inLNtrue, cmpV_inTNtrue, cmpV_inLNfalse, cmpV_inTNfalse, cmpV_isL, cmpV_inLLtrue, cmpV_inTLtrue, cmpV_inLLfalse, cmpV_inTLfalse, cmpV_isT, cmpV_inLTtrue, cmpV_inTTtrue, cmpV_inLTfalse, cmpV_inTTfalse, cmpV_isD, cmpV_inLDtrue, cmpV_inTDtrue, cmpV_inLDfalse, cmpV_inTDfalse, biV_lenL, biV_lenT, biV_lenS, biV_abs, biV_max2, biV_min2, biV_intI, biV_intB, biV_tuple_list, biV_tuple_tuple, biV_list_list, biV_list_tuple, biV_max_list, biV_max_tuple, biV_min_list, biV_min_tuple, biV_repr, biV_all, biV_any, biV_sorted, biV_sum, mtT_bits, mtT_indexL, mtT_indexT, mtT_get, mtV_bits, mtV_indexL, mtV_indexT, mtV_get1, mtV_get2, keyFor_int, keyFor_str, keyPut_int, keyPut_str, ixV_L, ixV_T, ixV_D, slV_L, slV_T, revV_L, revV_T, tstV_int, tstV_none, tstV_list, tstV_tuple, lstO_list, slot_sh, slot_ow, slot_succ, intAt_sh, intAt_succ, ownL_ow, ownL_succ, ownS_owL, ownS_owD, ownS_succ, retS_sh, retS_ow, retS_succ, leN_0, leN_1, leN_2, leN_3, leN_4, leN_5, leN_6, leN_7, leN_8, leN_9, leN_10, leN_11, leN_12, Int.toNat_natCast, Int.zero_add, Exs_eva_nil, Exs_eva_var, Exs_eva_lit, Exs_eva_tup, Exs_eva_lst, Exs_eva_bin, Exs_eva_neg, Exs_eva_cmp, Exs_eva_cmp2, Exs_eva_and_, Exs_eva_or_, Exs_eva_not_, Exs_eva_ite, Exs_eva_call, Exs_eva_bi, Exs_eva_mth, Exs_eva_ix, Exs_eva_slc, Exs_eva_isa, Exs_eva_rev, Exs_eva_dic0, Exs_eva_comp, Ev.pk_bind, evk_pk, noex_pk, Res.thn_pk, wp_nx, wp_rt, wp_ct, wp_bk, Ev.wp_ok, val_pk, F_pick_eq, slotA_sh, slotA_ow, slotA_src, slotA_succ, cnd_t, cnd_f, cnd_ex, cnd_pk, stepV_eq, sh_int, sh_bool, sh_none, sh_nilL, sh_nilT, eqv_nilL, eqv_nilT, frzL_jk, Bool.not_not, Bool.and_self, Int.reduceBEq, Int.reduceLT, Int.reduceLE, Int.reduceAdd, Int.reduceSub, Int.reduceNeg, Int.reduceMul, is_isInt_I, is_isInt_S, is_isInt_B, is_isInt_N, is_isInt_L, is_isInt_T, is_isInt_D, is_isBool_I, is_isBool_S, is_isBool_B, is_isBool_N, is_isBool_L, is_isBool_T, is_isBool_D, is_isTuple_I, is_isTuple_S, is_isTuple_B, is_isTuple_N, is_isTuple_L, is_isTuple_T, is_isTuple_D, is_isStr_I, is_isStr_S, is_isStr_B, is_isStr_N, is_isStr_L, is_isStr_T, is_isStr_D, is_isList_I, is_isList_S, is_isList_B, is_isList_N, is_isList_L, is_isList_T, is_isList_D, is_isDict_I, is_isDict_S, is_isDict_B, is_isDict_N, is_isDict_L, is_isDict_T, is_isDict_D, cast_0, cast_1, cast_2, cast_3, cast_4, cast_5, cast_6, cast_7, cast_8, cast_9, cast_10, cast_11, cast_12, cast_13, cast_14, cast_15, cast_16, cast_17, cast_18, cast_19, leN_13, leN_14, leN_15, leN_16, leN_17, leN_18, leN_19, leN_20, leN_21, leN_22, leN_23, toNat_0, toNat_1, toNat_2, toNat_3, toNat_4, toNat_5, toNat_6, toNat_7, toNat_8, toNat_9, toNat_10, toNat_11, toNat_12, toNat_13, toNat_14, toNat_15, toNat_16, toNat_17, toNat_18, toNat_19, toNat_20, toNat_21, toNat_22, toNat_23, toNat_24, toNat_25, toNat_26, toNat_27, toNat_28, toNat_29, toNat_30, toNat_31, toNat_32, toNat_33, toNat_34, toNat_35, toNat_36, toNat_37, toNat_38, toNat_39, toNat_40, wq_nx, wq_rt, wq_ct, wq_bk, Ev.wq_ok, Ev.wq_ex, wq_ex, Sm_ev_asx, slO_sh, slO_ow, slO_succ, twoV_listT, twoV_tupleL, Bool.false_eq_true, okv, okn, isaD, flats_nis, sh_wd, sh_wds, sh_wdsT, flat_wd, flats_wds, sh_ones, eqv_self, lp_nx, lp_ct, lp_bk, lp_rt, List.mem_cons, List.not_mem_nil, wsh_zero])
/-- words, in a tuple or a list -/
def Wsd (ws : List (List Nat)) (d : PyData) : Prop := d = .tuple (ws.map wd) ∨ d = .list (ws.map wd)
theorem ix_ws {ws : List (List Nat)} {d : PyData} (hd : Wsd ws d) {i : Nat} (h : i < ws.length) : IxV d (.int (i : Nat)) = .ok (false, wd (ws.getD i [])) := by
  have h' : i < (ws.map wd).length := by rw [List.length_map]; exact h
  rcases hd with rfl | rfl
  · rw [ixV_T, atI_nat h']; simp only [optV_some, Ev.ok_bind, List.getElem_map]; rw [getD_get h]
  · rw [ixV_L, atI_nat h']; simp only [optV_some, Ev.ok_bind, List.getElem_map]; rw [getD_get h]
theorem len_ws {ws : List (List Nat)} {d : PyData} (hd : Wsd ws d) : BiV .len [d] = .ok (false, .int (ws.length : Nat)) := by
  rcases hd with rfl | rfl
  · rw [biV_lenT, List.length_map]
  · rw [biV_lenL, List.length_map]
theorem seq_ws {α : Type} {ws : List (List Nat)} {d : PyData} (hd : Wsd ws d) {f : List PyData → Ev α} : seqV d f = f (ws.map wd) := by
  rcases hd with rfl | rfl <;> rfl
theorem at_nis {l : List Nat} {i : Nat} (h : i < l.length) : atI (nis l) (i : Nat) = some (.int (l[i] : Nat)) := by
  have h' : i < (nis l).length := by rw [nis_len]; exact h
  rw [atI_nat h']
  simp [nis]
theorem at_nis0 {l : List Nat} (h : 0 < l.length) : atI (nis l) 0 = some (.int (l[0] : Nat)) := at_nis (i := 0) h
theorem len_wd {w : List Nat} : BiV .len [wd w] = .ok (false, .int (w.length : Nat)) := by rw [biV_lenT, nis_len]
section
variable {n M : Nat} {ws : List (List Nat)} {d : PyData}
theorem lsum_snoc {c : Nat → Nat} {B : List (List Nat)} (hB : Lens n B) {i : Nat} (hi : i < B.length) : ∀ {l : List Nat}, (∀ j ∈ l, j < B.length) → lsum n c B (l ++ [i]) = W.wadd (lsum n c B l) (wtms (c i) (B.getD i []))
  | [], _ => by
    show W.wadd (wtms (c i) (B.getD i [])) (nought n) = W.wadd (nought n) (wtms (c i) (B.getD i []))
    exact wadd_comm
  | j :: l, h => by
    have ih := lsum_snoc (c := c) hB hi (l := l) fun k hk => h k (List.mem_cons_of_mem _ hk)
    show W.wadd (wtms (c j) (B.getD j [])) (lsum n c B (l ++ [i])) = W.wadd (W.wadd (wtms (c j) (B.getD j [])) (lsum n c B l)) (wtms (c i) (B.getD i []))
    rw [ih, wadd_assoc]
theorem take_snoc {l : List Nat} {i : Nat} (h : i < l.length) : l.take (i + 1) = l.take i ++ [l[i]] := by
  rw [List.take_succ_eq_append_getElem h]
theorem bl_le1 {r : List Nat} (h : Bin r) : wl r ≤ 1 := wl_le.mpr fun x hx => bl_le.mpr (by have := h x hx; omega)
theorem lsum_bin {B : List (List Nat)} {l : List Nat} : (∀ j ∈ l, j < B.length) → Bin (lsum n (fun _ => 1) (B.map wlead) l) := by
  induction l with
  | nil => intro _ x hx; rw [(List.mem_replicate.mp hx).2]; exact Nat.zero_le 1
  | cons i l ih =>
    intro h
    unfold lsum
    rw [wtms_one]
    refine Bin.wadd ?_ (ih fun k hk => h k (List.mem_cons_of_mem _ hk))
    have hi := h i (List.mem_cons_self ..)
    rw [List.getD_eq_getElem?_getD, List.getElem?_map, List.getElem?_eq_getElem hi]
    exact Bin.lead
theorem lead_at {i : Nat} (hi : i < ws.length) : (ws.map wlead).getD i [] = wlead (ws.getD i []) := by
  rw [List.getD_eq_getElem?_getD, List.getElem?_map, List.getElem?_eq_getElem hi, ← getD_get hi]
  rfl
theorem max0_iff {r : List Nat} (hb : Bin r) (hl : r.length = n) (n1 : 1 ≤ n) : ∃ m : Nat, BiV .max [wd r] = .ok (false, .int (m : Nat)) ∧ (((m : Nat) : Int) == 0) = decide (r = nought n) := by
  obtain ⟨m, h1, h2⟩ := biV_max_wd (w := r) (fun z => by rw [z] at hl; simp at hl; omega)
  refine ⟨m, h1, ?_⟩
  have e : (1 ≤ wl r) ↔ r ≠ nought n := by
    constructor
    · intro h z; rw [z, wl_nought] at h; omega
    · intro h
      rcases Nat.eq_zero_or_pos (wl r) with z | z
      · exact absurd (wl_zero hl z) h
      · exact z
  rw [decide_eq_decide] at h2
  by_cases z : r = nought n
  · rw [decide_eq_true z, beq_iff_eq]
    have : ¬ (0 : Int) < (m : Nat) := fun q => (e.mp (h2.mp q)) z
    omega
  · rw [decide_eq_false z, beq_eq_false_iff_ne]
    have := h2.mpr (e.mpr z)
    omega
theorem F__law_is_tied_eq (h : Wds n M ws) (hd : Wsd ws d) {lot : List Nat} (hi : ∀ i ∈ lot, i < ws.length) (ne : lot ≠ []) :
    F__law_is_tied [.sh d, .sh (wd lot)] = .ok (false, .bool (decide (lsum n (fun _ => 1) (ws.map wlead) lot = nought n))) := by
  have l0 : 0 < lot.length := List.length_pos_iff.mpr ne
  have ha := hi _ (List.getElem_mem l0)
  obtain ⟨a1, a2, a3⟩ := h.at ha
  have n1 := h.n1
  have n8 := h.n8
  have M1 := h.M1
  unfold F__law_is_tied b__law_is_tied
  walk_at "ex"
  rw [at_nis0 l0]
  walk_at "ex"
  rw [ix_ws hd ha]
  walk_at "ex"
  rw [a1, gd_nought n1 (by omega)]
  unfold b__law_is_tied_t1
  walk_at "ex"
  refine forV_lst (R := fun r => (Res.thn _ r _).val = _) (fun i e => ∃ s, e = [.sh d, .sh (wd lot), .sh (wd (lsum n (fun _ => 1) (ws.map wlead) (lot.take i))), s]) ⟨.un, rfl⟩ ?_ ?_
  · rintro i e hil ⟨s, rfl⟩
    have hx := hi _ (List.getElem_mem hil)
    obtain ⟨b1, b2, b3⟩ := h.at hx
    have l1 : ∀ j ∈ lot.take i, j < ws.length := fun j hj => hi j (List.mem_of_mem_take hj)
    have l2 := lsum_len (c := fun _ => 1) h.len.lead (lot := lot.take i) fun j hj => by rw [List.length_map]; exact l1 j hj
    unfold b__law_is_tied_1b
    walk_at "ex"
    rw [ix_ws hd hx]
    walk_at "ex"
    rw [F__law_leading_eq b2 (by omega) (by omega)]
    walk_at "ex"
    rw [F__law_added_eq (by omega)]
    walk_at "ex"
    refine ⟨_, rfl, .sh (.int (lot[i] : Nat)), ?_⟩
    rw [take_snoc hil, lsum_snoc h.len.lead (by rw [List.length_map]; exact hx) fun j hj => by rw [List.length_map]; exact l1 j hj, wtms_one, lead_at hx]
  · rintro e ⟨s, rfl⟩
    rw [List.take_length]
    have l2 := lsum_len (c := fun _ => 1) h.len.lead (lot := lot) fun j hj => by rw [List.length_map]; exact hi j hj
    obtain ⟨m, m1, m2⟩ := max0_iff (lsum_bin (n := n) (B := ws) hi) l2 n1
    unfold b__law_is_tied_t2
    walk_at "ex"
    rw [m1]
    walk_at "ex"
    rw [m2]
end
section
variable {n M : Nat} {ws : List (List Nat)} {d : PyData}
/-- the greatest worth -/
def maxf {α : Type} (f : α → Nat) : List α → Nat
  | [] => 0
  | x :: r => max (f x) (maxf f r)
theorem biV_max_gen {α : Type} (f : α → Nat) {L : List α} (ne : L ≠ []) : BiV .max [.list (L.map fun q => PyData.int (((f q : Nat) : Int) - 1))] = .ok (false, .int ((maxf f L : Nat) - 1)) := by
  obtain ⟨a, r, rfl⟩ : ∃ a r, L = a :: r := by cases L with
    | nil => exact absurd rfl ne
    | cons a r => exact ⟨a, r, rfl⟩
  have e : (a :: r).map (fun q => PyData.int (((f q : Nat) : Int) - 1)) = PyData.int (((f a : Nat) : Int) - 1) :: (r.map fun q => ((f q : Nat) : Int) - 1).map PyData.int := by simp
  rw [e, biV_max_ints]
  have key : ∀ (r : List α) (m : Nat), (r.map fun q => ((f q : Nat) : Int) - 1).foldl max (((m : Nat) : Int) - 1) = ((max m (maxf f r) : Nat) : Int) - 1 := fun r => by
    induction r with
    | nil => intro m; show _ = ((max m 0 : Nat) : Int) - 1; simp
    | cons q r ih =>
      intro m
      rw [List.map_cons, List.foldl_cons, show max (((m : Nat) : Int) - 1) (((f q : Nat) : Int) - 1) = ((max m (f q) : Nat) : Int) - 1 by omega, ih]
      show _ = ((max m (max (f q) (maxf f r)) : Nat) : Int) - 1
      rw [Nat.max_assoc]
  rw [key]
  rfl
theorem lmax_maxf : ∀ {lot : List Nat}, lmax ws lot = maxf (fun i => wl (ws.getD i [])) lot
  | [] => rfl
  | i :: r => by show max _ _ = max _ _; rw [lmax_maxf]
theorem biV_max_lot {lot : List Nat} (ne : lot ≠ []) : BiV .max [.list (lot.map fun i => PyData.int (((wl (ws.getD i []) : Nat) : Int) - 1))] = .ok (false, .int ((lmax ws lot : Nat) - 1)) := by
  rw [lmax_maxf]
  exact biV_max_gen _ ne
theorem F_lot_sum_eq (h : Wds n M ws) (hd : Wsd ws d) {lot : List Nat} (hi : ∀ i ∈ lot, i < ws.length) (ne : lot ≠ []) (hl : lot.length ≤ 8) :
    F_lot_sum [.sh d, .sh (wd lot)] = .ok (false, wd (lsum n (mv ws (lmax ws lot)) ws lot)) := by
  have l0 : 0 < lot.length := List.length_pos_iff.mpr ne
  have ha := hi _ (List.getElem_mem l0)
  obtain ⟨a1, a2, a3⟩ := h.at ha
  have n1 := h.n1
  have n8 := h.n8
  have M1 := h.M1
  unfold F_lot_sum b_lot_sum
  walk_at "ex"
  rw [gd_pos (leLim (by omega)), filV_map (em := fun n => PyData.int (n : Nat)) (fun i => PyData.int (((wl (ws.getD i []) : Nat) : Int) - 1))]
  rotate_left
  · intro i hil
    have hx := hi i hil
    obtain ⟨b1, b2, b3⟩ := h.at hx
    walk_at "ex"
    rw [ix_ws hd hx]
    walk_at "ex"
    rw [F_word_degree_eq (fun z => by rw [z] at b1; simp at b1; omega) (by omega)]
    walk_at "ex"
  walk_at "ex"
  rw [biV_max_lot ne]
  walk_at "ex"
  rw [at_nis0 l0]
  walk_at "ex"
  rw [ix_ws hd ha]
  walk_at "ex"
  rw [a1, gd_nought n1 (by omega)]
  unfold b_lot_sum_t2
  walk_at "ex"
  refine forV_lst (R := fun r => (Res.thn _ r _).val = _) (fun i e => ∃ s, e = [.sh d, .sh (wd lot), s, .sh (.int ((lmax ws lot : Nat) - 1)), .sh (wd (lsum n (mv ws (lmax ws lot)) ws (lot.take i))), .un]) ⟨_, rfl⟩ ?_ ?_
  · rintro i e hil ⟨s, rfl⟩
    have hx := hi _ (List.getElem_mem hil)
    obtain ⟨b1, b2, b3⟩ := h.at hx
    have b4 := lmax_ge (ws := ws) (List.getElem_mem hil)
    have l1 : ∀ j ∈ lot.take i, j < ws.length := fun j hj => hi j (List.mem_of_mem_take hj)
    have l2 := lsum_len (c := mv ws (lmax ws lot)) h.len l1
    have nb : ws.getD lot[i] [] ≠ [] := fun z => by rw [z] at b1; simp at b1; omega
    obtain ⟨j, hj, q⟩ := lmax_in (ws := ws) ne
    have b5 := (h.at (hi j hj)).2.2
    have sub : (((lmax ws lot : Nat) : Int) - 1) - (((wl (ws.getD lot[i] []) : Nat) : Int) - 1) = ((lmax ws lot - wl (ws.getD lot[i] []) : Nat) : Int) := by omega
    have mvb : bl (mv ws (lmax ws lot) lot[i]) ≤ 1001 := by unfold mv; rw [bl_pow]; omega
    unfold b_lot_sum_2b
    walk_at "ex"
    rw [ix_ws hd hx]
    walk_at "ex"
    rw [F_word_degree_eq nb (by omega)]
    walk_at "ex"
    rw [sub, gd_pos (c := shlOk 1 ((lmax ws lot - wl (ws.getD lot[i] []) : Nat) : Int)) (shlOk_nat (x := 1) (by rw [show bl 1 = 1 from rfl]; omega))]
    walk_at "ex"
    rw [pow_cast]
    walk_at "ex"
    rw [show (2 : Nat) ^ (lmax ws lot - wl (ws.getD lot[i] [])) = mv ws (lmax ws lot) lot[i] from rfl, F_word_times_eq (by omega) (by omega) (by omega)]
    walk_at "ex"
    rw [F_words_added_eq (by rw [l2, wtms_len, b1]) (by omega)]
    walk_at "ex"
    refine ⟨_, rfl, .sh (.int (lot[i] : Nat)), ?_⟩
    rw [take_snoc hil, lsum_snoc h.len hx l1]
  · rintro e ⟨s, rfl⟩
    rw [List.take_length]
    unfold b_lot_sum_t3
    walk_at "ex"
end
/-! ### a tied lot -/
def kdat (K : List (Nat × List Nat × List Nat)) : List (PyData × PyData) := K.map fun e => (.int (e.1 : Nat), .tuple [wd e.2.1, .list (nis e.2.2)])
theorem look_kd {p : Nat} : ∀ K : List (Nat × List Nat × List Nat), lookD (kdat K) (.int (p : Nat)) = (K.find? fun e => e.1 == p).map fun e => .tuple [wd e.2.1, .list (nis e.2.2)]
  | [] => rfl
  | e :: K => by
    have ih := look_kd (p := p) K
    unfold lookD at ih ⊢
    have h : keyEq (.int (e.1 : Nat)) (.int (p : Nat)) = (e.1 == p) := by
      show (((e.1 : Nat) : Int) == ((p : Nat) : Int)) = (e.1 == p)
      by_cases z : e.1 = p
      · subst z; simp
      · have z' : ((e.1 : Nat) : Int) ≠ ((p : Nat) : Int) := by omega
        rw [beq_eq_false_iff_ne.mpr z', beq_eq_false_iff_ne.mpr z]
    show ((List.find? _ (_ :: kdat K)).map _) = _
    rw [List.find?_cons, List.find?_cons]
    simp only [h]
    cases e.1 == p with
    | true => rfl
    | false => exact ih
theorem put_kd {p : Nat} {K : List (Nat × List Nat × List Nat)} {r l : List Nat} (h : K.find? (fun e => e.1 == p) = none) : putD (kdat K) (.int (p : Nat)) (.tuple [wd r, .list (nis l)]) = kdat (K ++ [(p, r, l)]) := by
  have e := look_kd (p := p) K
  rw [h] at e
  unfold lookD at e
  have e2 : (kdat K).any (fun q => keyEq q.1 (.int (p : Nat))) = false := by
    rw [List.any_eq_false]
    intro x hx
    have := List.find?_eq_none.mp (show (kdat K).find? (fun q => keyEq q.1 (.int (p : Nat))) = none by
      cases z : (kdat K).find? (fun q => keyEq q.1 (.int (p : Nat))) with
      | none => rfl
      | some u => rw [z] at e; cases e) x hx
    simpa using this
  unfold putD
  rw [e2, if_neg (by decide)]
  unfold kdat
  rw [List.map_append]
  rfl
theorem eqv_one {x : Nat} (y : Nat) : PyData.eqv (.int (x : Nat)) (.int (y : Nat)) = (x == y) := by
  rw [eqv_nat]
  by_cases z : x = y
  · subst z; simp
  · rw [decide_eq_false z, beq_eq_false_iff_ne.mpr z]
theorem any_nis {x : Nat} : ∀ {m : List Nat}, (m.map fun n => PyData.int (n : Nat)).any (fun z => PyData.eqv z (.int (x : Nat))) = m.contains x
  | [] => rfl
  | y :: m => by
    rw [List.map_cons, List.any_cons, any_nis (m := m), eqv_one, List.contains_cons]
    congr 1
    exact Bool.beq_comm
theorem p1_cons {y : Nat} {r : List Nat} : p1 (y :: r) = if (y == 1) = true then some 0 else (p1 r).map (· + 1) := List.findIdx?_cons ..
theorem any_row : ∀ {r : List Nat}, (r.map fun n => PyData.int (n : Nat)).any (fun z => PyData.eqv z (.int 1)) = (p1 r).isSome
  | [] => rfl
  | y :: r => by
    rw [List.map_cons, List.any_cons, any_row (r := r), show PyData.eqv (.int (y : Nat)) (.int 1) = (y == 1) from eqv_one 1, p1_cons]
    cases y == 1 <;> simp
theorem idx_row : ∀ {r : List Nat}, idxD (r.map fun n => PyData.int (n : Nat)) (.int 1) = p1 r
  | [] => rfl
  | y :: r => by
    have ih := idx_row (r := r)
    unfold idxD at ih ⊢
    rw [List.map_cons, List.findIdx?_cons, ih, show PyData.eqv (.int (y : Nat)) (.int 1) = (y == 1) from eqv_one 1, p1_cons]
theorem sh_nisL {l : List Nat} : SeqAt.shaped (.list (l.map fun n => PyData.int (n : Nat))) = true := shaped_of (k := 1) (dok_list fun y hy => by obtain ⟨i, _, rfl⟩ := List.mem_map.mp hy; exact dok_int) (by decide)
theorem dle_int {a b : Int} : PySem.W.dataLe false _root_.id (.int a) (.int b) = decide (a ≤ b) := by
  have := congrFun (congrFun (PySem.W.dataLe_int (β := Int) fun b => b) a) b
  exact this
theorem sort_nis {l : List Nat} : sortD (l.map fun n => PyData.int (n : Nat)) = nis (l.mergeSort fun a b => decide (a ≤ b)) := by
  unfold sortD nis
  rw [List.map_mergeSort (s := PySem.W.dataLe false _root_.id)]
  intro a _ b _
  rw [dle_int]
  by_cases z : a ≤ b
  · rw [decide_eq_true z, decide_eq_true (by omega)]
  · rw [decide_eq_false z, decide_eq_false (by omega)]
theorem okS_nis {l : List Nat} : okSB (l.map fun n => PyData.int (n : Nat)) = true := by
  have := okSB_ints (l.map fun n => ((n : Nat) : Int))
  rwa [List.map_map] at this
section
variable {n M : Nat} {ws : List (List Nat)} {d : PyData}
theorem lsum_same {B : List (List Nat)} {c : Nat → Nat} (hB : Lens n B) {l m : List Nat} (hl : l.Nodup) (hm : m.Nodup) (il : ∀ i ∈ l, i < B.length) (h : ∀ x, x ∈ m ↔ x ∈ l) : lsum n c B m = lsum n c B l := by
  rw [← wc_csel hB hl il, ← wc_csel hB hm fun i hi => il i ((h i).mp hi)]
  congr 1
  unfold csel
  exact List.map_congr_left fun i _ => by simp only [h]
theorem sorted_asc {l : List Nat} (h : l.Nodup) : (l.mergeSort fun a b => decide (a ≤ b)).Pairwise (· < ·) := by
  have s := List.pairwise_mergeSort (le := fun a b => decide (a ≤ b)) (fun a b c h1 h2 => by simp at *; omega) (fun a b => by simp; omega) l
  have p := (List.mergeSort_perm l fun a b => decide (a ≤ b)).nodup_iff.mpr h
  exact (s.and p).imp fun {a b} z => by have := of_decide_eq_true z.1; have := z.2; omega
/-- what tied_lot tells -/
def TiedR (n : Nat) (ws : List (List Nat)) (r : PyData) : Prop := (r = .none ∧ Indep n (ws.map wlead)) ∨ ∃ lot, r = wd lot ∧ LotAsc ws.length lot ∧ Tied n ws lot
theorem Row.few {i : Nat} {r l : List Nat} (h : Row n ws i r l) : l.length ≤ i + 1 := by
  have := nodup_len (ys := List.range (i + 1)) h.nd fun x hx => List.mem_range.mpr (by have := h.lt x hx; omega)
  rwa [List.length_range] at this
def Ft : Nat → FV := tab [(12, F_leading_row), (10, F_words_added)]
def tmu (n : Nat) (r : List Nat) : Nat := match p1 r with
  | none => 0
  | some p => n - p
/-- on, or out -/
def OutOk (I : DL.Env → Prop) (R : Res → Prop) (x : Res) : Prop := (∃ e', (x = .nx e' ∨ x = .ct e') ∧ I e') ∨ ∃ r, outR x = some r ∧ R r
theorem tied_step (h : Wds n M ws) (hd : Wsd ws d) {i : Nat} (hi : i < ws.length) {K : List (Nat × List Nat × List Nat)} (kn : Known n ws K) (kl : K.length = i) {s2 s3 s4 s5 s6 s7 : Sl} {R : Res → Prop}
    (hR : ∀ v, TiedR n ws v → R (.rt false v)) :
    OutOk (fun e' => ∃ K' s2 s3 s4 s5 s6 s7, Known n ws K' ∧ K'.length = i + 1 ∧ e' = [.sh d, .ow (.dict (kdat K')), jk s2, jk s3, jk s4, jk s5, jk s6, jk s7, .un, .un]) R (Sms.ev Ft b_tied_lot_1b [.sh d, .ow (.dict (kdat K)), .sh (.int (i : Nat)), .sh (wd (ws.getD i [])), jk s4, jk s5, jk s6, jk s7, .un, .un]) := by
  obtain ⟨a1, a2, a3⟩ := h.at hi
  have n1 := h.n1
  have n8 := h.n8
  have M1 := h.M1
  have few := h.few
  have lead0 := F_leading_row_eq a2 (by omega)
  unfold b_tied_lot_1b Ft
  walk_at "ex"
  rw [lead0]
  walk_at "ex"
  unfold b_tied_lot_1_t1
  walk_at "ex"
  have st := Row.start h.len hi
  rw [getD_get hi] at st
  refine whlV_R (σ := List Nat × List Nat) (R := fun res => OutOk _ R (Res.thn _ res _))
    (fun s e => Row n ws i s.1 s.2 ∧ ∃ s6 s7, e = [.sh d, .ow (.dict (kdat K)), .sh (.int (i : Nat)), .sh (wd (ws.getD i [])), .sh (wd s.1), .ow (.list (nis s.2)), jk s6, jk s7, .un, .un]) (fun s => tmu n s.1) (s := (wlead (ws.getD i []), [i])) ⟨st, _, _, rfl⟩ ?_ ?_
  · have : tmu n (wlead (ws.getD i [])) ≤ n := by unfold tmu; split <;> omega
    show tmu n (wlead (ws.getD i [])) < fuel
    unfold fuel
    omega
  · rintro ⟨r, l⟩ e ⟨rw0, u6, u7, rfl⟩
    have rw0 : Row n ws i r l := rw0
    have bl1 := bl_le1 rw0.bin
    have lf := rw0.few
    have ll := rw0.len
    cases hp : p1 r with
    | none =>
      refine .inl ⟨[.sh d, .ow (.dict (kdat K)), .sh (.int (i : Nat)), .sh (wd (ws.getD i [])), .sh (wd r), .ow (.list (nis l)), jk u6, jk u7, .un, .un], ?_, ?_⟩
      · iterate 5 (walk_at "ex"; try simp only [any_row, idx_row, sh_nisL, hp, look_kd, Option.isSome_some, Option.isSome_none, Option.map_some, Option.map_none])
      · refine .inr ⟨.rt false (wd (l.mergeSort fun a b => decide (a ≤ b))), ?_, ?_⟩
        · unfold b_tied_lot_1_t2
          iterate 5 (walk_at "ex"; try simp only [any_row, idx_row, sh_nisL, hp, look_kd, Option.isSome_some, Option.isSome_none, Option.map_some, Option.map_none])
          rw [okS_nis, gd_pos (c := true && _) (by rw [Bool.true_and]; exact leLim (by omega)), sort_nis]
          iterate 5 (walk_at "ex"; try simp only [any_row, idx_row, sh_nisL, hp, look_kd, Option.isSome_some, Option.isSome_none, Option.map_some, Option.map_none])
          rfl
        · have pm := List.mergeSort_perm l fun a b => decide (a ≤ b)
          refine hR _ (.inr ⟨_, rfl, ⟨sorted_asc rw0.nd, fun x hx => by have := rw0.lt x (pm.mem_iff.mp hx); omega, fun z => ?_⟩, ?_⟩)
          · have := pm.mem_iff.mpr rw0.mem
            rw [z] at this
            cases this
          · unfold Tied
            rw [lsum_same h.len.lead rw0.nd (pm.nodup_iff.mpr rw0.nd) (fun x hx => by rw [List.length_map]; have := rw0.lt x hx; omega) fun x => pm.mem_iff, ← rw0.sum]
            exact bin_nought rw0.bin rw0.len hp
    | some p =>
      cases hf : K.find? (fun e => e.1 == p) with
      | none =>
        refine .inl ⟨[.sh d, .ow (.dict (kdat K)), .sh (.int (i : Nat)), .sh (wd (ws.getD i [])), .sh (wd r), .ow (.list (nis l)), jk u6, jk u7, .un, .un], ?_, ?_⟩
        · iterate 5 (walk_at "ex"; try simp only [any_row, idx_row, sh_nisL, hp, look_kd, Option.isSome_some, Option.isSome_none, Option.map_some, Option.map_none, hf])
        · refine .inl ⟨[.sh d, .ow (.dict (kdat (K ++ [(p, r, l)]))), .sh (.int (i : Nat)), .sh (wd (ws.getD i [])), .sh (wd r), .sh (.list (nis l)), jk (frzO [4, 5] 6 u6), jk (frzO [4, 5] 7 u7), .un, .un], .inl ?_, ?_⟩
          · unfold b_tied_lot_1_t2
            iterate 5 (walk_at "ex"; try simp only [any_row, idx_row, sh_nisL, hp, look_kd, Option.isSome_some, Option.isSome_none, Option.map_some, Option.map_none, hf])
            rw [put_kd hf]
            simp only [gdR, decide_eq_true (show (kdat K).length < lim by unfold kdat lim; rw [List.length_map]; omega)]
            walk_at "ex"
          · refine ⟨_, _, _, _, _, _, _, ⟨fun j hj => ?_, fun j hj => ?_, ?_⟩, by simp [kl], rfl⟩
            · by_cases z : j < K.length
              · simp only [List.getElem_append_left z]
                exact kn.row j z
              · have : j = K.length := by rw [List.length_append] at hj; simp at hj; omega
                subst this
                simp only [List.getElem_concat_length]
                rw [kl]
                exact rw0
            · by_cases z : j < K.length
              · simp only [List.getElem_append_left z]
                exact kn.piv j z
              · have : j = K.length := by rw [List.length_append] at hj; simp at hj; omega
                subst this
                simp only [List.getElem_concat_length]
                exact hp
            · rw [List.map_append, List.nodup_append]
              refine ⟨kn.key, by simp, fun a ha b hb e => ?_⟩
              subst e
              obtain ⟨x, hx, rfl⟩ := List.mem_map.mp ha
              have := List.find?_eq_none.mp hf x hx
              simp at hb
              exact this (by simp [hb])
      | some e =>
        obtain ⟨em, ep⟩ : e ∈ K ∧ e.1 = p := ⟨List.mem_of_find?_eq_some hf, by simpa using List.find?_some hf⟩
        obtain ⟨j, hj, ej⟩ := List.mem_iff_getElem.mp em
        have rj := kn.row j hj
        have pj := kn.piv j hj
        rw [ej] at rj pj
        have lj := rj.few
        have bj := bl_le1 rj.bin
        have lj2 := rj.len
        refine .inr ⟨[.sh d, .ow (.dict (kdat K)), .sh (.int (i : Nat)), .sh (wd (ws.getD i [])), .sh (wd r), .ow (.list (nis l)), jk u6, jk u7, .un, .un], (W.wadd r e.2.1, sd l e.2.2), [.sh d, .ow (.dict (kdat K)), .sh (.int (i : Nat)), .sh (wd (ws.getD i [])), .sh (wd (W.wadd r e.2.1)), .ow (.list (nis (sd l e.2.2))), .sh (wd e.2.1), .sh (.list (nis e.2.2)), .un, .un], ?_, .inl ?_, ?_, ?_⟩
        · iterate 5 (walk_at "ex"; try simp only [any_row, idx_row, sh_nisL, hp, look_kd, Option.isSome_some, Option.isSome_none, Option.map_some, Option.map_none, hf])
        · unfold b_tied_lot_1_1b
          iterate 5 (walk_at "ex"; try simp only [any_row, idx_row, sh_nisL, hp, look_kd, Option.isSome_some, Option.isSome_none, Option.map_some, Option.map_none, hf])
          rw [F_words_added_eq (by omega) (by omega)]
          iterate 5 (walk_at "ex"; try simp only [any_row, idx_row, sh_nisL, hp, look_kd, Option.isSome_some, Option.isSome_none, Option.map_some, Option.map_none, hf])
          rw [gd_pos (leLim (by omega)), filV_filter (em := fun n => PyData.int (n : Nat)) (fun x => !e.2.2.contains x) fun x => .int (x : Nat)]
          rotate_left
          · intro x hx
            walk_at "ex"
            simp only [sh_nisL, any_nis]
            walk_at "ex"
            cases e.2.2.contains x <;> rfl
          walk_at "ex"
          rw [gd_pos (leLim (by omega)), filV_filter (em := fun n => PyData.int (n : Nat)) (fun x => !l.contains x) fun x => .int (x : Nat)]
          rotate_left
          · intro x hx
            walk_at "ex"
            simp only [sh_nisL, any_nis]
            walk_at "ex"
            cases l.contains x <;> rfl
          walk_at "ex"
          have f1 := List.length_filter_le (fun x => !e.2.2.contains x) l
          have f2 := List.length_filter_le (fun x => !l.contains x) e.2.2
          rw [gd_pos (leLim (by omega)), ← List.map_append]
          walk_at "ex"
          rfl
        · exact ⟨Row.step h.len hi (by omega) rw0 rj, _, _, rfl⟩
        · show tmu n (W.wadd r e.2.1) < tmu n r
          obtain ⟨q1, q2, q3⟩ := p1_iff.mp hp
          unfold tmu
          rw [hp]
          cases hq : p1 (W.wadd r e.2.1) with
          | none => show 0 < n - p; omega
          | some q =>
            have := p1_wadd rw0.bin rj.bin (by omega) hp (by rw [← ep]; exact pj) hq
            show n - q < n - p
            omega
theorem F_tied_lot_ex (h : Wds n M ws) (hd : Wsd ws d) : ∃ v, F_tied_lot [.sh d] = .ok (false, v) ∧ TiedR n ws v := by
  have few := h.few
  have key : (fun r : Res => ∃ v, (Res.thn Ft r b_tied_lot_t2).val = .ok (false, v) ∧ TiedR n ws v) (forV (stepV Ft (.tp (.cons (.nm 2) (.cons (.nm 3) .nil))) b_tied_lot_1b) (ws.zipIdx.map fun p => .tuple [.int (p.2 : Nat), wd p.1]) [.sh d, .ow (.dict (kdat [])), .un, .un, .un, .un, .un, .un, .un, .un]) := by
    refine forV_lstG (R := fun r : Res => ∃ v, (Res.thn Ft r b_tied_lot_t2).val = .ok (false, v) ∧ TiedR n ws v) (em := fun p : List Nat × Nat => .tuple [.int (p.2 : Nat), wd p.1]) (fun i e => ∃ K s2 s3 s4 s5 s6 s7, Known n ws K ∧ K.length = i ∧ e = [.sh d, .ow (.dict (kdat K)), jk s2, jk s3, jk s4, jk s5, jk s6, jk s7, .un, .un]) ⟨[], .un, .un, .un, .un, .un, .un, ⟨fun j hj => absurd hj (by simp), fun j hj => absurd hj (by simp), by simp⟩, rfl, rfl⟩ ?_ ?_
    · rintro i e hi ⟨K, s2, s3, s4, s5, s6, s7, kn, kl, rfl⟩
      have hi' : i < ws.length := by rw [List.length_zipIdx] at hi; exact hi
      have ez : ws.zipIdx[i] = (ws.getD i [], i) := by rw [List.getElem_zipIdx, getD_get hi', Nat.zero_add]
      rw [ez]
      have st := tied_step (s2 := s2) (s3 := s3) (s4 := s4) (s5 := s5) (s6 := s6) (s7 := s7) (R := fun r : Res => ∃ v, (Res.thn Ft r b_tied_lot_t2).val = .ok (false, v) ∧ TiedR n ws v) h hd hi' kn kl (fun v hv => ⟨v, by walk_at "ex", hv⟩)
      have e1 : stepV Ft (.tp (.cons (.nm 2) (.cons (.nm 3) .nil))) b_tied_lot_1b (.tuple [.int (i : Nat), wd (ws.getD i [])]) [.sh d, .ow (.dict (kdat K)), jk s2, jk s3, jk s4, jk s5, jk s6, jk s7, .un, .un] = Sms.ev Ft b_tied_lot_1b [.sh d, .ow (.dict (kdat K)), .sh (.int (i : Nat)), .sh (wd (ws.getD i [])), jk s4, jk s5, jk s6, jk s7, .un, .un] := by
        walk_at "ex"
      rw [e1]
      rcases st with ⟨e', a, b⟩ | b
      · exact .inl ⟨e', a, b⟩
      · exact .inr b
    · rintro e ⟨K, s2, s3, s4, s5, s6, s7, kn, kl, rfl⟩
      refine ⟨.none, ?_, .inl ⟨rfl, known_indep h.len kn (by rw [kl, List.length_zipIdx])⟩⟩
      unfold b_tied_lot_t2
      walk_at "ex"
  unfold F_tied_lot b_tied_lot
  walk_at "ex"
  unfold b_tied_lot_t1
  walk_at "ex"
  rw [seq_ws hd]
  walk_at "ex"
  rw [enumD_map]
  exact key
end
theorem at_wds {B : List (List Nat)} {k : Nat} (h : k < B.length) : atI (B.map wd) (k : Nat) = some (wd (B.getD k [])) := by
  have h' : k < (B.map wd).length := by rw [List.length_map]; exact h
  rw [atI_nat h', List.getElem_map, getD_get h]
theorem cutD_take {α : Type} {f : α → PyData} {xs : List α} {k : Nat} (h : k ≤ xs.length) : DL.cutD (xs.map f) none (some (k : Nat)) = (xs.take k).map f := by
  unfold DL.cutD
  rw [HT.sIx_none, HT.sIx_nat, List.drop_zero, Nat.sub_zero, List.length_map, Nat.min_eq_left h, List.map_take]
theorem cutD_drop {α : Type} {f : α → PyData} {xs : List α} {k : Nat} (h : k ≤ xs.length) : DL.cutD (xs.map f) (some (k : Nat)) none = (xs.drop k).map f := by
  unfold DL.cutD
  rw [HT.sIx_none, HT.sIx_nat, List.length_map, Nat.min_eq_left h, List.take_of_length_le (by simp), List.map_drop]
section
variable {n M : Nat} {ws : List (List Nat)} {d : PyData}
/-- words, 0 among them perhaps -/
structure Wds0 (n M : Nat) (ws : List (List Nat)) : Prop where
  n1 : 1 ≤ n
  n8 : n ≤ 8
  M1 : M ≤ 1000
  len : Lens n ws
  le : ∀ w ∈ ws, wl w ≤ M
  few : ws.length ≤ 8
def nz (ws : List (List Nat)) : List (List Nat) := ws.filter fun w => decide (1 ≤ wl w)
theorem Wds0.nz (h : Wds0 n M ws) : Wds n M (nz ws) ∧ SameSp n (nz ws) ws := by
  have l : Lens n (W.nz ws) := fun w hw => h.len w (List.mem_filter.mp hw).1
  refine ⟨⟨h.n1, h.n8, h.M1, l, fun w hw => of_decide_eq_true (List.mem_filter.mp hw).2, fun w hw => h.le w (List.mem_filter.mp hw).1, Nat.le_trans (List.length_filter_le ..) h.few⟩, fun w hw => .base h.len (List.mem_filter.mp hw).1, fun w hw => ?_⟩
  by_cases z : 1 ≤ wl w
  · exact .base l (List.mem_filter.mpr ⟨hw, decide_eq_true z⟩)
  · rw [wl_zero (h.len w hw) (by omega)]; exact .zero
/-- a well led base of the same sums -/
structure Down (n M : Nat) (ws B : List (List Nat)) : Prop where
  wds : Wds n M B
  led : WellLed n B
  same : SameSp n B ws
  few : B.length ≤ ws.length
/-- what is left of a def that goes down -/
def DownR (F : Nat → FV) (t : Sms) (mk : List PyData → PyData) (fr : Bool) (n M : Nat) (ws : List (List Nat)) (r : Res) : Prop := ∃ B, (Res.thn F r t).val = .ok (fr, mk (B.map wd)) ∧ Down n M ws B
theorem filt_at {lot : List Nat} {q : Nat → Bool} {p : Nat} (h1 : p ∈ lot) (h2 : q p = true) : ∃ p', (p' ∈ lot ∧ q p' = true) ∧ atI ((lot.filter q).map fun k => PyData.int (k : Nat)) 0 = some (.int (p' : Nat)) := by
  have hm : p ∈ lot.filter q := List.mem_filter.mpr ⟨h1, h2⟩
  have hl : 0 < (lot.filter q).length := List.length_pos_of_mem hm
  have hx := List.getElem_mem hl
  exact ⟨(lot.filter q)[0], List.mem_filter.mp hx, at_nis0 hl⟩
theorem deg_eq {a b : Nat} : ((((a : Nat) : Int) - 1) == (((b : Nat) : Int) - 1)) = (a == b) := by
  by_cases z : a = b
  · subst z; simp
  · rw [beq_eq_false_iff_ne.mpr z, beq_eq_false_iff_ne.mpr (by omega)]
theorem deg_ge {a : Nat} : decide ((0 : Int) ≤ ((a : Nat) : Int) - 1) = decide (1 ≤ a) := by rw [decide_eq_decide]; omega
theorem TiedR.leafy {r : PyData} (h : TiedR n ws r) : leafy false r = true := by
  rcases h with ⟨rfl, _⟩ | ⟨lot, rfl, _⟩
  · rfl
  · rw [leafy_tuple, flats_nis]
theorem wsum_le (h : Wds n M ws) : wsum ws ≤ M * ws.length := by
  have : ∀ B : List (List Nat), (∀ b ∈ B, wl b ≤ M) → wsum B ≤ M * B.length := fun B => by
    induction B with
    | nil => intro _; exact Nat.zero_le _
    | cons b B ih =>
      intro hb
      have h1 := ih fun x hx => hb x (List.mem_cons_of_mem _ hx)
      have h2 := hb b (List.mem_cons_self ..)
      unfold wsum at *
      rw [List.map_cons, List.sum_cons, List.length_cons, Nat.mul_succ]
      omega
  exact this ws h.le
theorem F_gone_down_ex (h : Wds0 n M ws) (hd : Wsd ws d) : ∃ B, F_gone_down [.sh (.int (n : Nat)), .sh d] = .ok (false, .tuple (B.map wd)) ∧ Down n M ws B := by
  obtain ⟨wz, sz⟩ := h.nz
  have n1 := h.n1
  have n8 := h.n8
  have M1 := h.M1
  have few := h.few
  unfold F_gone_down b_gone_down
  walk_at "ex"
  rw [seq_ws hd]
  walk_at "ex"
  rw [gd_pos (leLim (by omega)), filV_filter (em := wd) (fun w => decide (1 ≤ wl w)) wd]
  rotate_left
  · intro w hw
    have := h.len w hw
    have := h.le w hw
    walk_at "ex"
    rw [F_word_degree_eq (fun z => by subst z; simp at *; omega) (by omega)]
    walk_at "ex"
    rw [deg_ge]
    cases decide (1 ≤ wl w) <;> rfl
  walk_at "ex"
  obtain ⟨v0, e0, t0⟩ := F_tied_lot_ex wz (.inr rfl : Wsd (nz ws) (.list ((nz ws).map wd)))
  rw [show List.filter (fun w => decide (1 ≤ wl w)) ws = nz ws from rfl, e0]
  have lv0 := t0.leafy
  walk_at "ex"
  simp only [lv0]
  walk_at "ex"
  unfold b_gone_down_t2
  walk_at "ex"
  refine whlV_R (σ := List (List Nat) × PyData) (R := DownR (tab [(9, F_word_degree), (13, F_tied_lot), (14, F_lot_sum)]) b_gone_down_t3 (fun xs => .tuple xs) false n M ws)
    (fun s e => Wds n M s.1 ∧ SameSp n s.1 ws ∧ TiedR n s.1 s.2 ∧ s.1.length ≤ ws.length ∧ ∃ t3 t4 t5, e = [.sh (.int (n : Nat)), .ow (.list (s.1.map wd)), .sh s.2, jk t3, jk t4, jk t5, .un, .un, .un]) (fun s => wsum s.1) (s := (nz ws, v0)) ⟨wz, sz, t0, List.length_filter_le .., _, _, _, rfl⟩ ?_ ?_
  · have := wsum_le wz
    show wsum (nz ws) < fuel
    unfold fuel
    have : M * (nz ws).length ≤ 1000 * 8 := Nat.mul_le_mul M1 wz.few
    omega
  · rintro ⟨B, v⟩ e ⟨wB0, sB0, tB0, fB0, t3, t4, t5, rfl⟩
    have wB : Wds n M B := wB0
    have sB : SameSp n B ws := sB0
    have tB : TiedR n B v := tB0
    have fB : B.length ≤ ws.length := fB0
    clear wB0 sB0 tB0 fB0
    rcases tB with ⟨rfl, ind⟩ | ⟨lot, rfl, lo, ti⟩
    · refine .inl ⟨[.sh (.int (n : Nat)), .ow (.list (B.map wd)), .sh .none, jk t3, jk t4, jk t5, .un, .un, .un], ?_, B, ?_, wB, ⟨wB.pos, ind⟩, sB, fB⟩
      · walk_at "ex"
      · unfold b_gone_down_t3
        walk_at "ex"
    · have lof : lot.length ≤ 8 := by
        have := nodup_len (ys := List.range B.length) lo.of.nd fun x hx => List.mem_range.mpr (lo.lt x hx)
        rw [List.length_range] at this
        have := wB.few
        omega
      obtain ⟨j, hj, ej⟩ := lmax_in (ws := B) lo.ne
      obtain ⟨p, ⟨hp, ep⟩, ap⟩ := filt_at (q := fun k => wl (B.getD k []) == lmax B lot) hj (by rw [ej]; simp)
      have ep : wl (B.getD p []) = lmax B lot := by simpa using ep
      have hpl := lo.lt p hp
      have sumE := F_lot_sum_eq wB (.inr rfl : Wsd B (.list (B.map wd))) lo.lt lo.ne lof
      have ll : (late n B lot).length = n := lsum_len wB.len lo.lt
      have lm : wl (late n B lot) < lmax B lot := late_lt wB.len wB.pos lo.lt (fun i hi => lmax_ge hi) (by have := (wB.at hpl).2.1; omega) ti
      have lM : lmax B lot ≤ M := by rw [← ep]; exact (wB.at hpl).2.2
      have wy := way wB lo ti hp ep (C := B.take p ++ (if 1 ≤ wl (late n B lot) then [late n B lot] else []) ++ B.drop (p + 1)) (by
        rw [List.eraseIdx_eq_take_drop_succ, List.append_assoc, List.append_assoc]
        exact (List.perm_append_comm).append_left _)
      generalize hC : B.take p ++ (if 1 ≤ wl (late n B lot) then [late n B lot] else []) ++ B.drop (p + 1) = C at wy
      obtain ⟨wC, sC, lt, len⟩ := wy
      obtain ⟨v', e', t'⟩ := F_tied_lot_ex wC (.inr rfl : Wsd C (.list (C.map wd)))
      have lv' := t'.leafy
      have fB8 := wB.few
      refine .inr ⟨[.sh (.int (n : Nat)), .ow (.list (B.map wd)), .sh (wd lot), jk t3, jk t4, jk t5, .un, .un, .un], (C, v'), [.sh (.int (n : Nat)), .ow (.list (C.map wd)), .sh v', .sh (.int ((lmax B lot : Nat) - 1)), .sh (.int (p : Nat)), .sh (wd (late n B lot)), .un, .un, .un], ?_, .inl ?_, ⟨wC, sC.trans wC.len h.len sB, t', by show C.length ≤ _; omega, _, _, _, rfl⟩, lt⟩
      · walk_at "ex"
      · unfold b_gone_down_2b
        walk_at "ex"
        rw [gd_pos (leLim (by omega)), filV_map (em := fun k => PyData.int (k : Nat)) (fun i => PyData.int (((wl (B.getD i []) : Nat) : Int) - 1))]
        rotate_left
        · intro k hk
          have hk' := lo.lt k hk
          obtain ⟨b1, b2, b3⟩ := wB.at hk'
          walk_at "ex"
          rw [at_wds hk']
          walk_at "ex"
          rw [F_word_degree_eq (fun z => by rw [z] at b1; simp at b1; omega) (by omega)]
          walk_at "ex"
        walk_at "ex"
        rw [biV_max_lot lo.ne]
        walk_at "ex"
        rw [gd_pos (leLim (by omega)), filV_filter (em := fun k => PyData.int (k : Nat)) (fun k => wl (B.getD k []) == lmax B lot) fun k => PyData.int (k : Nat)]
        rotate_left
        · intro k hk
          have hk' := lo.lt k hk
          obtain ⟨b1, b2, b3⟩ := wB.at hk'
          walk_at "ex"
          rw [at_wds hk']
          walk_at "ex"
          rw [F_word_degree_eq (fun z => by rw [z] at b1; simp at b1; omega) (by omega)]
          walk_at "ex"
          rw [deg_eq]
          cases wl (B.getD k []) == lmax B lot <;> rfl
        walk_at "ex"
        rw [ap]
        walk_at "ex"
        rw [sumE]
        walk_at "ex"
        rw [cutD_take (by omega), show lsum n (mv B (lmax B lot)) B lot = late n B lot from rfl, F_word_degree_eq (w := late n B lot) (fun z => by rw [z] at ll; simp at ll; omega) (by omega)]
        walk_at "ex"
        rw [deg_ge, show ((p : Nat) : Int) + 1 = ((p + 1 : Nat) : Int) by omega]
        have lt1 := List.length_take_le p B
        have lt2 : (B.drop (p + 1)).length ≤ B.length := by rw [List.length_drop]; omega
        by_cases z : 1 ≤ wl (late n B lot)
        · rw [if_pos z] at hC
          rw [decide_eq_true z]
          walk_at "ex"
          rw [gd_pos (leLim (by omega))]
          walk_at "ex"
          rw [cutD_drop (by omega), gd_pos (leLim (by simp only [List.length_append, List.length_cons, List.length_nil, List.length_map]; omega)), show List.map wd (B.take p) ++ [wd (late n B lot)] ++ List.map wd (B.drop (p + 1)) = C.map wd by rw [← hC]; simp]
          walk_at "ex"
          rw [e']
          walk_at "ex"
          simp only [lv']
          walk_at "ex"
        · rw [if_neg z] at hC
          rw [decide_eq_false z]
          walk_at "ex"
          rw [gd_pos (leLim (by omega))]
          walk_at "ex"
          rw [cutD_drop (by omega), gd_pos (leLim (by simp only [List.length_append, List.length_cons, List.length_nil, List.length_map]; omega)), show List.map wd (B.take p) ++ [] ++ List.map wd (B.drop (p + 1)) = C.map wd by rw [← hC]; simp]
          walk_at "ex"
          rw [e']
          walk_at "ex"
          simp only [lv']
          walk_at "ex"
end
/-! ### all lots -/
def subs : Nat → List (List Nat)
  | 0 => [[]]
  | k + 1 => subs k ++ (subs k).map (· ++ [k])
theorem subs_head : ∀ k, ∃ r, subs k = [] :: r
  | 0 => ⟨[], rfl⟩
  | k + 1 => by
    obtain ⟨r, e⟩ := subs_head k
    exact ⟨r ++ (subs k).map (· ++ [k]), by rw [subs, e]; rfl⟩
theorem subs_len : ∀ k, (subs k).length = 2 ^ k
  | 0 => rfl
  | k + 1 => by rw [subs, List.length_append, List.length_map, subs_len k, Nat.pow_succ]; omega
theorem subs_nodup_nil : ∀ k, [] ∉ (subs k).tail := fun k => by
  induction k with
  | zero => simp [subs]
  | succ k ih =>
    obtain ⟨r, e⟩ := subs_head k
    rw [e] at ih
    rw [subs, e]
    intro h
    simp only [List.cons_append, List.tail_cons, List.mem_append, List.mem_map] at h ih
    rcases h with h | ⟨a, _, q⟩
    · exact ih h
    · simp at q
theorem subs_mem : ∀ {k : Nat} {l : List Nat}, l ∈ subs k ↔ l.Pairwise (· < ·) ∧ ∀ i ∈ l, i < k
  | 0, l => by
    rw [subs, List.mem_singleton]
    constructor
    · rintro rfl; exact ⟨.nil, fun _ h => (by cases h)⟩
    · rintro ⟨_, h⟩
      cases l with
      | nil => rfl
      | cons x l => exact absurd (h x (List.mem_cons_self ..)) (by omega)
  | k + 1, l => by
    rw [subs, List.mem_append, List.mem_map]
    constructor
    · rintro (h | ⟨a, h, rfl⟩)
      · obtain ⟨h1, h2⟩ := subs_mem.mp h
        exact ⟨h1, fun i hi => by have := h2 i hi; omega⟩
      · obtain ⟨h1, h2⟩ := subs_mem.mp h
        refine ⟨List.pairwise_append.mpr ⟨h1, List.pairwise_singleton .., fun x hx y hy => by rw [List.mem_singleton.mp hy]; exact h2 x hx⟩, fun i hi => ?_⟩
        rcases List.mem_append.mp hi with h | h
        · have := h2 i h; omega
        · rw [List.mem_singleton.mp h]; omega
    · rintro ⟨h1, h2⟩
      by_cases z : k ∈ l
      · right
        obtain ⟨a, b, e⟩ := List.append_of_mem z
        subst e
        have h3 := List.pairwise_append.mp h1
        have h4 := List.pairwise_cons.mp h3.2.1
        have b0 : b = [] := by
          cases b with
          | nil => rfl
          | cons x b =>
            have u := h4.1 x (List.mem_cons_self ..)
            have v := h2 x (by simp)
            omega
        subst b0
        exact ⟨a, subs_mem.mpr ⟨h3.1, fun i hi => h3.2.2 i hi k (List.mem_cons_self ..)⟩, rfl⟩
      · left
        exact subs_mem.mpr ⟨h1, fun i hi => by have := h2 i hi; have : i ≠ k := fun e => z (by rw [← e]; exact hi); omega⟩
theorem alike_ints : ∀ a b : List Nat, PySem.W.alikeAll (nis a) (nis b) = true
  | [], [] => rfl
  | [], _ :: _ => rfl
  | _ :: _, [] => rfl
  | x :: a, y :: b => by
    have := alike_ints a b
    simp only [nis, List.map_cons] at this ⊢
    simp [PySem.W.alikeAll, PySem.W.alike, this]
theorem okSB_lots {ls : List (List Nat)} (h : ∀ l ∈ ls, l ≠ []) : okSB (ls.map wd) = true := by
  unfold okSB okMB alikeB
  have e1 : (ls.map wd).all (fun d => (ls.map wd).all fun e => PySem.W.alike d e) = true := by
    rw [List.all_eq_true]
    intro d hd
    rw [List.all_eq_true]
    intro e he
    obtain ⟨a, _, rfl⟩ := List.mem_map.mp hd
    obtain ⟨b, _, rfl⟩ := List.mem_map.mp he
    exact alike_ints a b
  have e2 : (ls.map wd).all notNon = true := by
    rw [List.all_eq_true]
    intro d hd
    obtain ⟨a, _, rfl⟩ := List.mem_map.mp hd
    rfl
  have e3 : PyData.depthAll (ls.map wd) ≤ 60 := depAll fun x hx => by
    obtain ⟨a, _, rfl⟩ := List.mem_map.mp hx
    have : dok 1 (wd a) := dok_tuple fun y hy => by obtain ⟨i, _, rfl⟩ := List.mem_map.mp hy; exact dok_int
    exact Nat.le_trans this.2 (by decide)
  have e4 : (ls.map wd).all isTup1 = true := by
    rw [List.all_eq_true]
    intro d hd
    obtain ⟨a, ha, rfl⟩ := List.mem_map.mp hd
    cases a with
    | nil => exact absurd rfl (h _ ha)
    | cons x a => rfl
  rw [e1, e2, e4, decide_eq_true e3]
  rfl
theorem sortD_lots (ls : List (List Nat)) : ∃ lots : List (List Nat), sortD (ls.map wd) = lots.map wd ∧ lots.Perm ls := by
  have hp : (sortD (ls.map wd)).Perm (ls.map wd) := List.mergeSort_perm ..
  have : ∀ (xs : List PyData) (ls : List (List Nat)), xs.Perm (ls.map wd) → ∃ lots : List (List Nat), xs = lots.map wd ∧ lots.Perm ls := by
    intro xs
    induction xs with
    | nil =>
      intro ls h
      have := h.length_eq
      cases ls with
      | nil => exact ⟨[], rfl, .nil⟩
      | cons a b => simp at this
    | cons x xs ih =>
      intro ls h
      have hx : x ∈ ls.map wd := h.mem_iff.mp (List.mem_cons_self ..)
      obtain ⟨a, ha, rfl⟩ := List.mem_map.mp hx
      have h2 := List.perm_cons_erase ha
      have h3 : (wd a :: xs).Perm (wd a :: (ls.erase a).map wd) := h.trans (h2.map wd)
      obtain ⟨lots, e, p⟩ := ih _ h3.cons_inv
      exact ⟨a :: lots, by rw [e, List.map_cons], (p.cons a).trans h2.symm⟩
  exact this _ _ hp
theorem flats_app : ∀ {xs ys : List PyData}, flats (xs ++ ys) = (flats xs && flats ys)
  | [], _ => rfl
  | x :: xs, ys => by rw [List.cons_append, flats_cons, flats_cons, flats_app, Bool.and_assoc]
theorem flats_mwd {α : Type} {f : α → List Nat} : ∀ {xs : List α}, flats (xs.map fun a => wd (f a)) = true
  | [] => rfl
  | x :: xs => by rw [List.map_cons, flats_cons, flats_mwd (xs := xs), flat_wd]; rfl
theorem cutD_tail {x : PyData} {xs : List PyData} : DL.cutD (x :: xs) (some 1) none = xs := by
  have e1 : HT.sIx (x :: xs).length 0 (some 1) = 1 := by
    unfold HT.sIx
    simp
  have e2 : HT.sIx (x :: xs).length (x :: xs).length none = (x :: xs).length := rfl
  unfold DL.cutD
  rw [e1, e2, List.drop_one, List.tail_cons, List.length_cons, Nat.add_sub_cancel, List.take_length]
theorem F__law_lots_eq {ws : List (List Nat)} {d : PyData} (hd : Wsd ws d) (few : ws.length ≤ 10) :
    ∃ lots : List (List Nat), F__law_lots [.sh d] = .ok (true, .list (lots.map wd)) ∧ lots.length ≤ 1024 ∧ ∀ l, l ∈ lots ↔ LotAsc ws.length l := by
  obtain ⟨r, hr⟩ := subs_head ws.length
  have len := subs_len ws.length
  have le : (2 : Nat) ^ ws.length ≤ 2 ^ 10 := Nat.pow_le_pow_right (by decide) few
  have nn := subs_nodup_nil ws.length
  rw [hr] at len nn
  obtain ⟨lots, e1, e2⟩ := sortD_lots r
  refine ⟨lots, ?_, by rw [e2.length_eq]; rw [List.length_cons] at len; omega, fun l => ?_⟩
  · unfold F__law_lots b__law_lots
    walk_at "ex"
    unfold b__law_lots_t1
    walk_at "ex"
    rw [len_ws hd]
    walk_at "ex"
    rw [rngOk (by omega)]
    walk_at "ex"
    refine forV_rng (R := fun r => (Res.thn _ r _).val = _) (fun i e => ∃ s u, e = [.sh d, .ow (.list ((subs i).map wd)), s, .un, u]) ⟨.un, .un, rfl⟩ ?_ ?_
    · rintro i e hi ⟨s, u, rfl⟩
      have li : (subs i).length ≤ 2 ^ 10 := by rw [subs_len]; exact Nat.pow_le_pow_right (by decide) (by omega)
      unfold b__law_lots_1b
      walk_at "ex"
      rw [gd_pos (leLim (by omega)), filV_map (em := wd) fun l => wd (l ++ [i])]
      rotate_left
      · intro l hl
        have : l.length ≤ 10 := by
          have h := subs_mem.mp hl
          have := nodup_len (xs := l) (ys := List.range 10) (h.1.imp fun {a b} z => Nat.ne_of_lt z) fun x hx => List.mem_range.mpr (by have := h.2 x hx; omega)
          rwa [List.length_range] at this
        walk_at "ex"
        rw [gd_pos (leLim (by omega))]
        walk_at "ex"
        rw [nis_app]
      walk_at "ex"
      rw [gd_pos (leLim (by omega))]
      walk_at "ex"
      rw [show flats (List.map wd (subs i) ++ List.map (fun l => wd (l ++ [i])) (subs i)) = true by rw [flats_app, flats_mwd (f := fun l => l ++ [i]), show flats (List.map wd (subs i)) = true from flats_mwd (f := fun l => l)]; rfl]
      walk_at "ex"
      exact ⟨_, rfl, _, _, by rw [subs, List.map_append, List.map_map]; rfl⟩
    · rintro e ⟨s, u, rfl⟩
      unfold b__law_lots_t2
      rw [hr]
      walk_at "ex"
      rw [cutD_tail, okSB_lots fun l hl z => nn (by rw [z] at hl; exact hl), List.length_map, gd_pos (c := true && _) (by rw [Bool.true_and]; exact leLim (by rw [List.length_cons] at len; omega)), e1]
      walk_at "ex"
  · rw [e2.mem_iff]
    have h1 : l ∈ subs ws.length ↔ l = [] ∨ l ∈ r := by rw [hr, List.mem_cons]
    constructor
    · intro h
      have h2 := subs_mem.mp (h1.mpr (.inr h))
      exact ⟨h2.1, h2.2, fun z => nn (by rw [z] at h; exact h)⟩
    · rintro ⟨a, b, c⟩
      exact (h1.mp (subs_mem.mpr ⟨a, b⟩)).resolve_left c
section
variable {n M : Nat} {ws : List (List Nat)} {d : PyData}
def tiedB (n : Nat) (B : List (List Nat)) (l : List Nat) : Bool := decide (lsum n (fun _ => 1) (B.map wlead) l = nought n)
theorem zip_erase {α : Type} (f : List Nat → α) (g : Nat) : ∀ (B : List (List Nat)) (k : Nat), ((B.zipIdx k).filter fun p => p.2 != k + g).map (fun p => f p.1) = (B.eraseIdx g).map f := by
  intro B
  induction B generalizing g with
  | nil => intro k; rfl
  | cons b B ih =>
    intro k
    rw [List.zipIdx_cons, List.filter_cons]
    cases g with
    | zero =>
      have e : (k != k + 0) = false := by simp
      rw [if_neg (by rw [e]; decide)]
      have all : ((B.zipIdx (k + 1)).filter fun p => p.2 != k + 0) = B.zipIdx (k + 1) := by
        rw [List.filter_eq_self]
        intro p hp
        have := List.le_snd_of_mem_zipIdx hp
        rw [bne_iff_ne]; omega
      rw [all, List.eraseIdx_cons_zero]
      have : (B.zipIdx (k + 1)).map (fun p => f p.1) = ((B.zipIdx (k + 1)).map Prod.fst).map f := by rw [List.map_map]; rfl
      rw [this, List.zipIdx_map_fst]
    | succ g =>
      have e : (k != k + (g + 1)) = true := by rw [bne_iff_ne]; omega
      rw [if_pos e, List.eraseIdx_cons_succ, List.map_cons, List.map_cons]
      have := ih g (k + 1)
      rw [show k + 1 + g = k + (g + 1) by omega] at this
      rw [this]
/-- the lots that are tied -/
def Lots (n : Nat) (B L : List (List Nat)) : Prop := ∀ l, l ∈ L ↔ LotAsc B.length l ∧ Tied n B l
theorem lots_filter {B lots : List (List Nat)} (h : ∀ l, l ∈ lots ↔ LotAsc B.length l) : Lots n B (lots.filter (tiedB n B)) := fun l => by
  rw [List.mem_filter, h]
  unfold tiedB Tied
  rw [decide_eq_true_eq]
theorem lots_led (h : Wds n M ws) {L : List (List Nat)} (hL : Lots n ws L) (e : L = []) : WellLed n ws := by
  refine ⟨h.pos, (indep_iff h.len).mpr fun lot lo t => ?_⟩
  have pm := List.mergeSort_perm lot fun a b => decide (a ≤ b)
  have : (lot.mergeSort fun a b => decide (a ≤ b)) ∈ L := (hL _).mpr ⟨⟨sorted_asc lo.nd, fun x hx => lo.lt x (pm.mem_iff.mp hx), fun z => lo.ne (by have := pm.length_eq; rw [z] at this; exact List.eq_nil_of_length_eq_zero this.symm)⟩, by
    unfold Tied at t ⊢
    rw [lsum_same h.len.lead lo.nd (pm.nodup_iff.mpr lo.nd) (fun x hx => by rw [List.length_map]; exact lo.lt x hx) fun x => pm.mem_iff]
    exact t⟩
  rw [e] at this
  cases this
abbrev Fld : Nat → FV := tab [(43, F__law_degree), (72, F__law_lots), (73, F__law_is_tied), (44, F__law_added), (45, F__law_word_times)]
theorem lots_comp (h : Wds n M ws) (hd : Wsd ws d) {lots : List (List Nat)} (hl : ∀ l, l ∈ lots ↔ LotAsc ws.length l) {f : PyData → Ev (Option PyData)} (hf : ∀ l ∈ lots, f (wd l) = noex (((F__law_is_tied [.sh d, .sh (wd l)]).bind fun x => tstV x.2 fun c => bif c then Ev.ok true else Ev.ok false).bind fun b => bif b then Ev.ok (some (wd l)) else Ev.ok none)) :
    filV f (lots.map wd) = .ok ((lots.filter (tiedB n ws)).map wd) := by
  refine filV_filter (tiedB n ws) wd fun l hm => ?_
  have lo := (hl l).mp hm
  rw [hf l hm, F__law_is_tied_eq h hd lo.lt lo.ne]
  walk_at "ex"
  show _ = Ev.ok (bif tiedB n ws l then _ else _)
  unfold tiedB
  cases decide (lsum n (fun _ => 1) (ws.map wlead) l = nought n) <;> rfl
theorem F__law_gone_down_ex (h : Wds0 n M ws) (hd : Wsd ws d) : ∃ B, F__law_gone_down [.sh (.int (n : Nat)), .sh d] = .ok (true, .list (B.map wd)) ∧ Down n M ws B := by
  obtain ⟨wz, sz⟩ := h.nz
  have n1 := h.n1
  have n8 := h.n8
  have M1 := h.M1
  have few := h.few
  unfold F__law_gone_down b__law_gone_down
  walk_at "ex"
  rw [seq_ws hd]
  walk_at "ex"
  rw [gd_pos (leLim (by omega)), filV_filter (em := wd) (fun w => decide (1 ≤ wl w)) wd]
  rotate_left
  · intro w hw
    have := h.len w hw
    have := h.le w hw
    walk_at "ex"
    rw [F__law_degree_eq (fun z => by subst z; simp at *; omega) (by omega) (by omega)]
    walk_at "ex"
    rw [deg_ge]
    cases decide (1 ≤ wl w) <;> rfl
  walk_at "ex"
  rw [show List.filter (fun w => decide (1 ≤ wl w)) ws = nz ws from rfl]
  obtain ⟨lots, le, ll, lm⟩ := F__law_lots_eq (.inr rfl : Wsd (nz ws) (.list ((nz ws).map wd))) (by have := wz.few; omega)
  rw [le]
  walk_at "ex"
  rw [gd_pos (leLim (by omega))]
  walk_at "ex"
  rw [lots_comp wz (.inr rfl) lm fun l hl => rfl]
  walk_at "ex"
  unfold b__law_gone_down_t2
  walk_at "ex"
  refine whlV_R (σ := List (List Nat) × List (List Nat)) (R := DownR Fld b__law_gone_down_t3 (fun xs => .list xs) true n M ws)
    (fun s e => Wds n M s.1 ∧ SameSp n s.1 ws ∧ Lots n s.1 s.2 ∧ s.1.length ≤ ws.length ∧ ∃ t2 t4 t5 t6 t7, e = [.sh (.int (n : Nat)), .ow (.list (s.1.map wd)), jk t2, .ow (.list (s.2.map wd)), jk t4, jk t5, jk t6, jk t7, .un, .un]) (fun s => wsum s.1) (s := (nz ws, lots.filter (tiedB n (nz ws)))) ⟨wz, sz, lots_filter lm, List.length_filter_le .., _, _, _, _, _, rfl⟩ ?_ ?_
  · have := wsum_le wz
    show wsum (nz ws) < fuel
    unfold fuel
    have : M * (nz ws).length ≤ 1000 * 8 := Nat.mul_le_mul M1 wz.few
    omega
  · rintro ⟨B, L⟩ e ⟨wB0, sB0, tB0, fB0, t2, t4, t5, t6, t7, rfl⟩
    have wB : Wds n M B := wB0
    have sB : SameSp n B ws := sB0
    have hL : Lots n B L := tB0
    have fB : B.length ≤ ws.length := fB0
    clear wB0 sB0 tB0 fB0
    rcases (show L = [] ∨ ∃ lot L', L = lot :: L' by cases L with
      | nil => exact .inl rfl
      | cons a b => exact .inr ⟨a, b, rfl⟩) with hLe | ⟨lot, L', hLe⟩
    · have em : (L.map wd).isEmpty = true := by rw [hLe]; rfl
      refine .inl ⟨[.sh (.int (n : Nat)), .ow (.list (B.map wd)), jk t2, .ow (.list (L.map wd)), jk t4, jk t5, jk t6, jk t7, .un, .un], ?_, B, ?_, wB, lots_led wB hL hLe, sB, fB⟩
      · walk_at "ex"
        rw [em]
        rfl
      · unfold b__law_gone_down_t3
        walk_at "ex"
    · have em : (L.map wd).isEmpty = false := by rw [hLe]; rfl
      have ea : atI (L.map wd) 0 = some (wd lot) := by
        have := at_wds (B := L) (k := 0) (by rw [hLe]; simp)
        rw [hLe] at this ⊢
        exact this
      obtain ⟨lo, ti⟩ := (hL lot).mp (by rw [hLe]; exact List.mem_cons_self ..)
      have lof : lot.length ≤ 8 := by
        have := nodup_len (ys := List.range B.length) lo.of.nd fun x hx => List.mem_range.mpr (lo.lt x hx)
        rw [List.length_range] at this
        have := wB.few
        omega
      obtain ⟨j, hj, ej⟩ := lmax_in (ws := B) lo.ne
      obtain ⟨p, ⟨hp, ep⟩, ap⟩ := filt_at (q := fun k => wl (B.getD k []) == lmax B lot) hj (by rw [ej]; simp)
      have ep : wl (B.getD p []) = lmax B lot := by simpa using ep
      have hpl := lo.lt p hp
      have ll2 : (late n B lot).length = n := lsum_len wB.len lo.lt
      have lm2 : wl (late n B lot) < lmax B lot := late_lt wB.len wB.pos lo.lt (fun i hi => lmax_ge hi) (by have := (wB.at hpl).2.1; omega) ti
      have lM : lmax B lot ≤ M := by rw [← ep]; exact (wB.at hpl).2.2
      have wy := way wB lo ti hp ep (C := B.eraseIdx p ++ (if 1 ≤ wl (late n B lot) then [late n B lot] else [])) (.refl _)
      generalize hC : B.eraseIdx p ++ (if 1 ≤ wl (late n B lot) then [late n B lot] else []) = C at wy
      obtain ⟨wC, sC, lt, len⟩ := wy
      obtain ⟨lots', le', ll', lm'⟩ := F__law_lots_eq (.inr rfl : Wsd C (.list (C.map wd))) (by have := wC.few; omega)
      have fB8 := wB.few
      have key : ∃ e2, Sms.ev Fld b__law_gone_down_2b [.sh (.int (n : Nat)), .ow (.list (B.map wd)), jk t2, .ow (.list (L.map wd)), jk t4, jk t5, jk t6, jk t7, .un, .un] = .nx e2 ∧ ∃ t2 t4 t5 t6 t7, e2 = [.sh (.int (n : Nat)), .ow (.list (C.map wd)), jk t2, .ow (.list ((lots'.filter (tiedB n C)).map wd)), jk t4, jk t5, jk t6, jk t7, .un, .un] := by
        unfold b__law_gone_down_2b
        walk_at "ex"
        rw [ea]
        walk_at "ex"
        rw [gd_pos (leLim (by omega)), filV_map (em := fun k => PyData.int (k : Nat)) (fun i => PyData.int (((wl (B.getD i []) : Nat) : Int) - 1))]
        rotate_left
        · intro k hk
          have hk' := lo.lt k hk
          obtain ⟨b1, b2, b3⟩ := wB.at hk'
          walk_at "ex"
          rw [at_wds hk']
          walk_at "ex"
          rw [F__law_degree_eq (fun z => by rw [z] at b1; simp at b1; omega) (by omega) (by omega)]
          walk_at "ex"
        walk_at "ex"
        rw [biV_max_lot lo.ne]
        walk_at "ex"
        rw [gd_nought n1 (by omega)]
        walk_at "ex"
        unfold b__law_gone_down_2_t3
        walk_at "ex"
        refine forV_lst (R := fun r => ∃ e2, Res.thn Fld r b__law_gone_down_2_t4 = .nx e2 ∧ ∃ t2 t4 t5 t6 t7, e2 = [.sh (.int (n : Nat)), .ow (.list (C.map wd)), jk t2, .ow (.list ((lots'.filter (tiedB n C)).map wd)), jk t4, jk t5, jk t6, jk t7, .un, .un])
          (fun i e => ∃ t, e = [.sh (.int (n : Nat)), .ow (.list (B.map wd)), .sh (wd lot), .ow (.list (L.map wd)), jk t, .sh (.int ((lmax B lot : Nat) - 1)), .sh (wd (lsum n (mv B (lmax B lot)) B (lot.take i))), jk t7, .un, .un]) ⟨t4, rfl⟩ ?_ ?_
        · rintro i e hil ⟨t, rfl⟩
          have hx := lo.lt _ (List.getElem_mem hil)
          obtain ⟨b1, b2, b3⟩ := wB.at hx
          have b4 := lmax_ge (ws := B) (List.getElem_mem hil)
          have l1 : ∀ j ∈ lot.take i, j < B.length := fun j hj => lo.lt j (List.mem_of_mem_take hj)
          have l2 := lsum_len (c := mv B (lmax B lot)) wB.len l1
          have nb : B.getD lot[i] [] ≠ [] := fun z => by rw [z] at b1; simp at b1; omega
          have sub : (((lmax B lot : Nat) : Int) - 1) - (((wl (B.getD lot[i] []) : Nat) : Int) - 1) = ((lmax B lot - wl (B.getD lot[i] []) : Nat) : Int) := by omega
          have mvb : bl (mv B (lmax B lot) lot[i]) ≤ 1001 := by unfold mv; rw [bl_pow]; omega
          unfold b__law_gone_down_2_3b
          walk_at "ex"
          rw [at_wds hx]
          walk_at "ex"
          rw [F__law_degree_eq nb (by omega) (by omega)]
          walk_at "ex"
          rw [sub, gd_pos (c := shlOk 1 ((lmax B lot - wl (B.getD lot[i] []) : Nat) : Int)) (shlOk_nat (x := 1) (by rw [show bl 1 = 1 from rfl]; omega))]
          walk_at "ex"
          rw [pow_cast]
          walk_at "ex"
          rw [show (2 : Nat) ^ (lmax B lot - wl (B.getD lot[i] [])) = mv B (lmax B lot) lot[i] from rfl, F__law_word_times_eq (by omega) (by omega) (by omega)]
          walk_at "ex"
          rw [F__law_added_eq (by omega)]
          walk_at "ex"
          refine ⟨_, rfl, .sh (.int (lot[i] : Nat)), ?_⟩
          rw [take_snoc hil, lsum_snoc wB.len hx l1]
          rfl
        · rintro e ⟨t, rfl⟩
          rw [List.take_length, show lsum n (mv B (lmax B lot)) B lot = late n B lot from rfl]
          unfold b__law_gone_down_2_t4
          walk_at "ex"
          rw [gd_pos (leLim (by omega)), filV_filter (em := fun k => PyData.int (k : Nat)) (fun k => wl (B.getD k []) == lmax B lot) fun k => PyData.int (k : Nat)]
          rotate_left
          · intro k hk
            have hk' := lo.lt k hk
            obtain ⟨b1, b2, b3⟩ := wB.at hk'
            walk_at "ex"
            rw [at_wds hk']
            walk_at "ex"
            rw [F__law_degree_eq (fun z => by rw [z] at b1; simp at b1; omega) (by omega) (by omega)]
            walk_at "ex"
            rw [deg_eq]
            cases wl (B.getD k []) == lmax B lot <;> rfl
          walk_at "ex"
          rw [ap]
          walk_at "ex"
          rw [enumD_map, gd_pos (leLim (by rw [List.length_map, List.length_zipIdx]; omega)), filV_filter (em := fun q : List Nat × Nat => PyData.tuple [.int (q.2 : Nat), wd q.1]) (fun q => q.2 != p) fun q => wd q.1]
          rotate_left
          · rintro ⟨w, k⟩ hk
            walk_at "ex"
            have e1 : (!(((k : Nat) : Int) == ((p : Nat) : Int))) = (k != p) := by
              by_cases z : k = p
              · subst z; simp
              · have : ((k : Nat) : Int) ≠ ((p : Nat) : Int) := by omega
                rw [bne_iff_ne.mpr z, beq_eq_false_iff_ne.mpr this]; rfl
            rw [e1]
            cases k != p <;> rfl
          have ze := zip_erase wd p B 0
          rw [Nat.zero_add] at ze
          rw [ze]
          walk_at "ex"
          rw [F__law_degree_eq (w := late n B lot) (fun z => by rw [z] at ll2; simp at ll2; omega) (by omega) (by omega)]
          walk_at "ex"
          rw [deg_ge]
          have el : (B.eraseIdx p).length ≤ B.length := by rw [List.length_eraseIdx]; split <;> omega
          by_cases z : 1 ≤ wl (late n B lot)
          · rw [if_pos z] at hC
            rw [decide_eq_true z]
            walk_at "ex"
            rw [gd_pos (by decide)]
            walk_at "ex"
            rw [gd_pos (leLim (by simp; omega)), show List.map wd (B.eraseIdx p) ++ [[wd (late n B lot)]].flatten = C.map wd by rw [← hC]; simp]
            walk_at "ex"
            rw [le']
            walk_at "ex"
            rw [gd_pos (leLim (by omega)), lots_comp wC (.inr rfl) lm' fun l hl => rfl]
            walk_at "ex"
            exact ⟨_, rfl, _, _, _, _, _, rfl⟩
          · rw [if_neg z] at hC
            rw [decide_eq_false z]
            walk_at "ex"
            rw [gd_pos (by decide)]
            walk_at "ex"
            rw [gd_pos (leLim (by simp; omega)), show List.map wd (B.eraseIdx p) ++ ([] : List (List PyData)).flatten = C.map wd by rw [← hC]; simp]
            walk_at "ex"
            rw [le']
            walk_at "ex"
            rw [gd_pos (leLim (by omega)), lots_comp wC (.inr rfl) lm' fun l hl => rfl]
            walk_at "ex"
            exact ⟨_, rfl, _, _, _, _, _, rfl⟩
      obtain ⟨e2, h1, u2, u4, u5, u6, u7, rfl⟩ := key
      refine .inr ⟨[.sh (.int (n : Nat)), .ow (.list (B.map wd)), jk t2, .ow (.list (L.map wd)), jk t4, jk t5, jk t6, jk t7, .un, .un], (C, lots'.filter (tiedB n C)), _, ?_, .inl h1, ⟨wC, sC.trans wC.len h.len sB, lots_filter lm', by show C.length ≤ _; omega, _, _, _, _, _, rfl⟩, lt⟩
      walk_at "ex"
      rw [em]
      rfl
end
theorem asc_last {k : Nat} : ∀ {l : List Nat}, l.Pairwise (· < ·) → k ∈ l → (∀ i ∈ l, i ≤ k) → ∃ l0, l = l0 ++ [k] := fun {l} h hk hl => by
  obtain ⟨a, b, rfl⟩ := List.append_of_mem hk
  have h3 := (List.pairwise_append.mp h).2.1
  cases b with
  | nil => exact ⟨a, rfl⟩
  | cons x b =>
    have u := (List.pairwise_cons.mp h3).1 x (List.mem_cons_self ..)
    have v := hl x (by simp)
    omega
theorem cutD_last {xs : List PyData} {x : PyData} : DL.cutD (xs ++ [x]) none (some (-1)) = xs := by
  unfold DL.cutD
  rw [HT.sIx_none, List.drop_zero, Nat.sub_zero]
  have e : HT.sIx (xs ++ [x]).length (xs ++ [x]).length (some (-1)) = xs.length := by
    unfold HT.sIx
    simp
    omega
  rw [e]
  simp
theorem deg_le {a b : Nat} : decide ((((a : Nat) : Int) - 1) ≤ (((b : Nat) : Int) - 1)) = decide (a ≤ b) := by rw [decide_eq_decide]; omega
section
variable {n M : Nat} {B : List (List Nat)} {d : PyData}
theorem F__law_is_of_eq (h : Wds n M B) (led : WellLed n B) (hd : Wsd B d) (few : B.length ≤ 7) {w : List Nat} (hw : InSp n B w) (wM : wl w ≤ M) : F__law_is_of [.sh d, .sh (wd w)] = .ok (false, .bool true) := by
  have n1 := h.n1
  have n8 := h.n8
  have M1 := h.M1
  unfold F__law_is_of b__law_is_of
  walk_at "ex"
  refine whlV_R (σ := List Nat) (R := fun r => (Res.thn _ r _).val = _)
    (fun s e => InSp n B s ∧ wl s ≤ M ∧ ∃ t2 t3 t4 t5, e = [.sh d, .sh (wd s), jk t2, jk t3, jk t4, jk t5, .un, .un, .un]) (fun s => wl s) (s := w) ⟨hw, wM, _, _, _, _, rfl⟩ (by unfold fuel; omega) ?_
  rintro w e ⟨hw, wM, t2, t3, t4, t5, rfl⟩
  have wn := hw.len h.len
  have nb : w ≠ [] := fun z => by rw [z] at wn; simp at wn; omega
  have dg := F__law_degree_eq nb (by omega) (by omega)
  by_cases w1 : 1 ≤ wl w
  · right
    obtain ⟨lot1, la, lin, lt1⟩ := found_lot h.len led hw w1
    generalize hF : (B.filter fun b => decide (wl b ≤ wl w)) = F at la lin lt1
    have memF : ∀ i, i < F.length → F.getD i [] ∈ B ∧ wl (F.getD i []) ≤ wl w := fun i hi => by
      have := getD_mem hi
      rw [← hF] at this ⊢
      obtain ⟨x1, x2⟩ := List.mem_filter.mp this
      exact ⟨x1, of_decide_eq_true x2⟩
    have fF : F.length ≤ B.length := by rw [← hF]; exact List.length_filter_le ..
    have wF : Wds n M (F ++ [w]) := ⟨n1, n8, M1, fun x hx => by
      rcases List.mem_append.mp hx with q | q
      · rw [← hF] at q; exact h.len x (List.mem_filter.mp q).1
      · rw [List.mem_singleton.mp q]; exact wn, fun x hx => by
      rcases List.mem_append.mp hx with q | q
      · rw [← hF] at q; exact h.pos x (List.mem_filter.mp q).1
      · rw [List.mem_singleton.mp q]; exact w1, fun x hx => by
      rcases List.mem_append.mp hx with q | q
      · rw [← hF] at q; exact h.le x (List.mem_filter.mp q).1
      · rw [List.mem_singleton.mp q]; exact wM, by rw [List.length_append]; simp only [List.length_cons, List.length_nil]; omega⟩
    have lenS : (F ++ [w]).length = F.length + 1 := by simp
    obtain ⟨lots, le, ll, lm⟩ := F__law_lots_eq (.inr rfl : Wsd (F ++ [w]) (.list ((F ++ [w]).map wd))) (by have := wF.few; omega)
    have key : ∃ e2, Sms.ev Fld b__law_is_of_0b [.sh d, .sh (wd w), jk t2, jk t3, jk t4, jk t5, .un, .un, .un] = .nx e2 ∧ ∃ s, InSp n B s ∧ wl s < wl w ∧ ∃ t2 t3 t4 t5, e2 = [.sh d, .sh (wd s), jk t2, jk t3, jk t4, jk t5, .un, .un, .un] := by
      unfold b__law_is_of_0b
      walk_at "ex"
      rw [seq_ws hd]
      walk_at "ex"
      rw [gd_pos (leLim (by omega)), filV_filter (em := wd) (fun b => decide (wl b ≤ wl w)) wd]
      rotate_left
      · intro b hb
        have b1 := h.len b hb
        have b3 := h.le b hb
        walk_at "ex"
        rw [F__law_degree_eq (w := b) (fun z => by rw [z] at b1; simp at b1; omega) (by omega) (by omega)]
        walk_at "ex"
        rw [dg]
        walk_at "ex"
        rw [deg_le]
        cases decide (wl b ≤ wl w) <;> rfl
      rw [hF]
      walk_at "ex"
      rw [gd_pos (leLim (by omega)), show List.map wd F ++ [wd w] = (F ++ [w]).map wd by simp]
      walk_at "ex"
      rw [le]
      walk_at "ex"
      rw [gd_pos (leLim (by omega)), filV_filter (em := wd) (fun l => l.contains F.length && tiedB n (F ++ [w]) l) wd]
      rotate_left
      · intro l hl
        have lo := (lm l).mp hl
        walk_at "ex"
        simp only [any_nis]
        walk_at "ex"
        cases l.contains F.length with
        | false => rfl
        | true =>
          walk_at "ex"
          rw [F__law_is_tied_eq wF (.inr rfl) lo.lt lo.ne]
          walk_at "ex"
          show _ = Ev.ok (bif tiedB n (F ++ [w]) l then _ else _)
          unfold tiedB
          cases decide (lsum n (fun _ => 1) ((F ++ [w]).map wlead) l = nought n) <;> rfl
      walk_at "ex"
      have hm : lot1 ∈ lots.filter (fun l => l.contains F.length && tiedB n (F ++ [w]) l) := List.mem_filter.mpr ⟨(lm _).mpr (by rw [lenS]; exact la), by
        rw [Bool.and_eq_true]
        exact ⟨by simpa using lin, by unfold tiedB; exact decide_eq_true lt1⟩⟩
      have hq : ∀ l ∈ lots.filter (fun l => l.contains F.length && tiedB n (F ++ [w]) l), LotAsc (F.length + 1) l ∧ F.length ∈ l ∧ Tied n (F ++ [w]) l := fun l hl => by
        obtain ⟨x1, x2⟩ := List.mem_filter.mp hl
        rw [Bool.and_eq_true] at x2
        exact ⟨by rw [← lenS]; exact (lm l).mp x1, by simpa using x2.1, by have := x2.2; exact of_decide_eq_true (p := lsum n (fun _ => 1) ((F ++ [w]).map wlead) l = nought n) this⟩
      generalize lots.filter (fun l => l.contains F.length && tiedB n (F ++ [w]) l) = L at hm hq ⊢
      obtain ⟨lot, L', hLe⟩ : ∃ lot L', L = lot :: L' := by cases L with
        | nil => cases hm
        | cons a b => exact ⟨a, b, rfl⟩
      have em : (L.map wd).isEmpty = false := by rw [hLe]; rfl
      have ea : atI (L.map wd) 0 = some (wd lot) := by
        have := at_wds (B := L) (k := 0) (by rw [hLe]; simp)
        rw [hLe] at this ⊢
        exact this
      obtain ⟨lo, kin, ti⟩ := hq lot (by rw [hLe]; exact List.mem_cons_self ..)
      obtain ⟨l0, hl0⟩ := asc_last lo.asc kin fun i hi => by have := lo.lt i hi; omega
      have l0lt : ∀ i ∈ l0, i < F.length := fun i hi => by
        have h1 := lo.asc
        rw [hl0] at h1
        exact (List.pairwise_append.mp h1).2.2 i hi _ (List.mem_singleton_self _)
      have gF : ∀ i, i < F.length → (F ++ [w]).getD i [] = F.getD i [] := fun i hi => by
        rw [List.getD_eq_getElem?_getD, List.getD_eq_getElem?_getD, List.getElem?_append_left hi]
      have gw : (F ++ [w]).getD F.length [] = w := by
        rw [List.getD_eq_getElem?_getD, List.getElem?_append_right (Nat.le_refl _)]
        simp
      rw [em]
      walk_at "ex"
      rw [dg]
      walk_at "ex"
      unfold b__law_is_of_0_t4
      walk_at "ex"
      rw [ea]
      walk_at "ex"
      rw [hl0, ← nis_app, cutD_last, show flats (nis l0) = true from flats_nis]
      walk_at "ex"
      refine forV_lst (R := fun r => ∃ e2, Res.thn Fld r .nil = .nx e2 ∧ ∃ s, InSp n B s ∧ wl s < wl w ∧ ∃ t2 t3 t4 t5, e2 = [.sh d, .sh (wd s), jk t2, jk t3, jk t4, jk t5, .un, .un, .un])
        (fun i e => ∃ t5, e = [.sh d, .sh (wd (W.wadd w (lsum n (mv (F ++ [w]) (wl w)) (F ++ [w]) (l0.take i)))), .ow (.list (F.map wd)), .ow (.list (L.map wd)), .sh (.int ((wl w : Nat) - 1)), jk t5, .un, .un, .un]) ⟨t5, ?_⟩ ?_ ?_
      · rw [List.take_zero]
        rw [show lsum n (mv (F ++ [w]) (wl w)) (F ++ [w]) [] = nought n from rfl, wadd_nought wn]
      · rintro i e hil ⟨t, rfl⟩
        have hx := l0lt _ (List.getElem_mem hil)
        have hxS : l0[i] < (F ++ [w]).length := by omega
        obtain ⟨b1, b2, b3⟩ := wF.at hxS
        rw [gF _ hx] at b1 b2 b3
        have b4 := (memF _ hx).2
        have l1 : ∀ j ∈ l0.take i, j < (F ++ [w]).length := fun j hj => by have := l0lt j (List.mem_of_mem_take hj); omega
        have l2 := lsum_len (c := mv (F ++ [w]) (wl w)) wF.len l1
        have nb2 : F.getD l0[i] [] ≠ [] := fun z => by rw [z] at b1; simp at b1; omega
        have sub : (((wl w : Nat) : Int) - 1) - (((wl (F.getD l0[i] []) : Nat) : Int) - 1) = ((wl w - wl (F.getD l0[i] []) : Nat) : Int) := by omega
        have mvb : bl (2 ^ (wl w - wl (F.getD l0[i] []))) ≤ 1001 := by rw [bl_pow]; omega
        unfold b__law_is_of_0_4b
        walk_at "ex"
        rw [at_wds hx]
        walk_at "ex"
        rw [F__law_degree_eq nb2 (by omega) (by omega)]
        walk_at "ex"
        rw [sub, gd_pos (c := shlOk 1 ((wl w - wl (F.getD l0[i] []) : Nat) : Int)) (shlOk_nat (x := 1) (by rw [show bl 1 = 1 from rfl]; omega))]
        walk_at "ex"
        rw [pow_cast]
        walk_at "ex"
        rw [F__law_word_times_eq (by omega) (by omega) (by omega)]
        walk_at "ex"
        rw [F__law_added_eq (by rw [wadd_len]; omega)]
        walk_at "ex"
        refine ⟨_, rfl, .sh (.int (l0[i] : Nat)), ?_⟩
        rw [take_snoc hil, lsum_snoc wF.len hxS l1, ← wadd_assoc, gF _ hx]
        unfold mv
        rw [gF _ hx]
        rfl
      · rintro e ⟨t, rfl⟩
        rw [List.take_length]
        have lx : lmax (F ++ [w]) lot = wl w := by
          apply Nat.le_antisymm
          · obtain ⟨i, hi, q⟩ := lmax_in (ws := F ++ [w]) lo.ne
            rw [← q]
            rcases Nat.lt_or_ge i F.length with g | g
            · rw [gF i g]
              exact (memF i g).2
            · have : i = F.length := by have := lo.lt i hi; omega
              rw [this, gw]
              exact Nat.le_refl _
          · have := lmax_ge (ws := F ++ [w]) kin
            rw [gw] at this
            exact this
        have lateE : late n (F ++ [w]) lot = W.wadd w (lsum n (mv (F ++ [w]) (wl w)) (F ++ [w]) l0) := by
          unfold late
          rw [lx, hl0, lsum_snoc wF.len (by omega) fun j hj => by have := l0lt j hj; omega, gw, wadd_comm]
          congr 1
          unfold mv
          rw [gw, Nat.sub_self]
          exact wtms_one
        have lt := late_lt (most := lmax (F ++ [w]) lot) wF.len wF.pos (by rw [lenS]; exact lo.lt) (fun i hi => lmax_ge hi) (by omega) ti
        refine ⟨_, Res.thn_nx .., W.wadd w (lsum n (mv (F ++ [w]) (wl w)) (F ++ [w]) l0), ?_, ?_, .ow (.list (F.map wd)), .ow (.list (L.map wd)), .sh (.int ((wl w : Nat) - 1)), t, by walk_at "ex"; rfl⟩
        · refine hw.sum h.len (lsum_in h.len fun i hi => ?_)
          have hx := l0lt i hi
          rw [gF i hx]
          exact .base h.len (memF i hx).1
        · rw [← lateE]
          unfold late
          omega
    obtain ⟨e2, h1, s, h2, h3, u2, u3, u4, u5, rfl⟩ := key
    refine ⟨[.sh d, .sh (wd w), jk t2, jk t3, jk t4, jk t5, .un, .un, .un], s, _, ?_, .inl h1, ⟨h2, by omega, _, _, _, _, rfl⟩, h3⟩
    walk_at "ex"
    rw [dg]
    walk_at "ex"
    rw [deg_ge, decide_eq_true w1]
  · left
    refine ⟨[.sh d, .sh (wd w), jk t2, jk t3, jk t4, jk t5, .un, .un, .un], ?_, ?_⟩
    · walk_at "ex"
      rw [dg]
      walk_at "ex"
      rw [deg_ge, decide_eq_false w1]
    · unfold b__law_is_of_t1
      walk_at "ex"
end
theorem any_wds {l : List Nat} : ∀ {L : List (List Nat)}, (L.map wd).any (fun z => PyData.eqv z (wd l)) = L.contains l
  | [] => rfl
  | m :: L => by
    rw [List.map_cons, List.any_cons, any_wds (L := L), List.contains_cons]
    congr 1
    rw [show PyData.eqv (wd m) (wd l) = decide (m = l) from eqv_tupleM (em := fun n : Nat => PyData.int (n : Nat)) eqv_nat m l]
    by_cases z : m = l
    · subst z; simp
    · rw [decide_eq_false z]
      exact (beq_eq_false_iff_ne.mpr fun e => z e.symm).symm
theorem mx_zip : ∀ {ps : List Nat} {ws : List (List Nat)}, mx ps ws = maxf (fun q : Nat × List Nat => bl q.1 + wl q.2 - 1) ((ps.zip ws).filter fun q => decide (0 < q.1))
  | [], _ => rfl
  | p :: ps, [] => rfl
  | p :: ps, w :: ws => by
    have ih := mx_zip (ps := ps) (ws := ws)
    show max (if p = 0 then 0 else bl p + wl w - 1) (mx ps ws) = _
    rw [List.zip_cons_cons, List.filter_cons, ih]
    by_cases z : p = 0
    · subst z
      rw [if_pos rfl, if_neg (by simp), Nat.zero_max]
    · rw [if_neg z, if_pos (by simp; omega)]
      rfl
section
variable {n M : Nat} {ws : List (List Nat)} {d : PyData}
theorem zip_csel (c : Nat → Nat) (lot : List Nat) : ∀ (ws : List (List Nat)) (k : Nat), (ws.zipIdx k).map (fun q => if q.2 ∈ lot then c q.2 else 0) = (List.range' k ws.length).map fun i => if i ∈ lot then c i else 0
  | [], _ => rfl
  | w :: ws, k => by
    rw [List.zipIdx_cons, List.map_cons, zip_csel c lot ws (k + 1), List.length_cons, List.range'_succ, List.map_cons]
theorem at_wdsT {B : List (List Nat)} {k : Nat} (h : k < B.length) : atI (B.map wd) (k : Nat) = some (wd (B.getD k [])) := at_wds h
theorem sh_ints {α : Type} {f : α → Int} {L : List α} : SeqAt.shaped (.list (L.map fun q => PyData.int (f q))) = true := shaped_of (k := 1) (dok_list fun y hy => by obtain ⟨i, _, rfl⟩ := List.mem_map.mp hy; exact dok_int) (by decide)
theorem flats_ints {α : Type} {f : α → Int} : ∀ {L : List α}, flats (L.map fun q => PyData.int (f q)) = true
  | [] => rfl
  | x :: L => by rw [List.map_cons, flats_cons, flats_ints (L := L)]; rfl
theorem F__law_lot_right_wq (h : Wds n M ws) (ne : ws ≠ []) : (F__law_lot_right [.src, .sh (.int (n : Nat)), .sh (.tuple (ws.map wd))]).wq (fun v => v = (false, .bool true)) No := by
  have n1 := h.n1
  have n8 := h.n8
  have M1 := h.M1
  have few := h.few
  obtain ⟨v, e0, t0⟩ := F_tied_lot_ex h (.inl rfl : Wsd ws (.tuple (ws.map wd)))
  obtain ⟨lots, le, ll, lm⟩ := F__law_lots_eq (.inl rfl : Wsd ws (.tuple (ws.map wd))) (by omega)
  have hL := lots_filter (n := n) lm
  have hle := List.length_filter_le (tiedB n ws) lots
  unfold F__law_lot_right b__law_lot_right
  walk_at "ex"
  rw [e0]
  walk_at "ex"
  rw [le]
  walk_at "ex"
  rw [gd_pos (leLim (by omega)), lots_comp h (.inl rfl) lm fun l hl => rfl]
  walk_at "ex"
  unfold b__law_lot_right_t1
  walk_at "ex"
  generalize lots.filter (tiedB n ws) = L at hL hle
  rcases t0 with ⟨rfl, ind⟩ | ⟨lot, rfl, lo, ti⟩
  · have eL : L = [] := by
      cases L with
      | nil => rfl
      | cons a b =>
        obtain ⟨x1, x2⟩ := (hL a).mp (List.mem_cons_self ..)
        exact absurd x2 ((indep_iff h.len).mp ind a x1.of)
    subst eL
    walk_at "ex"
    rw [show ([] : List PyData).isEmpty = true from rfl]
    walk_at "ex"
    unfold b__law_lot_right_1x_t1
    walk_at "ex"
    rw [gd_pos (by decide)]
    walk_at "ex"
    walk_at "down"
    refine forQ (fun i e => ∃ t5 t6 t7, e = [.src, .sh (.int (n : Nat)), .sh (.tuple (ws.map wd)), .sh .none, .ow (.list []), jk t5, jk t6, jk t7, .un, .un, .un, .un, .un, .un]) ⟨.un, .un, .un, rfl⟩ ?_ ?_
    · rintro i x e hx ⟨t5, t6, t7, rfl⟩
      obtain ⟨hi, rfl⟩ := intsD_get hx
      walk_at "ex"
      unfold b__law_lot_right_1x_1b
      walk_at "ex"
      rw [gd_pos (leLim (by omega))]
      walk_at "ex"
      walk_at "down"
      refine filQ (fun j acc => ∃ a, acc = nis a ∧ a.length = j ∧ ∀ y ∈ a, bl y ≤ 9) ?_ (acc := []) ⟨[], rfl, rfl, by simp⟩ ?_
      · rintro j x acc hx2 ⟨a, rfl, hla, ha⟩
        walk_at "ex"
        refine pkQ 9 rfl (by decide) (lt1000 (by decide)) fun d2 hd2 => ?_
        rw [show (1 : Int) + (d2 : Nat) = ((1 + d2 : Nat) : Int) by omega, gd_pos (c := shlOk 1 ((1 + d2 : Nat) : Int)) (shlOk_nat (x := 1) (by rw [show bl 1 = 1 from rfl]; omega))]
        walk_at "ex"
        rw [pow_cast]
        refine pkQ _ rfl (Nat.one_le_two_pow) (Nat.pow_lt_pow_right (by decide) (by omega)) fun y hy => ?_
        walk_at "ex"
        exact ⟨a ++ [y], nis_app, by simp [hla], fun z hz => by
          rcases List.mem_append.mp hz with z1 | z1
          · exact ha z z1
          · rw [List.mem_singleton.mp z1]
            exact bl_le.mpr (Nat.lt_of_lt_of_le hy (Nat.pow_le_pow_right (by decide) (by omega)))⟩
      · rintro L ⟨ps, rfl, hpl, hps⟩
        rw [List.length_map] at hpl
        have zl : (ps.zip ws).length ≤ ws.length := by rw [List.length_zip]; omega
        walk_at "ex"
        rw [zipD_map, List.length_map, gd_pos (leLim (by omega)), filV_filter (em := fun q : Nat × List Nat => PyData.tuple [.int (q.1 : Nat), wd q.2]) (fun q => decide (0 < q.1)) fun q => PyData.int (((bl q.1 + wl q.2 - 1 : Nat) : Int) - 1)]
        rotate_left
        · rintro ⟨p, w⟩ hq
          have hw := (List.of_mem_zip hq).2
          have hp := hps p (List.of_mem_zip hq).1
          have w1 := h.len w hw
          have w2 := h.le w hw
          have w3 := h.pos w hw
          walk_at "ex"
          by_cases z : p = 0
          · subst z; rfl
          · have p1 := bl_pos z
            rw [decide_eq_true (show (0 : Int) < (p : Nat) by omega), decide_eq_true (show 0 < p by omega)]
            walk_at "ex"
            rw [F__law_length_eq (by omega)]
            walk_at "ex"
            rw [F__law_degree_eq (fun z => by rw [z] at w1; simp at w1; omega) (by omega) (by omega)]
            walk_at "ex"
            rw [show ((bl p : Nat) : Int) - 1 + (((wl w : Nat) : Int) - 1) = ((bl p + wl w - 1 : Nat) : Int) - 1 by omega]
        walk_at "ex"
        rw [flats_ints]
        walk_at "ex"
        rw [sh_ints]
        walk_at "ex"
        have mz := mx_zip (ps := ps) (ws := ws)
        have hok : WsOk n ws := fun w hw => ⟨h.len w hw, by have := h.le w hw; omega⟩
        have cE := F__law_combined_eq n1 (by omega) (ps := ps) (fun p hp => by have := hps p hp; omega) hok (.inl rfl) (.inr rfl)
        have cl : (wcomb n ps ws).length = n := by rw [wcomb_eq h.len]; exact wc_len h.len
        have cw : wl (wcomb n ps ws) = mx ps ws := by rw [wcomb_eq h.len]; exact wl_wc h.len ⟨h.pos, ind⟩ hpl
        have mb : mx ps ws ≤ 2000 := by
          rw [← cw]
          exact Nat.le_trans (wl_wcomb (k := 1009) fun q hq => by
            have h1 := hps _ (List.of_mem_zip hq).1
            have h2 := h.le _ (List.of_mem_zip hq).2
            omega) (by omega)
        have dE := F__law_degree_eq (w := wcomb n ps ws) (fun z => by rw [z] at cl; simp at cl; omega) (by omega) (by omega)
        rw [cw] at dE
        generalize (ps.zip ws).filter (fun q => decide (0 < q.1)) = LL at mz ⊢
        by_cases hne : LL = []
        · subst hne
          rw [show (List.map (fun q : Nat × List Nat => PyData.int (((bl q.1 + wl q.2 - 1 : Nat) : Int) - 1)) []).isEmpty = true from rfl]
          walk_at "ex"
          exact ⟨_, _, _, rfl⟩
        · rw [show (LL.map fun q : Nat × List Nat => PyData.int (((bl q.1 + wl q.2 - 1 : Nat) : Int) - 1)).isEmpty = false by
            cases LL with
            | nil => exact absurd rfl hne
            | cons a b => rfl]
          walk_at "ex"
          rw [cE]
          walk_at "ex"
          rw [dE]
          walk_at "ex"
          rw [biV_max_gen (fun q : Nat × List Nat => bl q.1 + wl q.2 - 1) hne]
          walk_at "ex"
          rw [mz, beq_self_eq_true]
          walk_at "ex"
          exact ⟨_, _, _, rfl⟩
    · rintro e ⟨t5, t6, t7, rfl⟩
      unfold b__law_lot_right_1x_t2
      walk_at "ex"
  · have lof : lot.length ≤ 8 := by
      have := nodup_len (ys := List.range ws.length) lo.of.nd fun x hx => List.mem_range.mpr (lo.lt x hx)
      rw [List.length_range] at this
      omega
    have inL : L.contains lot = true := by
      have := (hL lot).mpr ⟨lo, ti⟩
      simpa using this
    walk_at "ex"
    unfold b__law_lot_right_t2
    walk_at "ex"
    simp only [any_wds, inL]
    walk_at "ex"
    rw [gd_pos (leLim (by omega)), filV_map (em := fun k => PyData.int (k : Nat)) (fun i => PyData.int (((wl (ws.getD i []) : Nat) : Int) - 1))]
    rotate_left
    · intro k hk
      have hk' := lo.lt k hk
      obtain ⟨b1, b2, b3⟩ := h.at hk'
      walk_at "ex"
      rw [at_wdsT hk']
      walk_at "ex"
      rw [F__law_degree_eq (fun z => by rw [z] at b1; simp at b1; omega) (by omega) (by omega)]
      walk_at "ex"
    walk_at "ex"
    rw [biV_max_lot lo.ne]
    walk_at "ex"
    rw [enumD_map, gd_pos (leLim (by rw [List.length_map, List.length_zipIdx]; omega)), filV_map (em := fun q : List Nat × Nat => PyData.tuple [.int (q.2 : Nat), wd q.1]) (fun q => PyData.int ((if q.2 ∈ lot then mv ws (lmax ws lot) q.2 else 0 : Nat) : Int))]
    rotate_left
    · rintro ⟨w, k⟩ hq
      walk_at "ex"
      simp only [any_nis]
      walk_at "ex"
      have hw := List.mem_zipIdx_iff_getElem?.mp hq
      have hw : ws[k]? = some w := hw
      obtain ⟨kl, ew⟩ := List.getElem?_eq_some_iff.mp hw
      obtain ⟨b1, b2, b3⟩ := h.at kl
      have gw : ws.getD k [] = w := by rw [← getD_get kl]; exact ew
      rw [gw] at b1 b2 b3
      by_cases z : k ∈ lot
      · have b4 := lmax_ge (ws := ws) z
        rw [gw] at b4
        have lM : lmax ws lot ≤ M := by
          obtain ⟨j, hj, q⟩ := lmax_in (ws := ws) lo.ne
          rw [← q]
          exact (h.at (lo.lt j hj)).2.2
        rw [show lot.contains k = true by simpa using z, if_pos z]
        walk_at "ex"
        rw [F__law_degree_eq (fun z => by rw [z] at b1; simp at b1; omega) (by omega) (by omega)]
        walk_at "ex"
        rw [show (((lmax ws lot : Nat) : Int) - 1) - (((wl w : Nat) : Int) - 1) = ((lmax ws lot - wl w : Nat) : Int) by omega, gd_pos (c := shlOk 1 ((lmax ws lot - wl w : Nat) : Int)) (shlOk_nat (x := 1) (by rw [show bl 1 = 1 from rfl]; omega))]
        walk_at "ex"
        rw [pow_cast]
        unfold mv
        rw [gw]
      · rw [show lot.contains k = false by simpa using z, if_neg z]
        walk_at "ex"
    walk_at "ex"
    have ec : List.map (fun q : List Nat × Nat => PyData.int ((if q.2 ∈ lot then mv ws (lmax ws lot) q.2 else 0 : Nat) : Int)) ws.zipIdx = nis (csel ws.length (mv ws (lmax ws lot)) lot) := by
      have := zip_csel (mv ws (lmax ws lot)) lot ws 0
      unfold csel
      rw [List.range_eq_range', ← this, nis, List.map_map]
      rfl
    have lM : lmax ws lot ≤ M := by
      obtain ⟨j, hj, q⟩ := lmax_in (ws := ws) lo.ne
      rw [← q]
      exact (h.at (lo.lt j hj)).2.2
    have hps : ∀ p ∈ csel ws.length (mv ws (lmax ws lot)) lot, bl p ≤ 1001 := fun p hp => by
      obtain ⟨i, _, rfl⟩ := List.mem_map.mp hp
      split
      · unfold mv; rw [bl_pow]; omega
      · rw [bl_zero]; omega
    have hok : WsOk n ws := fun w hw => ⟨h.len w hw, by have := h.le w hw; omega⟩
    have cE := F__law_combined_eq n1 (by omega) (ps := csel ws.length (mv ws (lmax ws lot)) lot) (fun p hp => by have := hps p hp; omega) hok (.inl rfl) (.inr rfl)
    rw [ec, cE]
    walk_at "ex"
    have eqL : wcomb n (csel ws.length (mv ws (lmax ws lot)) lot) ws = late n ws lot := by
      rw [wcomb_eq h.len, wc_csel h.len lo.of.nd lo.lt]
      rfl
    have ll2 : (late n ws lot).length = n := lsum_len h.len lo.lt
    obtain ⟨j, hj, q⟩ := lmax_in (ws := ws) lo.ne
    have m1 : 1 ≤ lmax ws lot := by rw [← q]; exact (h.at (lo.lt j hj)).2.1
    have lm2 : wl (late n ws lot) < lmax ws lot := late_lt h.len h.pos lo.lt (fun i hi => lmax_ge hi) m1 ti
    rw [eqL, F__law_degree_eq (w := late n ws lot) (fun z => by rw [z] at ll2; simp at ll2; omega) (by omega) (by omega)]
    walk_at "ex"
    rw [decide_eq_true (show (((wl (late n ws lot) : Nat) : Int) - 1) < (((lmax ws lot : Nat) : Int) - 1) by omega)]
    walk_at "ex"
end
/-! K4: the law itself. -/
def bl_law_0_t10 : Sms := (.cons (.ite (.or_ (.cmp .ne (.bi .repr (.cons (.call 15 (.cons (.var 3) (.cons (.var 5) .nil))) .nil)) (.bi .repr (.cons (.var 8) .nil))) (.cmp .ne (.bi .repr (.cons (.var 5) .nil)) (.var 7))) (.cons (.ret (.lit (.bool false))) .nil) .nil) .nil)
def bl_law_0_t9 : Sms := (.cons (.ite (.cmp .ne (.comp (.lit (.int 1)) (.nm 11) (.seq (.var 5)) (.cons (.not_ (.call 75 (.cons (.bi .list (.cons (.var 8) .nil)) (.cons (.var 11) .nil)))) .nil) [10, 11]) (.lst .nil)) (.cons (.ret (.lit (.bool false))) .nil) .nil) bl_law_0_t10)
def bl_law_0_t8 : Sms := (.cons (.ite (.cmp .ne (.comp (.lit (.int 1)) (.nm 11) (.seq (.var 8)) (.cons (.not_ (.call 75 (.cons (.var 9) (.cons (.var 11) .nil)))) .nil) [10, 11]) (.lst .nil)) (.cons (.ret (.lit (.bool false))) .nil) .nil) bl_law_0_t9)
def bl_law_0_t7 : Sms := (.cons (.ite (.cmp .ne (.comp (.var 12) (.nm 12) (.seq (.call 72 (.cons (.var 8) .nil))) (.cons (.call 73 (.cons (.var 8) (.cons (.var 12) .nil))) .nil) [10, 12]) (.lst .nil)) (.cons (.ret (.lit (.bool false))) .nil) .nil) bl_law_0_t8)
def bl_law_0_t6 : Sms := (.cons (.ite (.cmp .ne (.bi .sorted (.cons (.comp (.call 43 (.cons (.var 11) .nil)) (.nm 11) (.seq (.var 8)) .nil [10, 11]) .nil)) (.bi .sorted (.cons (.comp (.call 43 (.cons (.var 11) .nil)) (.nm 11) (.seq (.var 9)) .nil [10, 11]) .nil))) (.cons (.ret (.lit (.bool false))) .nil) .nil) bl_law_0_t7)
def bl_law_0_t5 : Sms := (.cons (.ite (.or_ (.not_ (.isa (.var 8) .tup)) (.cmp .ne (.comp (.lit (.int 1)) (.nm 11) (.seq (.var 8)) (.cons (.or_ (.cmp .ne (.bi .len (.cons (.var 11) .nil)) (.var 3)) (.cmp .lt (.call 43 (.cons (.var 11) .nil)) (.lit (.int 0)))) .nil) [10, 11]) (.lst .nil))) (.cons (.ret (.lit (.bool false))) .nil) .nil) bl_law_0_t6)
def bl_law_0_t4 : Sms := (.cons (.par [8, 9] (.cons (.call 15 (.cons (.var 3) (.cons (.var 5) .nil))) (.cons (.call 74 (.cons (.var 3) (.cons (.var 5) .nil))) .nil))) bl_law_0_t5)
def bl_law_0_t3 : Sms := (.cons (.ite (.and_ (.cmp .ne (.var 6) (.tup .nil)) (.not_ (.call 76 (.cons (.var 1) (.cons (.var 3) (.cons (.var 6) .nil)))))) (.cons (.ret (.lit (.bool false))) .nil) .nil) bl_law_0_t4)
def bl_law_0b : Sms := (.cons (.par [3, 4] (.cons (.bin .add (.lit (.int 1)) (.call 1 (.cons (.var 1) (.cons (.lit (.int 4)) .nil)))) (.cons (.ix (.lst (.cons (.lit (.int 1)) (.cons (.lit (.int 2)) (.cons (.lit (.int 4)) (.cons (.lit (.int 12)) (.cons (.lit (.int 6)) .nil)))))) (.var 2)) .nil))) (.cons (.asg (.nm 5) (.call 49 (.cons (.var 1) (.cons (.var 3) (.cons (.call 2 (.cons (.var 1) (.cons (.lst (.cons (.lit (.int 1)) (.cons (.lit (.int 2)) (.cons (.lit (.int 2)) (.cons (.lit (.int 3)) (.cons (.lit (.int 4)) .nil)))))) .nil))) (.cons (.var 4) .nil)))))) (.cons (.par [6, 7] (.cons (.bi .tuple (.cons (.comp (.var 11) (.nm 11) (.seq (.var 5)) (.cons (.cmp .ge (.call 43 (.cons (.var 11) .nil)) (.lit (.int 0))) .nil) [10, 11]) .nil)) (.cons (.bi .repr (.cons (.var 5) .nil)) .nil))) bl_law_0_t3)))
def bl_law_t1 : Sms := (.cons (.asg (.nm 8) (.lst (.cons (.call 13 (.cons (.tup (.cons (.tup (.cons (.lit (.int 3)) (.cons (.lit (.int 2)) .nil))) (.cons (.tup (.cons (.lit (.int 1)) (.cons (.lit (.int 1)) .nil))) .nil))) .nil)) (.cons (.call 13 (.cons (.tup (.cons (.tup (.cons (.lit (.int 7)) (.cons (.lit (.int 5)) .nil))) .nil)) .nil)) (.cons (.call 15 (.cons (.lit (.int 2)) (.cons (.tup .nil) .nil))) (.cons (.call 15 (.cons (.lit (.int 1)) (.cons (.tup (.cons (.tup (.cons (.lit (.int 0)) .nil)) .nil)) .nil))) .nil)))))) (.cons (.ret (.cmp .eq (.bi .repr (.cons (.var 8) .nil)) (.bi .repr (.cons (.lst (.cons (.tup (.cons (.lit (.int 0)) (.cons (.lit (.int 1)) .nil))) (.cons (.lit .none) (.cons (.tup .nil) (.cons (.tup .nil) .nil))))) .nil)))) .nil))
def bl_law : Sms := (.cons (.for_ (.nm 2) (.range1 (.lit (.int 5))) bl_law_0b) bl_law_t1)
def Flaw : Nat → FV := tab [(1, F_pick), (49, F__law_words), (2, F__law_of), (43, F__law_degree), (76, F__law_lot_right), (15, F_gone_down), (74, F__law_gone_down), (72, F__law_lots), (73, F__law_is_tied), (75, F__law_is_of), (13, F_tied_lot)]

local macro_rules | `(tactic| walk_at "ex") => `(tactic| try simp only [Sms.ev_cons, Sms.ev_nil, Ex_ev_var, Ex_ev_lit, Ex_ev_tup, Ex_ev_lst, Ex_ev_bin, Ex_ev_neg, Ex_ev_cmp, Ex_ev_cmp2, Ex_ev_and_, Ex_ev_or_, Ex_ev_not_, Ex_ev_ite, Ex_ev_call, Ex_ev_bi, Ex_ev_mth, Ex_ev_ix, Ex_ev_slc, Ex_ev_isa, Ex_ev_rev, Ex_ev_dic0, Ex_ev_comp, Exo_ev_no, Exo_ev_so, Exs_ev_nil, Exs_ev_cons, Exs_evt_nil, Exs_evt_cons, It_ev_seq, It_ev_range1, It_ev_range2, It_ev_enum, It_ev_zips, It_ev_zip, Exs_evf_nil, Exs_evf_cons, Sm_ev_asg_nm, Sm_ev_asg_tp, Sm_ev_par, Sm_ev_aug, Sm_ev_app, Sm_ev_setx, Sm_ev_ite, Sm_ev_for_, Sm_ev_whl, Sm_ev_retn, Sm_ev_brk, Sm_ev_cnt, Sm_ev_pass, Sm_ev_expr, Sm_ev_ret_lit, Sm_ev_ret_tup, Sm_ev_ret_lst, Sm_ev_ret_bin, Sm_ev_ret_neg, Sm_ev_ret_cmp, Sm_ev_ret_cmp2, Sm_ev_ret_and_, Sm_ev_ret_or_, Sm_ev_ret_not_, Sm_ev_ret_ite, Sm_ev_ret_call, Sm_ev_ret_bi, Sm_ev_ret_mth, Sm_ev_ret_ix, Sm_ev_ret_slc, Sm_ev_ret_isa, Sm_ev_ret_rev, Sm_ev_ret_dic0, Sm_ev_ret_comp, Ex.tst, Ev.ok_bind, Ev.ex_bind, Ev.bad_bind, evk_ok, evk_ex, evk_bad, Res.thn_nx, Res.thn_rt, Res.thn_bk, Res.thn_ct, Res.thn_ex, Res.thn_bad, gd_true, gdR_true, optV_some, optR_some, intV_int, seqV_list, seqV_tuple, lstV_list, twoV_list, twoV_tuple, tstV_bool, noex_ok, tab_cons, aft_eq, frz_eq, frzL_nil, frzL_un, frzL_sh, frzL_src, frzL_ow, memN_nil, memN_cons, leafy_int, leafy_bool, leafy_str, leafy_none, leafy_tuple, leafy_list, leafy_dict, flats_nil, flats_cons, flat_int, flat_bool, flat_str, flat_none, flat_tuple, flat_list, put_true, put_false, putAll_nil, putAll_cons, bv_nm, bv_tp, bv_nil, bv_cons, intO_int, wipeE, Ex.vs, Exs.vs, Exo.vs, It.vs, cond_true, cond_false, Bool.cond_self, Option.bind_some, Bool.true_and, Bool.and_true, Bool.false_or, Bool.or_false, Bool.true_or, Bool.or_true, Bool.false_and, Bool.and_false, Bool.not_true, Bool.not_false, decide_true, decide_false, reduceIte, List.map_cons, List.map_nil, List.cons_append, List.nil_append, List.replicate, List.length_cons, List.length_nil, Nat.reduceAdd, Nat.reduceSub, Nat.reduceEqDiff, Nat.reduceBEq, List.set_cons_succ, List.set_cons_zero, List.length_map, Nat.zero_add, evDef_eq, val_rt, val_nx, val_ex, Sm_ev_ext, Sm_ev_augx, Sm_ev_ret_v, binV_addI, binV_addS, binV_addL, binV_addT, binV_subI, binV_mulI, binV_mulT, binV_mulL, binV_fdivI, binV_modI, binV_powI, binV_shlI, binV_shrI, binV_bandI, binV_borI, binV_bxorI, augV_add, augV_sub, augV_band, augV_bor, augV_bxor, augV_mul, augV_fdiv, augV_mod, augV_shl, augV_shr, cmpV_eqI, cmpV_neI, cmpV_lt, cmpV_le, cmpV_gt, cmpV_ge, cmpV_eqIS, cmpV_neIS, cmpV_eqIB, cmpV_neIB, cmpV_eqIN, cmpV_neIN, cmpV_eqIL, cmpV_neIL, cmpV_eqIT, cmpV_neIT, cmpV_eqID, cmpV_neID, cmpV_eqSI, cmpV_neSI, cmpV_eqSS, cmpV_neSS, cmpV_eqSB, cmpV_neSB, cmpV_eqSN, cmpV_neSN, cmpV_eqSL, cmpV_neSL, cmpV_eqST, cmpV_neST, cmpV_eqSD, cmpV_neSD, cmpV_eqBI, cmpV_neBI, cmpV_eqBS, cmpV_neBS, cmpV_eqBB, cmpV_neBB, cmpV_eqBN, cmpV_neBN, cmpV_eqBL, cmpV_neBL, cmpV_eqBT, cmpV_neBT, cmpV_eqBD, cmpV_neBD, cmpV_eqNI, cmpV_neNI, cmpV_eqNS, cmpV_neNS, cmpV_eqNB, cmpV_neNB, cmpV_eqNN, cmpV_neNN, cmpV_eqNL, cmpV_neNL, cmpV_eqNT, cmpV_neNT, cmpV_eqND, cmpV_neND, cmpV_eqLI, cmpV_neLI, cmpV_eqLS, cmpV_neLS, cmpV_eqLB, cmpV_neLB, cmpV_eqLN, cmpV_neLN, cmpV_eqLL, cmpV_neLL, cmpV_eqLT, cmpV_neLT, cmpV_eqLD, cmpV_neLD, cmpV_eqTI, cmpV_neTI, cmpV_eqTS, cmpV_neTS, cmpV_eqTB, cmpV_neTB, cmpV_eqTN, cmpV_neTN, cmpV_eqTL, cmpV_neTL, cmpV_eqTT, cmpV_neTT, cmpV_eqTD, cmpV_neTD, cmpV_eqDI, cmpV_neDI, cmpV_eqDS, cmpV_neDS, cmpV_eqDB, cmpV_neDB, cmpV_eqDN, cmpV_neDN, cmpV_eqDL, cmpV_neDL, cmpV_eqDT, cmpV_neDT, cmpV_eqDD, cmpV_neDD, cmpV_isI, cmpV_inLItrue, cmpV_inTItrue, cmpV_inDItrue, cmpV_inLIfalse, cmpV_inTIfalse, cmpV_inDIfalse, cmpV_isS, cmpV_inLStrue, cmpV_inTStrue, cmpV_inDStrue, cmpV_inLSfalse, cmpV_inTSfalse, cmpV_inDSfalse, cmpV_isB, cmpV_inLBtrue, cmpV_inTBtrue, cmpV_inLBfalse, cmpV_inTBfalse, cmpV_isN, cmpV_inLNtrue, cmpV_inTNtrue, cmpV_inLNfalse, cmpV_inTNfalse, cmpV_isL, cmpV_inLLtrue, cmpV_inTLtrue, cmpV_inLLfalse, cmpV_inTLfalse, cmpV_isT, cmpV_inLTtrue, cmpV_inTTtrue, cmpV_inLTfalse, cmpV_inTTfalse, cmpV_isD, cmpV_inLDtrue, cmpV_inTDtrue, cmpV_inLDfalse, cmpV_inTDfalse, biV_lenL, biV_lenT, biV_lenS, biV_abs, biV_max2, biV_min2, biV_intI, biV_intB, biV_tuple_list, biV_tuple_tuple, biV_list_list, biV_list_tuple, biV_max_list, biV_max_tuple, biV_min_list, biV_min_tuple, biV_repr, biV_all, biV_any, biV_sorted, biV_sum, mtT_bits, mtT_indexL, mtT_indexT, mtT_get, mtV_bits, mtV_indexL, mtV_indexT, mtV_get1, mtV_get2, keyFor_int, keyFor_str, keyPut_int, keyPut_str, ixV_L, ixV_T, ixV_D, slV_L, slV_T, revV_L, revV_T, tstV_int, tstV_none, tstV_list, tstV_tuple, lstO_list, slot_sh, slot_ow, slot_succ, intAt_sh, intAt_succ, ownL_ow, ownL_succ, ownS_owL, ownS_owD, ownS_succ, retS_sh, retS_ow, retS_succ, leN_0, leN_1, leN_2, leN_3, leN_4, leN_5, leN_6, leN_7, leN_8, leN_9, leN_10, leN_11, leN_12, Int.toNat_natCast, Int.zero_add, Exs_eva_nil, Exs_eva_var, Exs_eva_lit, Exs_eva_tup, Exs_eva_lst, Exs_eva_bin, Exs_eva_neg, Exs_eva_cmp, Exs_eva_cmp2, Exs_eva_and_, Exs_eva_or_, Exs_eva_not_, Exs_eva_ite, Exs_eva_call, Exs_eva_bi, Exs_eva_mth, Exs_eva_ix, Exs_eva_slc, Exs_eva_isa, Exs_eva_rev, Exs_eva_dic0, Exs_eva_comp, Ev.pk_bind, evk_pk, noex_pk, Res.thn_pk, wp_nx, wp_rt, wp_ct, wp_bk, Ev.wp_ok, val_pk, F_pick_eq, slotA_sh, slotA_ow, slotA_src, slotA_succ, cnd_t, cnd_f, cnd_ex, cnd_pk, stepV_eq, sh_int, sh_bool, sh_none, sh_nilL, sh_nilT, eqv_nilL, eqv_nilT, frzL_jk, Bool.not_not, Bool.and_self, Int.reduceBEq, Int.reduceLT, Int.reduceLE, Int.reduceAdd, Int.reduceSub, Int.reduceNeg, Int.reduceMul, is_isInt_I, is_isInt_S, is_isInt_B, is_isInt_N, is_isInt_L, is_isInt_T, is_isInt_D, is_isBool_I, is_isBool_S, is_isBool_B, is_isBool_N, is_isBool_L, is_isBool_T, is_isBool_D, is_isTuple_I, is_isTuple_S, is_isTuple_B, is_isTuple_N, is_isTuple_L, is_isTuple_T, is_isTuple_D, is_isStr_I, is_isStr_S, is_isStr_B, is_isStr_N, is_isStr_L, is_isStr_T, is_isStr_D, is_isList_I, is_isList_S, is_isList_B, is_isList_N, is_isList_L, is_isList_T, is_isList_D, is_isDict_I, is_isDict_S, is_isDict_B, is_isDict_N, is_isDict_L, is_isDict_T, is_isDict_D, cast_0, cast_1, cast_2, cast_3, cast_4, cast_5, cast_6, cast_7, cast_8, cast_9, cast_10, cast_11, cast_12, cast_13, cast_14, cast_15, cast_16, cast_17, cast_18, cast_19, leN_13, leN_14, leN_15, leN_16, leN_17, leN_18, leN_19, leN_20, leN_21, leN_22, leN_23, toNat_0, toNat_1, toNat_2, toNat_3, toNat_4, toNat_5, toNat_6, toNat_7, toNat_8, toNat_9, toNat_10, toNat_11, toNat_12, toNat_13, toNat_14, toNat_15, toNat_16, toNat_17, toNat_18, toNat_19, toNat_20, toNat_21, toNat_22, toNat_23, toNat_24, toNat_25, toNat_26, toNat_27, toNat_28, toNat_29, toNat_30, toNat_31, toNat_32, toNat_33, toNat_34, toNat_35, toNat_36, toNat_37, toNat_38, toNat_39, toNat_40, wq_nx, wq_rt, wq_ct, wq_bk, Ev.wq_ok, Ev.wq_ex, wq_ex, Sm_ev_asx, slO_sh, slO_ow, slO_succ, twoV_listT, twoV_tupleL, Bool.false_eq_true, okv, okn, isaD, flats_nis, sh_wd, sh_wds, sh_wdsT, flat_wd, flats_wds, sh_ones, eqv_self, sh_ints, flats_ints])
structure Hyp4 (n : Nat) (ws T B : List (List Nat)) : Prop where
  wds : Wds0 n 13 ws
  few : ws.length ≤ 4
  t : Down n 13 ws T
  b : Down n 13 ws B
  ft : F_gone_down [.sh (.int (n : Nat)), .sh (.tuple (ws.map wd))] = .ok (false, .tuple (T.map wd))
def LapI4 (e : DL.Env) : Prop := ∃ t2 t3 t4 t5 t6 t7 t8 t9, e = [.un, .src, jk t2, jk t3, jk t4, jk t5, jk t6, jk t7, jk t8, jk t9, .un, .un, .un]
theorem w8 {n : Nat} {ws : List (List Nat)} (h : Wds0 n 13 ws) : ∀ w ∈ ws, w.length ≤ 8 ∧ wl w ≤ 62 := fun w hw => by
  have h1 := h.len w hw
  have h2 := h.le w hw
  have h3 := h.n8
  omega
theorem nofilt {α β : Type} {f : α → β} : ∀ {xs : List α}, List.map f (xs.filter fun _ => false) = []
  | [] => rfl
  | x :: xs => nofilt (xs := xs)
theorem emp : ([] : List PyData).isEmpty = true := rfl
theorem last4 {n most lap : Nat} {ws T B : List (List Nat)} (H : Hyp4 n ws T B) {u2 u4 u6 : Sl} {kp : Str} (hkp : (PyData.tuple (ws.map wd)).shown = kp) {k : Kp} (hk : ∀ e, LapI4 e → k.nx e) :
    (bl_law_0_t10.ev Flaw [.un, .src, jk u2, .sh (.int (n : Nat)), jk u4, .sh (.tuple (ws.map wd)), jk u6, .sh (.str kp), .sh (.tuple (T.map wd)), .ow (.list (B.map wd)), .un, .un, .un]).wq k := by
  obtain ⟨h, few, t, b, ft⟩ := H
  have rw1 := rok_wds (by have := h.few; omega) (w8 h)
  have rt1 : rok 5 26503 (.tuple (T.map wd)) := rok_wds t.wds.few fun w hw => by
    have h1 := t.wds.len w hw
    have h2 := t.wds.le w hw
    have h3 := t.wds.n8
    omega
  have g1 := okRB_of rw1 (by decide) (by decide)
  have g2 := sh_shown rw1
  have g3 := okRB_of rt1 (by decide) (by decide)
  have g4 := sh_shown rt1
  rw [hkp] at g2
  unfold bl_law_0_t10 Flaw
  walk_at "ex"
  iterate 4 (try simp only [ft, g1, g2, g3, g4, hkp]; walk_at "ex")
  exact hk _ ⟨_, _, _, _, _, _, _, _, rfl⟩
theorem of4 {n most lap : Nat} {ws T B : List (List Nat)} (H : Hyp4 n ws T B) {u2 u4 u6 : Sl} {kp : Str} (hkp : (PyData.tuple (ws.map wd)).shown = kp) {k : Kp} (hk : ∀ e, LapI4 e → k.nx e) :
    (bl_law_0_t8.ev Flaw [.un, .src, jk u2, .sh (.int (n : Nat)), jk u4, .sh (.tuple (ws.map wd)), jk u6, .sh (.str kp), .sh (.tuple (T.map wd)), .ow (.list (B.map wd)), .un, .un, .un]).wq k := by
  obtain ⟨h, few, t, b, ft⟩ := id H
  have ftl := t.few
  have fbl := b.few
  unfold bl_law_0_t8
  conv => arg 1; arg 1; unfold Flaw
  walk_at "ex"
  rw [gd_pos (leLim (by omega)), filV_filter (em := wd) (fun _ => false) fun _ => .int 1]
  rotate_left
  · intro w hw
    have e := F__law_is_of_eq b.wds b.led (.inr rfl) (by omega) ((t.same.1 w hw).trans b.wds.len b.same.2) (t.wds.le w hw)
    walk_at "ex"
    rw [e]
    walk_at "ex"
  walk_at "ex"
  rw [nofilt, emp]
  walk_at "ex"
  unfold bl_law_0_t9
  walk_at "ex"
  rw [gd_pos (leLim (by omega)), filV_filter (em := wd) (fun _ => false) fun _ => .int 1]
  rotate_left
  · intro w hw
    have e := F__law_is_of_eq t.wds t.led (.inr rfl) (by omega) (t.same.2 w hw) (h.le w hw)
    walk_at "ex"
    rw [e]
    walk_at "ex"
  walk_at "ex"
  rw [nofilt, emp]
  walk_at "ex"
  exact last4 (most := most) (lap := lap) H hkp hk
theorem dle_ints {xs : List Int} : sortD (xs.map PyData.int) = (xs.mergeSort fun a b => decide (a ≤ b)).map PyData.int := by
  unfold sortD
  rw [List.map_mergeSort (s := PySem.W.dataLe false _root_.id)]
  intro a _ b _
  rw [dle_int]
theorem sort_same {xs ys : List Int} (h : xs.Perm ys) : sortD (xs.map PyData.int) = sortD (ys.map PyData.int) := by
  rw [dle_ints, dle_ints]
  congr 1
  have tr : ∀ a b c : Int, decide (a ≤ b) = true → decide (b ≤ c) = true → decide (a ≤ c) = true := fun a b c h1 h2 => by simp at *; omega
  have to : ∀ a b : Int, (decide (a ≤ b) || decide (b ≤ a)) = true := fun a b => by simp; omega
  exact List.Perm.eq_of_pairwise (le := fun a b => decide (a ≤ b) = true) (fun a b _ _ h1 h2 => by simp at h1 h2; omega) (List.pairwise_mergeSort tr to xs) (List.pairwise_mergeSort tr to ys) (((List.mergeSort_perm ..).trans h).trans (List.mergeSort_perm ..).symm)
theorem eqv_ints (a b : Int) : PyData.eqv (.int a) (.int b) = decide (a = b) := by
  show (a == b) = decide (a = b)
  by_cases z : a = b
  · subst z; simp
  · rw [decide_eq_false z, beq_eq_false_iff_ne.mpr z]
theorem okS_f {α : Type} {f : α → Int} {L : List α} : okSB (L.map fun q => PyData.int (f q)) = true := by
  have := okSB_ints (L.map f)
  rwa [List.map_map] at this
theorem sh_intsE {S : List Int} : SeqAt.shaped (.list (S.map PyData.int)) = true := sh_ints (f := fun q => q)
theorem eqv_intsE {S : List Int} : PyData.eqv (.list (S.map PyData.int)) (.list (S.map PyData.int)) = true := by
  rw [eqv_listM eqv_ints, decide_eq_true rfl]
theorem deg4 {n most lap : Nat} {ws T B : List (List Nat)} (H : Hyp4 n ws T B) {u2 u4 u6 : Sl} {kp : Str} (hkp : (PyData.tuple (ws.map wd)).shown = kp) {k : Kp} (hk : ∀ e, LapI4 e → k.nx e) :
    (bl_law_0_t5.ev Flaw [.un, .src, jk u2, .sh (.int (n : Nat)), jk u4, .sh (.tuple (ws.map wd)), jk u6, .sh (.str kp), .sh (.tuple (T.map wd)), .ow (.list (B.map wd)), .un, .un, .un]).wq k := by
  obtain ⟨h, few, t, b, ft⟩ := id H
  have ftl := t.few
  have fbl := b.few
  have n8 := h.n8
  have n1 := h.n1
  have dT : ∀ w ∈ T, w.length = n ∧ F__law_degree [.sh (wd w)] = .ok (false, .int ((wl w : Nat) - 1)) := fun w hw => by
    have h1 := t.wds.len w hw
    have h2 := t.wds.le w hw
    exact ⟨h1, F__law_degree_eq (fun z => by rw [z] at h1; simp at h1; omega) (by omega) (by omega)⟩
  have dB : ∀ w ∈ B, F__law_degree [.sh (wd w)] = .ok (false, .int ((wl w : Nat) - 1)) := fun w hw => by
    have h1 := b.wds.len w hw
    have h2 := b.wds.le w hw
    exact F__law_degree_eq (fun z => by rw [z] at h1; simp at h1; omega) (by omega) (by omega)
  unfold bl_law_0_t5
  conv => arg 1; arg 1; unfold Flaw
  walk_at "ex"
  rw [gd_pos (leLim (by omega)), filV_filter (em := wd) (fun _ => false) fun _ => .int 1]
  rotate_left
  · intro w hw
    obtain ⟨e1, e2⟩ := dT w hw
    have h3 := t.wds.pos w hw
    walk_at "ex"
    rw [e1, e2]
    walk_at "ex"
    rw [beq_self_eq_true, decide_eq_false (show ¬ (((wl w : Nat) : Int) - 1 < 0) by omega)]
    walk_at "ex"
  walk_at "ex"
  rw [nofilt, emp]
  walk_at "ex"
  unfold bl_law_0_t6
  walk_at "ex"
  rw [gd_pos (leLim (by omega)), filV_map (em := wd) fun w => .int (((wl w : Nat) : Int) - 1)]
  rotate_left
  · intro w hw
    walk_at "ex"
    rw [(dT w hw).2]
    walk_at "ex"
  walk_at "ex"
  rw [okS_f, gd_pos (c := true && _) (by rw [Bool.true_and]; exact leLim (by omega))]
  walk_at "ex"
  rw [gd_pos (leLim (by omega)), filV_map (em := wd) fun w => .int (((wl w : Nat) : Int) - 1)]
  rotate_left
  · intro w hw
    walk_at "ex"
    rw [dB w hw]
    walk_at "ex"
  walk_at "ex"
  rw [okS_f, gd_pos (c := true && _) (by rw [Bool.true_and]; exact leLim (by omega))]
  walk_at "ex"
  have pm : (T.map fun w => ((wl w : Nat) : Int) - 1).Perm (B.map fun w => ((wl w : Nat) : Int) - 1) := by
    have := degs_perm t.wds.len b.wds.len t.led b.led (fun w hw => (t.same.1 w hw).trans b.wds.len b.same.2) (fun w hw => (b.same.1 w hw).trans t.wds.len t.same.2)
    have := this.map fun d : Nat => ((d : Nat) : Int) - 1
    rwa [List.map_map, List.map_map] at this
  have es : sortD (T.map fun w => PyData.int (((wl w : Nat) : Int) - 1)) = sortD (B.map fun w => PyData.int (((wl w : Nat) : Int) - 1)) := by
    have := sort_same pm
    rwa [List.map_map, List.map_map] at this
  have eb : sortD (B.map fun w => PyData.int (((wl w : Nat) : Int) - 1)) = ((B.map fun w => ((wl w : Nat) : Int) - 1).mergeSort fun a b => decide (a ≤ b)).map PyData.int := by
    rw [← dle_ints, List.map_map]
    rfl
  rw [es, eb]
  generalize (B.map fun w => ((wl w : Nat) : Int) - 1).mergeSort (fun a b => decide (a ≤ b)) = S
  simp only [sh_intsE, eqv_intsE]
  walk_at "ex"
  unfold bl_law_0_t7
  walk_at "ex"
  obtain ⟨lots, le, ll, lm⟩ := F__law_lots_eq (.inl rfl : Wsd T (.tuple (T.map wd))) (by have := t.wds.few; omega)
  rw [le]
  walk_at "ex"
  rw [gd_pos (leLim (by omega)), lots_comp t.wds (.inl rfl) lm fun l hl => rfl]
  walk_at "ex"
  have eL : lots.filter (tiedB n T) = [] := by
    have hL := lots_filter (n := n) lm
    generalize lots.filter (tiedB n T) = L at hL ⊢
    cases L with
    | nil => rfl
    | cons a b =>
      obtain ⟨x1, x2⟩ := (hL a).mp (List.mem_cons_self ..)
      exact absurd x2 ((indep_iff t.wds.len).mp t.led.2 a x1.of)
  rw [eL, List.map_nil, emp]
  walk_at "ex"
  exact of4 (most := most) (lap := lap) H hkp hk
theorem down4 {n most lap : Nat} {ws : List (List Nat)} (h : Wds0 n 13 ws) (few : ws.length ≤ 4) {u2 u4 u6 u8 u9 u12 : Sl} {kp : Str} (hkp : (PyData.tuple (ws.map wd)).shown = kp) {k : Kp} (hk : ∀ e, LapI4 e → k.nx e) :
    (bl_law_0_t4.ev Flaw [.un, .src, jk u2, .sh (.int (n : Nat)), jk u4, .sh (.tuple (ws.map wd)), jk u6, .sh (.str kp), jk u8, jk u9, .un, .un, .un]).wq k := by
  obtain ⟨T, e1, t⟩ := F_gone_down_ex h (.inl rfl : Wsd ws (.tuple (ws.map wd)))
  obtain ⟨B, e2, b⟩ := F__law_gone_down_ex h (.inl rfl : Wsd ws (.tuple (ws.map wd)))
  unfold bl_law_0_t4
  conv => arg 1; arg 1; unfold Flaw
  walk_at "ex"
  rw [e1]
  walk_at "ex"
  rw [e2]
  walk_at "ex"
  exact deg4 (most := most) (lap := lap) ⟨h, few, t, b, e1⟩ hkp hk
theorem right4 {n most lap : Nat} {ws : List (List Nat)} (h : Wds0 n 13 ws) (few : ws.length ≤ 4) {u2 u4 u8 u9 u12 : Sl} {kp : Str} (hkp : (PyData.tuple (ws.map wd)).shown = kp) {k : Kp} (hk : ∀ e, LapI4 e → k.nx e) :
    (bl_law_0_t3.ev Flaw [.un, .src, jk u2, .sh (.int (n : Nat)), jk u4, .sh (.tuple (ws.map wd)), .sh (.tuple ((nz ws).map wd)), .sh (.str kp), jk u8, jk u9, .un, .un, .un]).wq k := by
  obtain ⟨wz, sz⟩ := h.nz
  unfold bl_law_0_t3
  conv => arg 1; arg 1; unfold Flaw
  walk_at "ex"
  by_cases hne : nz ws = []
  · rw [show ((nz ws).map wd).isEmpty = true by rw [hne]; rfl]
    walk_at "ex"
    exact down4 (most := most) (lap := lap) (u6 := .sh (.tuple ((nz ws).map wd))) (u12 := .un) h few hkp hk
  · rw [show ((nz ws).map wd).isEmpty = false by
      cases hz : nz ws with
      | nil => exact absurd hz hne
      | cons a b => rfl]
    walk_at "ex"
    walk_at "down"
    refine (F__law_lot_right_wq wz hne).no ?_
    rintro _ rfl
    walk_at "ex"
    exact down4 (most := most) (lap := lap) (u6 := .sh (.tuple ((nz ws).map wd))) (u12 := .un) h few hkp hk
theorem lap4 {lap : Nat} (hi : lap < 5) {t3 t4 t5 t6 t7 t8 t9 : Sl} {k : Kp} (hk : ∀ e, LapI4 e → k.nx e) :
    (bl_law_0b.ev Flaw [.un, .src, .sh (.int lap), jk t3, jk t4, jk t5, jk t6, jk t7, jk t8, jk t9, .un, .un, .un]).wq k := by
  unfold bl_law_0b
  conv => arg 1; arg 1; unfold Flaw
  walk_at "ex"
  walk_at "down"
  refine pkRQ 4 rfl (by decide) (lt1000 (by decide)) fun n0 hn0 => ?_
  obtain ⟨most, em, hm⟩ : ∃ most : Nat, atI [PyData.int 1, PyData.int 2, PyData.int 4, PyData.int 12, PyData.int 6] (lap : Int) = some (.int (most : Nat)) ∧ most ≤ 12 := by
    match lap, hi with
    | 0, _ => exact ⟨1, rfl, by decide⟩
    | 1, _ => exact ⟨2, rfl, by decide⟩
    | 2, _ => exact ⟨4, rfl, by decide⟩
    | 3, _ => exact ⟨12, rfl, by decide⟩
    | 4, _ => exact ⟨6, rfl, by decide⟩
  obtain ⟨n, en, n1, n4⟩ : ∃ n : Nat, (1 : Int) + (n0 : Nat) = (n : Nat) ∧ 1 ≤ n ∧ n ≤ 4 := ⟨1 + n0, by omega, by omega, by omega⟩
  rw [em, en]
  walk_at "ex"
  walk_at "down"
  refine (F__law_of_wp (by simp) (by simp)).no ?_
  rintro _ ⟨dm, hdm, rfl⟩
  obtain ⟨many, em2, hm2⟩ : ∃ many : Nat, dm = .int (many : Nat) ∧ many ≤ 4 := by
    simp only [List.mem_cons, List.not_mem_nil, or_false] at hdm
    rcases hdm with rfl | rfl | rfl | rfl | rfl
    · exact ⟨1, rfl, by decide⟩
    · exact ⟨2, rfl, by decide⟩
    · exact ⟨2, rfl, by decide⟩
    · exact ⟨3, rfl, by decide⟩
    · exact ⟨4, rfl, by decide⟩
  subst em2
  walk_at "ex"
  walk_at "down"
  refine (F__law_words_wp n1 (by omega) (by omega) (by omega)).no ?_
  rintro _ ⟨ws, ⟨wl1, wl2⟩, rfl⟩
  have h : Wds0 n 13 ws := ⟨n1, by omega, by omega, fun w hw => (wl2 w hw).1, fun w hw => by have := (wl2 w hw).2; omega, by omega⟩
  have rw1 := rok_wds (by have := h.few; omega) (w8 h)
  have g1 := okRB_of rw1 (by decide) (by decide)
  walk_at "ex"
  rw [gd_pos (leLim (by omega)), filV_filter (em := wd) (fun w => decide (1 ≤ wl w)) wd]
  rotate_left
  · intro w hw
    have h1 := h.len w hw
    have h2 := h.le w hw
    walk_at "ex"
    rw [F__law_degree_eq (fun z => by rw [z] at h1; simp at h1; omega) (by omega) (by omega)]
    walk_at "ex"
    rw [deg_ge]
    cases decide (1 ≤ wl w) <;> rfl
  walk_at "ex"
  rw [show List.filter (fun w => decide (1 ≤ wl w)) ws = nz ws from rfl, g1]
  walk_at "ex"
  exact right4 (most := most) (lap := lap) (u12 := .un) h (by omega) rfl hk
theorem asc2 {lot : List Nat} (h : LotAsc 2 lot) : lot = [0] ∨ lot = [1] ∨ lot = [0, 1] := by
  obtain ⟨asc, lt, ne⟩ := h
  match lot, asc, lt, ne with
  | [], _, _, ne => exact absurd rfl ne
  | [a], _, lt, _ =>
    have := lt a (by simp)
    rcases (by omega : a = 0 ∨ a = 1) with rfl | rfl
    · exact .inl rfl
    · exact .inr (.inl rfl)
  | [a, b], asc, lt, _ =>
    have h1 := lt a (by simp)
    have h2 := lt b (by simp)
    have h3 := (List.pairwise_cons.mp asc).1 b (by simp)
    obtain ⟨rfl, rfl⟩ : a = 0 ∧ b = 1 := by omega
    exact .inr (.inr rfl)
  | a :: b :: c :: r, asc, lt, _ =>
    have h1 := lt c (by simp)
    have h2 := (List.pairwise_cons.mp asc).1 b (by simp)
    have h3 := (List.pairwise_cons.mp (List.pairwise_cons.mp asc).2).1 c (by simp)
    omega
theorem asc1 {lot : List Nat} (h : LotAsc 1 lot) : lot = [0] := by
  obtain ⟨asc, lt, ne⟩ := h
  match lot, asc, lt, ne with
  | [], _, _, ne => exact absurd rfl ne
  | [a], _, lt, _ =>
    have := lt a (by simp)
    obtain rfl : a = 0 := by omega
    rfl
  | a :: b :: r, asc, lt, _ =>
    have h1 := lt b (by simp)
    have h2 := (List.pairwise_cons.mp asc).1 b (by simp)
    omega
theorem told1 : F_tied_lot [.sh (.tuple [.tuple [.int 3, .int 2], .tuple [.int 1, .int 1]])] = .ok (false, .tuple [.int 0, .int 1]) := by
  have h : Wds 2 13 [[3, 2], [1, 1]] := ⟨by decide, by decide, by decide, by unfold Lens; decide, by decide, by decide, by decide⟩
  obtain ⟨v, e, t⟩ := F_tied_lot_ex h (.inl rfl : Wsd _ (.tuple ([[3, 2], [1, 1]].map wd)))
  refine (show F_tied_lot [.sh (.tuple [.tuple [.int 3, .int 2], .tuple [.int 1, .int 1]])] = _ from e).trans ?_
  rcases t with ⟨_, ind⟩ | ⟨lot, rfl, lo, t⟩
  · exact absurd (ind [1, 1] rfl (by decide) (by decide) 1 (by simp)) (by decide)
  · rcases asc2 lo with rfl | rfl | rfl
    · exact absurd t (by unfold Tied; decide)
    · exact absurd t (by unfold Tied; decide)
    · rfl
theorem told2 : F_tied_lot [.sh (.tuple [.tuple [.int 7, .int 5]])] = .ok (false, .none) := by
  have h : Wds 2 13 [[7, 5]] := ⟨by decide, by decide, by decide, by unfold Lens; decide, by decide, by decide, by decide⟩
  obtain ⟨v, e, t⟩ := F_tied_lot_ex h (.inl rfl : Wsd _ (.tuple ([[7, 5]].map wd)))
  refine (show F_tied_lot [.sh (.tuple [.tuple [.int 7, .int 5]])] = _ from e).trans ?_
  rcases t with ⟨rfl, _⟩ | ⟨lot, rfl, lo, t⟩
  · rfl
  · rw [asc1 lo] at t
    exact absurd t (by unfold Tied; decide)
theorem told3 : F_gone_down [.sh (.int 2), .sh (.tuple [])] = .ok (false, .tuple []) := by
  have h : Wds0 2 13 [] := ⟨by decide, by decide, by decide, by unfold Lens; decide, by decide, by decide⟩
  obtain ⟨B, e, d⟩ := F_gone_down_ex h (.inl rfl : Wsd [] (.tuple (([] : List (List Nat)).map wd)))
  refine (show F_gone_down [.sh (.int 2), .sh (.tuple [])] = _ from e).trans ?_
  have := d.few
  rw [List.eq_nil_of_length_eq_zero (Nat.le_zero.mp this)]
  rfl
theorem sp0 {w : List Nat} (h : InSp 1 [[0]] w) : w = [0] := by
  induction h with
  | zero => rfl
  | add i _ hb ih =>
    rw [List.mem_singleton] at hb
    rw [ih, hb]
    simp [wadd, wsh]
theorem told4 : F_gone_down [.sh (.int 1), .sh (.tuple [.tuple [.int 0]])] = .ok (false, .tuple []) := by
  have h : Wds0 1 13 [[0]] := ⟨by decide, by decide, by decide, by unfold Lens; decide, by decide, by decide⟩
  obtain ⟨B, e, d⟩ := F_gone_down_ex h (.inl rfl : Wsd _ (.tuple ([[0]].map wd)))
  refine (show F_gone_down [.sh (.int 1), .sh (.tuple [.tuple [.int 0]])] = _ from e).trans ?_
  have : B = [] := by
    cases B with
    | nil => rfl
    | cons b r =>
      have h1 := sp0 (d.same.1 b (List.mem_cons_self ..))
      have h2 := d.wds.pos b (List.mem_cons_self ..)
      rw [h1] at h2
      exact absurd h2 (by decide)
  rw [this]
  rfl
theorem end4 {t2 t3 t4 t5 t6 t7 t8 t9 : Sl} :
    (bl_law_t1.ev Flaw [.un, .src, jk t2, jk t3, jk t4, jk t5, jk t6, jk t7, jk t8, jk t9, .un, .un, .un]).wq lawKp := by
  have f1 := told1
  have f2 := told2
  have f3 := told3
  have f4 := told4
  have r : rok 4 64 (.list [.tuple [.int 0, .int 1], .none, .tuple [], .tuple []]) := ⟨by decide +kernel, by decide +kernel, by decide +kernel, by decide +kernel⟩
  have g1 := okRB_of r (by decide) (by decide)
  have g2 := sh_shown r
  unfold bl_law_t1
  conv => arg 1; arg 1; unfold Flaw
  walk_at "ex"
  iterate 5 (try simp only [f1, f2, f3, f4, g1, g2]; walk_at "ex")
  rfl
theorem law_ok : (bl_law.ev Flaw [.un, .src, .un, .un, .un, .un, .un, .un, .un, .un, .un, .un, .un]).wq lawKp := by
  unfold bl_law
  walk_at "ex"
  rw [gd_pos (by decide)]
  walk_at "ex"
  walk_at "down"
  refine forQ (fun i e => LapI4 e)
    ⟨.un, .un, .un, .un, .un, .un, .un, .un, rfl⟩ ?_ ?_
  · rintro lap x e hx ⟨t2, t3, t4, t5, t6, t7, t8, t9, rfl⟩
    obtain ⟨hi, rfl⟩ := intsD_get hx
    walk_at "ex"
    exact lap4 hi fun _ h => h
  · rintro e ⟨t2, t3, t4, t5, t6, t7, t8, t9, rfl⟩
    exact end4
end W
set_option Elab.async false
set_option linter.all false
set_option maxRecDepth 100000
set_option maxHeartbeats 0
namespace Law
open PySem PySem.Spec PyProof.Rows L2 DL W
abbrev prg : Program := PySem.Challenge.pw_endlesscodes_k04_whole_well_led_and_tied
abbrev rw : PySem.W.OpenLaw := PySem.Challenge.rw_endlesscodes_k04_whole_well_led_and_tied
def top (i : Nat) : Stmt := prg.main.body.getD i (.Pass ⟨0, 0, 0, 0⟩)
def N__law_source : List Str := ["script", "mixed", "cell", ".0"]
def N__law_pick : List Str := ["source", "many", "left", "mixed"]
def N_law : List Str := ["script", "source", "lap", "n", "most", "words", "some", "kept", "told", "base", ".0", "word", "lot"]
def ft : List (Str × Nat) := [("degree", 7), ("poly_product", 8), ("word_degree", 9), ("words_added", 10), ("word_times", 11), ("leading_row", 12), ("tied_lot", 13), ("lot_sum", 14), ("gone_down", 15), ("_law_source", 0), ("_law_pick", 1), ("_law_of", 2), ("_law_mixed", 40), ("_law_length", 41), ("_law_times", 42), ("_law_degree", 43), ("_law_added", 44), ("_law_word_times", 45), ("_law_combined", 46), ("_law_leading", 47), ("_law_word", 48), ("_law_words", 49), ("_law_running", 50), ("_law_lots", 72), ("_law_is_tied", 73), ("_law_gone_down", 74), ("_law_is_of", 75), ("_law_lot_right", 76), ("law", 77)]
def gl : List (Str × PyData) := []
abbrev s_degree : Stmt := top 1
theorem sc_degree : FnScope N_degree ["p"] (defScope s_degree) := ⟨rfl, rfl, rfl, by decide +kernel, rfl, by decide +kernel, by decide +kernel⟩
def d_degree : He.DefD := ⟨("degree", none), "degree", "degree", defArgs s_degree, defBody s_degree, defScope s_degree, [], []⟩
theorem tr_degree : mapS (trS 40 ⟨N_degree, defScope s_degree, ft, gl⟩) (defBody s_degree) = some b_degree := by kernel_rfl
abbrev s_poly_product : Stmt := top 2
theorem sc_poly_product : FnScope N_poly_product ["p", "q"] (defScope s_poly_product) := ⟨rfl, rfl, rfl, by decide +kernel, rfl, by decide +kernel, by decide +kernel⟩
def d_poly_product : He.DefD := ⟨("poly_product", none), "poly_product", "poly_product", defArgs s_poly_product, defBody s_poly_product, defScope s_poly_product, [], []⟩
theorem tr_poly_product : mapS (trS 40 ⟨N_poly_product, defScope s_poly_product, ft, gl⟩) (defBody s_poly_product) = some b_poly_product := by kernel_rfl
abbrev s_word_degree : Stmt := top 4
theorem sc_word_degree : FnScope N_word_degree ["word"] (defScope s_word_degree) := ⟨rfl, rfl, rfl, by decide +kernel, rfl, by decide +kernel, by decide +kernel⟩
def d_word_degree : He.DefD := ⟨("word_degree", none), "word_degree", "word_degree", defArgs s_word_degree, defBody s_word_degree, defScope s_word_degree, [], []⟩
theorem tr_word_degree : mapS (trS 40 ⟨N_word_degree, defScope s_word_degree, ft, gl⟩) (defBody s_word_degree) = some b_word_degree := by kernel_rfl
abbrev s_words_added : Stmt := top 5
theorem sc_words_added : FnScope N_words_added ["one", "other"] (defScope s_words_added) := ⟨rfl, rfl, rfl, by decide +kernel, rfl, by decide +kernel, by decide +kernel⟩
def d_words_added : He.DefD := ⟨("words_added", none), "words_added", "words_added", defArgs s_words_added, defBody s_words_added, defScope s_words_added, [], []⟩
theorem tr_words_added : mapS (trS 40 ⟨N_words_added, defScope s_words_added, ft, gl⟩) (defBody s_words_added) = some b_words_added := by kernel_rfl
abbrev s_word_times : Stmt := top 6
theorem sc_word_times : FnScope N_word_times ["p", "word"] (defScope s_word_times) := ⟨rfl, rfl, rfl, by decide +kernel, rfl, by decide +kernel, by decide +kernel⟩
def d_word_times : He.DefD := ⟨("word_times", none), "word_times", "word_times", defArgs s_word_times, defBody s_word_times, defScope s_word_times, [], []⟩
theorem tr_word_times : mapS (trS 40 ⟨N_word_times, defScope s_word_times, ft, gl⟩) (defBody s_word_times) = some b_word_times := by kernel_rfl
abbrev s_leading_row : Stmt := top 7
theorem sc_leading_row : FnScope N_leading_row ["word"] (defScope s_leading_row) := ⟨rfl, rfl, rfl, by decide +kernel, rfl, by decide +kernel, by decide +kernel⟩
def d_leading_row : He.DefD := ⟨("leading_row", none), "leading_row", "leading_row", defArgs s_leading_row, defBody s_leading_row, defScope s_leading_row, [], []⟩
theorem tr_leading_row : mapS (trS 40 ⟨N_leading_row, defScope s_leading_row, ft, gl⟩) (defBody s_leading_row) = some b_leading_row := by kernel_rfl
abbrev s_tied_lot : Stmt := top 9
theorem sc_tied_lot : FnScope N_tied_lot ["words"] (defScope s_tied_lot) := ⟨rfl, rfl, rfl, by decide +kernel, rfl, by decide +kernel, by decide +kernel⟩
def d_tied_lot : He.DefD := ⟨("tied_lot", none), "tied_lot", "tied_lot", defArgs s_tied_lot, defBody s_tied_lot, defScope s_tied_lot, [], []⟩
theorem tr_tied_lot : mapS (trS 40 ⟨N_tied_lot, defScope s_tied_lot, ft, gl⟩) (defBody s_tied_lot) = some b_tied_lot := by kernel_rfl
abbrev s_lot_sum : Stmt := top 10
theorem sc_lot_sum : FnScope N_lot_sum ["words", "lot"] (defScope s_lot_sum) := ⟨rfl, rfl, rfl, by decide +kernel, rfl, by decide +kernel, by decide +kernel⟩
def d_lot_sum : He.DefD := ⟨("lot_sum", none), "lot_sum", "lot_sum", defArgs s_lot_sum, defBody s_lot_sum, defScope s_lot_sum, [], []⟩
theorem tr_lot_sum : mapS (trS 40 ⟨N_lot_sum, defScope s_lot_sum, ft, gl⟩) (defBody s_lot_sum) = some b_lot_sum := by kernel_rfl
abbrev s_gone_down : Stmt := top 11
theorem sc_gone_down : FnScope N_gone_down ["n", "words"] (defScope s_gone_down) := ⟨rfl, rfl, rfl, by decide +kernel, rfl, by decide +kernel, by decide +kernel⟩
def d_gone_down : He.DefD := ⟨("gone_down", none), "gone_down", "gone_down", defArgs s_gone_down, defBody s_gone_down, defScope s_gone_down, [], []⟩
theorem tr_gone_down : mapS (trS 40 ⟨N_gone_down, defScope s_gone_down, ft, gl⟩) (defBody s_gone_down) = some b_gone_down := by kernel_rfl
abbrev s__law_source : Stmt := top 13
theorem sc__law_source : FnScope N__law_source ["script"] (defScope s__law_source) := ⟨rfl, rfl, rfl, by decide +kernel, rfl, by decide +kernel, by decide +kernel⟩
def d__law_source : He.DefD := ⟨("_law_source", none), "_law_source", "_law_source", defArgs s__law_source, defBody s__law_source, defScope s__law_source, [], []⟩
abbrev s__law_pick : Stmt := top 14
theorem sc__law_pick : FnScope N__law_pick ["source", "many"] (defScope s__law_pick) := ⟨rfl, rfl, rfl, by decide +kernel, rfl, by decide +kernel, by decide +kernel⟩
def d__law_pick : He.DefD := ⟨("_law_pick", none), "_law_pick", "_law_pick", defArgs s__law_pick, defBody s__law_pick, defScope s__law_pick, [], []⟩
abbrev s__law_of : Stmt := top 15
theorem sc__law_of : FnScope N__law_of ["source", "some"] (defScope s__law_of) := ⟨rfl, rfl, rfl, by decide +kernel, rfl, by decide +kernel, by decide +kernel⟩
def d__law_of : He.DefD := ⟨("_law_of", none), "_law_of", "_law_of", defArgs s__law_of, defBody s__law_of, defScope s__law_of, [], []⟩
theorem tr__law_of : mapS (trS 40 ⟨N__law_of, defScope s__law_of, ft, gl⟩) (defBody s__law_of) = some b__law_of := by kernel_rfl
abbrev s__law_mixed : Stmt := top 16
def d__law_mixed : He.DefD := ⟨("_law_mixed", none), "_law_mixed", "_law_mixed", defArgs s__law_mixed, defBody s__law_mixed, defScope s__law_mixed, [], []⟩
abbrev s__law_length : Stmt := top 17
theorem sc__law_length : FnScope N__law_length ["p"] (defScope s__law_length) := ⟨rfl, rfl, rfl, by decide +kernel, rfl, by decide +kernel, by decide +kernel⟩
def d__law_length : He.DefD := ⟨("_law_length", none), "_law_length", "_law_length", defArgs s__law_length, defBody s__law_length, defScope s__law_length, [], []⟩
theorem tr__law_length : mapS (trS 40 ⟨N__law_length, defScope s__law_length, ft, gl⟩) (defBody s__law_length) = some b__law_length := by kernel_rfl
abbrev s__law_times : Stmt := top 18
theorem sc__law_times : FnScope N__law_times ["p", "q"] (defScope s__law_times) := ⟨rfl, rfl, rfl, by decide +kernel, rfl, by decide +kernel, by decide +kernel⟩
def d__law_times : He.DefD := ⟨("_law_times", none), "_law_times", "_law_times", defArgs s__law_times, defBody s__law_times, defScope s__law_times, [], []⟩
theorem tr__law_times : mapS (trS 40 ⟨N__law_times, defScope s__law_times, ft, gl⟩) (defBody s__law_times) = some b__law_times := by kernel_rfl
abbrev s__law_degree : Stmt := top 19
theorem sc__law_degree : FnScope N__law_degree ["word"] (defScope s__law_degree) := ⟨rfl, rfl, rfl, by decide +kernel, rfl, by decide +kernel, by decide +kernel⟩
def d__law_degree : He.DefD := ⟨("_law_degree", none), "_law_degree", "_law_degree", defArgs s__law_degree, defBody s__law_degree, defScope s__law_degree, [], []⟩
theorem tr__law_degree : mapS (trS 40 ⟨N__law_degree, defScope s__law_degree, ft, gl⟩) (defBody s__law_degree) = some b__law_degree := by kernel_rfl
abbrev s__law_added : Stmt := top 20
theorem sc__law_added : FnScope N__law_added ["one", "other"] (defScope s__law_added) := ⟨rfl, rfl, rfl, by decide +kernel, rfl, by decide +kernel, by decide +kernel⟩
def d__law_added : He.DefD := ⟨("_law_added", none), "_law_added", "_law_added", defArgs s__law_added, defBody s__law_added, defScope s__law_added, [], []⟩
theorem tr__law_added : mapS (trS 40 ⟨N__law_added, defScope s__law_added, ft, gl⟩) (defBody s__law_added) = some b__law_added := by kernel_rfl
abbrev s__law_word_times : Stmt := top 21
theorem sc__law_word_times : FnScope N__law_word_times ["p", "word"] (defScope s__law_word_times) := ⟨rfl, rfl, rfl, by decide +kernel, rfl, by decide +kernel, by decide +kernel⟩
def d__law_word_times : He.DefD := ⟨("_law_word_times", none), "_law_word_times", "_law_word_times", defArgs s__law_word_times, defBody s__law_word_times, defScope s__law_word_times, [], []⟩
theorem tr__law_word_times : mapS (trS 40 ⟨N__law_word_times, defScope s__law_word_times, ft, gl⟩) (defBody s__law_word_times) = some b__law_word_times := by kernel_rfl
abbrev s__law_combined : Stmt := top 22
theorem sc__law_combined : FnScope N__law_combined ["n", "coefficients", "words"] (defScope s__law_combined) := ⟨rfl, rfl, rfl, by decide +kernel, rfl, by decide +kernel, by decide +kernel⟩
def d__law_combined : He.DefD := ⟨("_law_combined", none), "_law_combined", "_law_combined", defArgs s__law_combined, defBody s__law_combined, defScope s__law_combined, [], []⟩
theorem tr__law_combined : mapS (trS 40 ⟨N__law_combined, defScope s__law_combined, ft, gl⟩) (defBody s__law_combined) = some b__law_combined := by kernel_rfl
abbrev s__law_leading : Stmt := top 23
theorem sc__law_leading : FnScope N__law_leading ["word"] (defScope s__law_leading) := ⟨rfl, rfl, rfl, by decide +kernel, rfl, by decide +kernel, by decide +kernel⟩
def d__law_leading : He.DefD := ⟨("_law_leading", none), "_law_leading", "_law_leading", defArgs s__law_leading, defBody s__law_leading, defScope s__law_leading, [], []⟩
theorem tr__law_leading : mapS (trS 40 ⟨N__law_leading, defScope s__law_leading, ft, gl⟩) (defBody s__law_leading) = some b__law_leading := by kernel_rfl
abbrev s__law_word : Stmt := top 24
theorem sc__law_word : FnScope N__law_word ["source", "n", "most"] (defScope s__law_word) := ⟨rfl, rfl, rfl, by decide +kernel, rfl, by decide +kernel, by decide +kernel⟩
def d__law_word : He.DefD := ⟨("_law_word", none), "_law_word", "_law_word", defArgs s__law_word, defBody s__law_word, defScope s__law_word, [], []⟩
theorem tr__law_word : mapS (trS 40 ⟨N__law_word, defScope s__law_word, ft, gl⟩) (defBody s__law_word) = some b__law_word := by kernel_rfl
abbrev s__law_words : Stmt := top 25
theorem sc__law_words : FnScope N__law_words ["source", "n", "many", "most"] (defScope s__law_words) := ⟨rfl, rfl, rfl, by decide +kernel, rfl, by decide +kernel, by decide +kernel⟩
def d__law_words : He.DefD := ⟨("_law_words", none), "_law_words", "_law_words", defArgs s__law_words, defBody s__law_words, defScope s__law_words, [], []⟩
theorem tr__law_words : mapS (trS 40 ⟨N__law_words, defScope s__law_words, ft, gl⟩) (defBody s__law_words) = some b__law_words := by kernel_rfl
abbrev s__law_running : Stmt := top 26
def d__law_running : He.DefD := ⟨("_law_running", none), "_law_running", "_law_running", defArgs s__law_running, defBody s__law_running, defScope s__law_running, [], []⟩
abbrev s__law_lots : Stmt := top 27
theorem sc__law_lots : FnScope N__law_lots ["words"] (defScope s__law_lots) := ⟨rfl, rfl, rfl, by decide +kernel, rfl, by decide +kernel, by decide +kernel⟩
def d__law_lots : He.DefD := ⟨("_law_lots", none), "_law_lots", "_law_lots", defArgs s__law_lots, defBody s__law_lots, defScope s__law_lots, [], []⟩
theorem tr__law_lots : mapS (trS 40 ⟨N__law_lots, defScope s__law_lots, ft, gl⟩) (defBody s__law_lots) = some b__law_lots := by kernel_rfl
abbrev s__law_is_tied : Stmt := top 28
theorem sc__law_is_tied : FnScope N__law_is_tied ["words", "lot"] (defScope s__law_is_tied) := ⟨rfl, rfl, rfl, by decide +kernel, rfl, by decide +kernel, by decide +kernel⟩
def d__law_is_tied : He.DefD := ⟨("_law_is_tied", none), "_law_is_tied", "_law_is_tied", defArgs s__law_is_tied, defBody s__law_is_tied, defScope s__law_is_tied, [], []⟩
theorem tr__law_is_tied : mapS (trS 40 ⟨N__law_is_tied, defScope s__law_is_tied, ft, gl⟩) (defBody s__law_is_tied) = some b__law_is_tied := by kernel_rfl
abbrev s__law_gone_down : Stmt := top 29
theorem sc__law_gone_down : FnScope N__law_gone_down ["n", "words"] (defScope s__law_gone_down) := ⟨rfl, rfl, rfl, by decide +kernel, rfl, by decide +kernel, by decide +kernel⟩
def d__law_gone_down : He.DefD := ⟨("_law_gone_down", none), "_law_gone_down", "_law_gone_down", defArgs s__law_gone_down, defBody s__law_gone_down, defScope s__law_gone_down, [], []⟩
theorem tr__law_gone_down : mapS (trS 40 ⟨N__law_gone_down, defScope s__law_gone_down, ft, gl⟩) (defBody s__law_gone_down) = some b__law_gone_down := by kernel_rfl
abbrev s__law_is_of : Stmt := top 30
theorem sc__law_is_of : FnScope N__law_is_of ["base", "word"] (defScope s__law_is_of) := ⟨rfl, rfl, rfl, by decide +kernel, rfl, by decide +kernel, by decide +kernel⟩
def d__law_is_of : He.DefD := ⟨("_law_is_of", none), "_law_is_of", "_law_is_of", defArgs s__law_is_of, defBody s__law_is_of, defScope s__law_is_of, [], []⟩
theorem tr__law_is_of : mapS (trS 40 ⟨N__law_is_of, defScope s__law_is_of, ft, gl⟩) (defBody s__law_is_of) = some b__law_is_of := by kernel_rfl
abbrev s__law_lot_right : Stmt := top 31
theorem sc__law_lot_right : FnScope N__law_lot_right ["source", "n", "words"] (defScope s__law_lot_right) := ⟨rfl, rfl, rfl, by decide +kernel, rfl, by decide +kernel, by decide +kernel⟩
def d__law_lot_right : He.DefD := ⟨("_law_lot_right", none), "_law_lot_right", "_law_lot_right", defArgs s__law_lot_right, defBody s__law_lot_right, defScope s__law_lot_right, [], []⟩
theorem tr__law_lot_right : mapS (trS 40 ⟨N__law_lot_right, defScope s__law_lot_right, ft, gl⟩) (defBody s__law_lot_right) = some b__law_lot_right := by kernel_rfl
abbrev s_law : Stmt := top 32
theorem sc_law : FnScope N_law ["script"] (defScope s_law) := ⟨rfl, rfl, rfl, by decide +kernel, rfl, by decide +kernel, by decide +kernel⟩
def d_law : He.DefD := ⟨("law", none), "law", "law", defArgs s_law, defBody s_law, defScope s_law, [], []⟩
def fn : List He.DefD := [d_degree, d_poly_product, d_word_degree, d_words_added, d_word_times, d_leading_row, d_tied_lot, d_lot_sum, d_gone_down, d__law_source, d__law_pick, d__law_of, d__law_mixed, d__law_length, d__law_times, d__law_degree, d__law_added, d__law_word_times, d__law_combined, d__law_leading, d__law_word, d__law_words, d__law_running, d__law_lots, d__law_is_tied, d__law_gone_down, d__law_is_of, d__law_lot_right, d_law]
def fa : List He.Fa := [.glo "degree", .glo "poly_product", .glo "word_degree", .glo "words_added", .glo "word_times", .glo "leading_row", .glo "tied_lot", .glo "lot_sum", .glo "gone_down", .glo "_law_source", .glo "_law_pick", .glo "_law_of", .glo "_law_mixed", .glo "_law_length", .glo "_law_times", .glo "_law_degree", .glo "_law_added", .glo "_law_word_times", .glo "_law_combined", .glo "_law_leading", .glo "_law_word", .glo "_law_words", .glo "_law_running", .glo "_law_lots", .glo "_law_is_tied", .glo "_law_gone_down", .glo "_law_is_of", .glo "_law_lot_right", .glo "law"] ++ blts.map He.Fa.free
theorem at_degree {K : PySem.W.Frag} {h : Heap} {mg : Str → Option Value} (X : K.In h) (G : h.Ns mainGlobals mg) (c : He.SaysD fa fn K) : ∃ f fd, DefAt K mg d_degree f fd ∧ L2.Binds K fd ["p"] [] := by
  obtain ⟨fd, F⟩ := c.def_ 0 (d := d_degree) rfl
  exact ⟨_, fd, ⟨He.glo_ok X G (c.fact 0 (f := .glo "degree") rfl), F⟩, F.bindsN fun _ _ _ _ _ _ us hl => match us, hl with | [_], _ => rfl⟩
theorem at_poly_product {K : PySem.W.Frag} {h : Heap} {mg : Str → Option Value} (X : K.In h) (G : h.Ns mainGlobals mg) (c : He.SaysD fa fn K) : ∃ f fd, DefAt K mg d_poly_product f fd ∧ L2.Binds K fd ["p", "q"] [] := by
  obtain ⟨fd, F⟩ := c.def_ 1 (d := d_poly_product) rfl
  exact ⟨_, fd, ⟨He.glo_ok X G (c.fact 1 (f := .glo "poly_product") rfl), F⟩, F.bindsN fun _ _ _ _ _ _ us hl => match us, hl with | [_, _], _ => rfl⟩
theorem at_word_degree {K : PySem.W.Frag} {h : Heap} {mg : Str → Option Value} (X : K.In h) (G : h.Ns mainGlobals mg) (c : He.SaysD fa fn K) : ∃ f fd, DefAt K mg d_word_degree f fd ∧ L2.Binds K fd ["word"] [] := by
  obtain ⟨fd, F⟩ := c.def_ 2 (d := d_word_degree) rfl
  exact ⟨_, fd, ⟨He.glo_ok X G (c.fact 2 (f := .glo "word_degree") rfl), F⟩, F.bindsN fun _ _ _ _ _ _ us hl => match us, hl with | [_], _ => rfl⟩
theorem at_words_added {K : PySem.W.Frag} {h : Heap} {mg : Str → Option Value} (X : K.In h) (G : h.Ns mainGlobals mg) (c : He.SaysD fa fn K) : ∃ f fd, DefAt K mg d_words_added f fd ∧ L2.Binds K fd ["one", "other"] [] := by
  obtain ⟨fd, F⟩ := c.def_ 3 (d := d_words_added) rfl
  exact ⟨_, fd, ⟨He.glo_ok X G (c.fact 3 (f := .glo "words_added") rfl), F⟩, F.bindsN fun _ _ _ _ _ _ us hl => match us, hl with | [_, _], _ => rfl⟩
theorem at_word_times {K : PySem.W.Frag} {h : Heap} {mg : Str → Option Value} (X : K.In h) (G : h.Ns mainGlobals mg) (c : He.SaysD fa fn K) : ∃ f fd, DefAt K mg d_word_times f fd ∧ L2.Binds K fd ["p", "word"] [] := by
  obtain ⟨fd, F⟩ := c.def_ 4 (d := d_word_times) rfl
  exact ⟨_, fd, ⟨He.glo_ok X G (c.fact 4 (f := .glo "word_times") rfl), F⟩, F.bindsN fun _ _ _ _ _ _ us hl => match us, hl with | [_, _], _ => rfl⟩
theorem at_leading_row {K : PySem.W.Frag} {h : Heap} {mg : Str → Option Value} (X : K.In h) (G : h.Ns mainGlobals mg) (c : He.SaysD fa fn K) : ∃ f fd, DefAt K mg d_leading_row f fd ∧ L2.Binds K fd ["word"] [] := by
  obtain ⟨fd, F⟩ := c.def_ 5 (d := d_leading_row) rfl
  exact ⟨_, fd, ⟨He.glo_ok X G (c.fact 5 (f := .glo "leading_row") rfl), F⟩, F.bindsN fun _ _ _ _ _ _ us hl => match us, hl with | [_], _ => rfl⟩
theorem at_tied_lot {K : PySem.W.Frag} {h : Heap} {mg : Str → Option Value} (X : K.In h) (G : h.Ns mainGlobals mg) (c : He.SaysD fa fn K) : ∃ f fd, DefAt K mg d_tied_lot f fd ∧ L2.Binds K fd ["words"] [] := by
  obtain ⟨fd, F⟩ := c.def_ 6 (d := d_tied_lot) rfl
  exact ⟨_, fd, ⟨He.glo_ok X G (c.fact 6 (f := .glo "tied_lot") rfl), F⟩, F.bindsN fun _ _ _ _ _ _ us hl => match us, hl with | [_], _ => rfl⟩
theorem at_lot_sum {K : PySem.W.Frag} {h : Heap} {mg : Str → Option Value} (X : K.In h) (G : h.Ns mainGlobals mg) (c : He.SaysD fa fn K) : ∃ f fd, DefAt K mg d_lot_sum f fd ∧ L2.Binds K fd ["words", "lot"] [] := by
  obtain ⟨fd, F⟩ := c.def_ 7 (d := d_lot_sum) rfl
  exact ⟨_, fd, ⟨He.glo_ok X G (c.fact 7 (f := .glo "lot_sum") rfl), F⟩, F.bindsN fun _ _ _ _ _ _ us hl => match us, hl with | [_, _], _ => rfl⟩
theorem at_gone_down {K : PySem.W.Frag} {h : Heap} {mg : Str → Option Value} (X : K.In h) (G : h.Ns mainGlobals mg) (c : He.SaysD fa fn K) : ∃ f fd, DefAt K mg d_gone_down f fd ∧ L2.Binds K fd ["n", "words"] [] := by
  obtain ⟨fd, F⟩ := c.def_ 8 (d := d_gone_down) rfl
  exact ⟨_, fd, ⟨He.glo_ok X G (c.fact 8 (f := .glo "gone_down") rfl), F⟩, F.bindsN fun _ _ _ _ _ _ us hl => match us, hl with | [_, _], _ => rfl⟩
theorem at__law_source {K : PySem.W.Frag} {h : Heap} {mg : Str → Option Value} (X : K.In h) (G : h.Ns mainGlobals mg) (c : He.SaysD fa fn K) : ∃ f fd, DefAt K mg d__law_source f fd ∧ L2.Binds K fd ["script"] [] := by
  obtain ⟨fd, F⟩ := c.def_ 9 (d := d__law_source) rfl
  exact ⟨_, fd, ⟨He.glo_ok X G (c.fact 9 (f := .glo "_law_source") rfl), F⟩, F.bindsN fun _ _ _ _ _ _ us hl => match us, hl with | [_], _ => rfl⟩
theorem at__law_pick {K : PySem.W.Frag} {h : Heap} {mg : Str → Option Value} (X : K.In h) (G : h.Ns mainGlobals mg) (c : He.SaysD fa fn K) : ∃ f fd, DefAt K mg d__law_pick f fd ∧ L2.Binds K fd ["source", "many"] [] := by
  obtain ⟨fd, F⟩ := c.def_ 10 (d := d__law_pick) rfl
  exact ⟨_, fd, ⟨He.glo_ok X G (c.fact 10 (f := .glo "_law_pick") rfl), F⟩, F.bindsN fun _ _ _ _ _ _ us hl => match us, hl with | [_, _], _ => rfl⟩
theorem at__law_of {K : PySem.W.Frag} {h : Heap} {mg : Str → Option Value} (X : K.In h) (G : h.Ns mainGlobals mg) (c : He.SaysD fa fn K) : ∃ f fd, DefAt K mg d__law_of f fd ∧ L2.Binds K fd ["source", "some"] [] := by
  obtain ⟨fd, F⟩ := c.def_ 11 (d := d__law_of) rfl
  exact ⟨_, fd, ⟨He.glo_ok X G (c.fact 11 (f := .glo "_law_of") rfl), F⟩, F.bindsN fun _ _ _ _ _ _ us hl => match us, hl with | [_, _], _ => rfl⟩
theorem at__law_mixed {K : PySem.W.Frag} {h : Heap} {mg : Str → Option Value} (X : K.In h) (G : h.Ns mainGlobals mg) (c : He.SaysD fa fn K) : ∃ f fd, DefAt K mg d__law_mixed f fd ∧ L2.Binds K fd ["source", "things"] [] := by
  obtain ⟨fd, F⟩ := c.def_ 12 (d := d__law_mixed) rfl
  exact ⟨_, fd, ⟨He.glo_ok X G (c.fact 12 (f := .glo "_law_mixed") rfl), F⟩, F.bindsN fun _ _ _ _ _ _ us hl => match us, hl with | [_, _], _ => rfl⟩
theorem at__law_length {K : PySem.W.Frag} {h : Heap} {mg : Str → Option Value} (X : K.In h) (G : h.Ns mainGlobals mg) (c : He.SaysD fa fn K) : ∃ f fd, DefAt K mg d__law_length f fd ∧ L2.Binds K fd ["p"] [] := by
  obtain ⟨fd, F⟩ := c.def_ 13 (d := d__law_length) rfl
  exact ⟨_, fd, ⟨He.glo_ok X G (c.fact 13 (f := .glo "_law_length") rfl), F⟩, F.bindsN fun _ _ _ _ _ _ us hl => match us, hl with | [_], _ => rfl⟩
theorem at__law_times {K : PySem.W.Frag} {h : Heap} {mg : Str → Option Value} (X : K.In h) (G : h.Ns mainGlobals mg) (c : He.SaysD fa fn K) : ∃ f fd, DefAt K mg d__law_times f fd ∧ L2.Binds K fd ["p", "q"] [] := by
  obtain ⟨fd, F⟩ := c.def_ 14 (d := d__law_times) rfl
  exact ⟨_, fd, ⟨He.glo_ok X G (c.fact 14 (f := .glo "_law_times") rfl), F⟩, F.bindsN fun _ _ _ _ _ _ us hl => match us, hl with | [_, _], _ => rfl⟩
theorem at__law_degree {K : PySem.W.Frag} {h : Heap} {mg : Str → Option Value} (X : K.In h) (G : h.Ns mainGlobals mg) (c : He.SaysD fa fn K) : ∃ f fd, DefAt K mg d__law_degree f fd ∧ L2.Binds K fd ["word"] [] := by
  obtain ⟨fd, F⟩ := c.def_ 15 (d := d__law_degree) rfl
  exact ⟨_, fd, ⟨He.glo_ok X G (c.fact 15 (f := .glo "_law_degree") rfl), F⟩, F.bindsN fun _ _ _ _ _ _ us hl => match us, hl with | [_], _ => rfl⟩
theorem at__law_added {K : PySem.W.Frag} {h : Heap} {mg : Str → Option Value} (X : K.In h) (G : h.Ns mainGlobals mg) (c : He.SaysD fa fn K) : ∃ f fd, DefAt K mg d__law_added f fd ∧ L2.Binds K fd ["one", "other"] [] := by
  obtain ⟨fd, F⟩ := c.def_ 16 (d := d__law_added) rfl
  exact ⟨_, fd, ⟨He.glo_ok X G (c.fact 16 (f := .glo "_law_added") rfl), F⟩, F.bindsN fun _ _ _ _ _ _ us hl => match us, hl with | [_, _], _ => rfl⟩
theorem at__law_word_times {K : PySem.W.Frag} {h : Heap} {mg : Str → Option Value} (X : K.In h) (G : h.Ns mainGlobals mg) (c : He.SaysD fa fn K) : ∃ f fd, DefAt K mg d__law_word_times f fd ∧ L2.Binds K fd ["p", "word"] [] := by
  obtain ⟨fd, F⟩ := c.def_ 17 (d := d__law_word_times) rfl
  exact ⟨_, fd, ⟨He.glo_ok X G (c.fact 17 (f := .glo "_law_word_times") rfl), F⟩, F.bindsN fun _ _ _ _ _ _ us hl => match us, hl with | [_, _], _ => rfl⟩
theorem at__law_combined {K : PySem.W.Frag} {h : Heap} {mg : Str → Option Value} (X : K.In h) (G : h.Ns mainGlobals mg) (c : He.SaysD fa fn K) : ∃ f fd, DefAt K mg d__law_combined f fd ∧ L2.Binds K fd ["n", "coefficients", "words"] [] := by
  obtain ⟨fd, F⟩ := c.def_ 18 (d := d__law_combined) rfl
  exact ⟨_, fd, ⟨He.glo_ok X G (c.fact 18 (f := .glo "_law_combined") rfl), F⟩, F.bindsN fun _ _ _ _ _ _ us hl => match us, hl with | [_, _, _], _ => rfl⟩
theorem at__law_leading {K : PySem.W.Frag} {h : Heap} {mg : Str → Option Value} (X : K.In h) (G : h.Ns mainGlobals mg) (c : He.SaysD fa fn K) : ∃ f fd, DefAt K mg d__law_leading f fd ∧ L2.Binds K fd ["word"] [] := by
  obtain ⟨fd, F⟩ := c.def_ 19 (d := d__law_leading) rfl
  exact ⟨_, fd, ⟨He.glo_ok X G (c.fact 19 (f := .glo "_law_leading") rfl), F⟩, F.bindsN fun _ _ _ _ _ _ us hl => match us, hl with | [_], _ => rfl⟩
theorem at__law_word {K : PySem.W.Frag} {h : Heap} {mg : Str → Option Value} (X : K.In h) (G : h.Ns mainGlobals mg) (c : He.SaysD fa fn K) : ∃ f fd, DefAt K mg d__law_word f fd ∧ L2.Binds K fd ["source", "n", "most"] [] := by
  obtain ⟨fd, F⟩ := c.def_ 20 (d := d__law_word) rfl
  exact ⟨_, fd, ⟨He.glo_ok X G (c.fact 20 (f := .glo "_law_word") rfl), F⟩, F.bindsN fun _ _ _ _ _ _ us hl => match us, hl with | [_, _, _], _ => rfl⟩
theorem at__law_words {K : PySem.W.Frag} {h : Heap} {mg : Str → Option Value} (X : K.In h) (G : h.Ns mainGlobals mg) (c : He.SaysD fa fn K) : ∃ f fd, DefAt K mg d__law_words f fd ∧ L2.Binds K fd ["source", "n", "many", "most"] [] := by
  obtain ⟨fd, F⟩ := c.def_ 21 (d := d__law_words) rfl
  exact ⟨_, fd, ⟨He.glo_ok X G (c.fact 21 (f := .glo "_law_words") rfl), F⟩, F.bindsN fun _ _ _ _ _ _ us hl => match us, hl with | [_, _, _, _], _ => rfl⟩
theorem at__law_running {K : PySem.W.Frag} {h : Heap} {mg : Str → Option Value} (X : K.In h) (G : h.Ns mainGlobals mg) (c : He.SaysD fa fn K) : ∃ f fd, DefAt K mg d__law_running f fd ∧ L2.Binds K fd ["source", "most", "degree_v"] [] := by
  obtain ⟨fd, F⟩ := c.def_ 22 (d := d__law_running) rfl
  exact ⟨_, fd, ⟨He.glo_ok X G (c.fact 22 (f := .glo "_law_running") rfl), F⟩, F.bindsN fun _ _ _ _ _ _ us hl => match us, hl with | [_, _, _], _ => rfl⟩
theorem at__law_lots {K : PySem.W.Frag} {h : Heap} {mg : Str → Option Value} (X : K.In h) (G : h.Ns mainGlobals mg) (c : He.SaysD fa fn K) : ∃ f fd, DefAt K mg d__law_lots f fd ∧ L2.Binds K fd ["words"] [] := by
  obtain ⟨fd, F⟩ := c.def_ 23 (d := d__law_lots) rfl
  exact ⟨_, fd, ⟨He.glo_ok X G (c.fact 23 (f := .glo "_law_lots") rfl), F⟩, F.bindsN fun _ _ _ _ _ _ us hl => match us, hl with | [_], _ => rfl⟩
theorem at__law_is_tied {K : PySem.W.Frag} {h : Heap} {mg : Str → Option Value} (X : K.In h) (G : h.Ns mainGlobals mg) (c : He.SaysD fa fn K) : ∃ f fd, DefAt K mg d__law_is_tied f fd ∧ L2.Binds K fd ["words", "lot"] [] := by
  obtain ⟨fd, F⟩ := c.def_ 24 (d := d__law_is_tied) rfl
  exact ⟨_, fd, ⟨He.glo_ok X G (c.fact 24 (f := .glo "_law_is_tied") rfl), F⟩, F.bindsN fun _ _ _ _ _ _ us hl => match us, hl with | [_, _], _ => rfl⟩
theorem at__law_gone_down {K : PySem.W.Frag} {h : Heap} {mg : Str → Option Value} (X : K.In h) (G : h.Ns mainGlobals mg) (c : He.SaysD fa fn K) : ∃ f fd, DefAt K mg d__law_gone_down f fd ∧ L2.Binds K fd ["n", "words"] [] := by
  obtain ⟨fd, F⟩ := c.def_ 25 (d := d__law_gone_down) rfl
  exact ⟨_, fd, ⟨He.glo_ok X G (c.fact 25 (f := .glo "_law_gone_down") rfl), F⟩, F.bindsN fun _ _ _ _ _ _ us hl => match us, hl with | [_, _], _ => rfl⟩
theorem at__law_is_of {K : PySem.W.Frag} {h : Heap} {mg : Str → Option Value} (X : K.In h) (G : h.Ns mainGlobals mg) (c : He.SaysD fa fn K) : ∃ f fd, DefAt K mg d__law_is_of f fd ∧ L2.Binds K fd ["base", "word"] [] := by
  obtain ⟨fd, F⟩ := c.def_ 26 (d := d__law_is_of) rfl
  exact ⟨_, fd, ⟨He.glo_ok X G (c.fact 26 (f := .glo "_law_is_of") rfl), F⟩, F.bindsN fun _ _ _ _ _ _ us hl => match us, hl with | [_, _], _ => rfl⟩
theorem at__law_lot_right {K : PySem.W.Frag} {h : Heap} {mg : Str → Option Value} (X : K.In h) (G : h.Ns mainGlobals mg) (c : He.SaysD fa fn K) : ∃ f fd, DefAt K mg d__law_lot_right f fd ∧ L2.Binds K fd ["source", "n", "words"] [] := by
  obtain ⟨fd, F⟩ := c.def_ 27 (d := d__law_lot_right) rfl
  exact ⟨_, fd, ⟨He.glo_ok X G (c.fact 27 (f := .glo "_law_lot_right") rfl), F⟩, F.bindsN fun _ _ _ _ _ _ us hl => match us, hl with | [_, _, _], _ => rfl⟩
theorem at_law {K : PySem.W.Frag} {h : Heap} {mg : Str → Option Value} (X : K.In h) (G : h.Ns mainGlobals mg) (c : He.SaysD fa fn K) : ∃ f fd, DefAt K mg d_law f fd ∧ L2.Binds K fd ["script"] [] := by
  obtain ⟨fd, F⟩ := c.def_ 28 (d := d_law) rfl
  exact ⟨_, fd, ⟨He.glo_ok X G (c.fact 28 (f := .glo "law") rfl), F⟩, F.bindsN fun _ _ _ _ _ _ us hl => match us, hl with | [_], _ => rfl⟩

theorem trl_law : mapS (trS 40 ⟨N_law, defScope s_law, ft, gl⟩) (defBody s_law).tail = some bl_law := by kernel_rfl
theorem gls_ok {K : PySem.W.Frag} {h : Heap} {mg : Str → Option Value} (X : K.In h) (G : h.Ns mainGlobals mg) (c : He.SaysD fa fn K) : ∀ x d, gl.lookup x = some d → GlV mg x d :=
  gls_of fun p hp => absurd hp List.not_mem_nil
theorem bi_ok {K : PySem.W.Frag} {h : Heap} {mg : Str → Option Value} (X : K.In h) (G : h.Ns mainGlobals mg) (c : He.SaysD fa fn K) : ∀ y ∈ blts, mg y = none := bi_of X G c fun y hy => List.mem_append_right _ (List.mem_map.mpr ⟨y, hy, rfl⟩)
def loose : List Str := ["degree", "poly_product", "word_degree", "words_added", "word_times", "leading_row", "tied_lot", "lot_sum", "gone_down", "_law_source", "_law_pick", "_law_of", "_law_mixed", "_law_length", "_law_times", "_law_degree", "_law_added", "_law_word_times", "_law_combined", "_law_leading", "_law_word", "_law_words", "_law_running", "_law_lots", "_law_is_tied", "_law_gone_down", "_law_is_of", "_law_lot_right"]
abbrev lawIx : Nat := 32

abbrev HR : PySem.W.OpenRow := PySem.W.OpenLaw.row rw
abbrev hk : PySem.W.Hook := hookS 4 fa fn
def ob (s : PySem.W.SharedT) : He.AlD × Bool := obS 4 fa fn s
theorem ob_eq (s : PySem.W.SharedT) : ob s = hk.obs s.abs := obS_eq 4 fa fn s
theorem run (w : World) : HandSHeadRun.RunEq HR (PySem.W.view HR.prog [lawIx]) hk ob 2000 loose w := by
  intro os
  kernel_rfl
section
variable {P : Program} {w : World} {K : PySem.W.Frag} {mg : Str → Option Value} {B : Heap} {f : Addr} {fd : FuncData}
theorem ok_pick (F : FunD K "_law_pick" "_law_pick" (defArgs s__law_pick) (defBody s__law_pick) (defScope s__law_pick) [] [] f fd) (mi : mg "int" = none) (mx : mg "max" = none) (ml : mg "len" = none) :
    FnG P w K mg B 1 f fd ["source", "many"] (SpOf K mg cPickF) := by
  refine fn_g F sc__law_pick (fun xs H Q E h => by obtain ⟨S, G, sl, Qp, Ep, _, _, pr, ⟨m, rfl, _⟩, _⟩ := h; exact (Paired.length pr).trans rfl) ?_
  intro cdv A fr t H xs Q E hr hc want
  have hu : (A.deeper (envOfC "_law_pick" (defScope s__law_pick) t.heap.objs.size f cdv)).units + 1 < cLine := by have := hr.un; omega
  refine ⟨tPick K, pss_cons (ps_while (passes_of rfl) (pw_and (pt_cmp (pc_gt (pv 1) pe_int)) (pw_and (pt_cmp (pc_lt (pe_dget hu (pv 0) pe_str (fun _ _ => rfl)) pe_int)) (pw_and1 (pt_cmp (pc_gt (pe_callB call_len (by rfl) ml boot_len (pa_cons (pe_dget hu (pv 0) pe_str (fun _ _ => rfl)) pa_nil)) pe_int))))).pt
      (pss_one (ps_dput hu (pv 0) pe_str (pe_bm0 PySem.F.plainAttrs_list PySem.F.slot_list_pop PySem.F.type_list_pop mt_pop (pe_dget hu (pv 0) pe_str (fun _ _ => rfl))) rfl)))
    (pss_cons (ps_set (i := 2) sc__law_pick.nd rfl (.inl rfl) (pe_dget hu (pv 0) pe_str (fun _ _ => rfl)))
    (pss_cons (ps_if (pw_or (pt_cmp (pc_lt (pv 1) pe_int)) (pw_or1 (pt_cmp (pc_gt (pv 2) pe_int)))).pt
      (pss_cons (ps_dput hu (pv 0) pe_str (pe_op op_fdivW (pv 2) (pe_callB (call_max2 rfl) (by rfl) mx (by decide +kernel) (pa_cons pe_int (pa_cons (pv 1) pa_nil)))) rfl) (pss_one (ps_ret (pe_op op_mod (pe_callTy call_int1 (by rfl) mi (by decide +kernel) (pa_cons (pv 2) pa_nil)) (pe_callB (call_max2 rfl) (by rfl) mx (by decide +kernel) (pa_cons pe_int (pa_cons (pv 1) pa_nil))))))) pss_nil)
    (pss_cons (ps_dput hu (pv 0) pe_str (pe_op op_add (pe_dget hu (pv 0) pe_str (fun _ _ => rfl)) pe_int) rfl)
    (pss_cons (ps_set (i := 3) sc__law_pick.nd rfl (.inl rfl) (pe_op op_mod (pe_callTy call_int1 (by rfl) mi (by decide +kernel) (pa_cons (pe_op op_add (pe_dget hu (pv 0) pe_str (fun _ _ => rfl)) (pe_op op_mul (pe_dget hu (pv 0) pe_str (fun _ _ => rfl)) pe_int)) pa_nil)) pe_int))
    (pss_cons (ps_set (i := 3) sc__law_pick.nd rfl (.inl rfl) (pe_op op_mod (pe_callTy call_int1 (by rfl) mi (by decide +kernel) (pa_cons (pe_op op_add (pe_op op_mul (pv 3) (pv 3)) (pe_op op_mul (pe_dget hu (pv 0) pe_str (fun _ _ => rfl)) pe_int)) pa_nil)) pe_int))
    (pss_cons (ps_dput hu (pv 0) pe_str (pv 3) rfl)
    (pss_one (ps_ret (pe_op op_mod (pe_callTy call_int1 (by rfl) mi (by decide +kernel) (pa_cons (pe_op op_fdivW (pv 3) pe_int) pa_nil)) (pv 1)))))))))), pick_spec want⟩
theorem ok_source (F : FunD K "_law_source" "_law_source" (defArgs s__law_source) (defBody s__law_source) (defScope s__law_source) [] [] f fd) (mi : mg "int" = none) (ma : mg "abs" = none) :
    FnG P w K mg B 1 f fd ["script"] (spSource K) := by
  refine fn_g F sc__law_source (fun xs H Q E h => by obtain ⟨a, ns, rfl, _⟩ := h; rfl) ?_
  rintro cdv A fr t H xs Q E hr hc ⟨a, ns, rfl, hS, len, want⟩
  refine ⟨tSource K, pss_cons (ps_set (i := 1) sc__law_source.nd rfl (.inl rfl) pe_int)
    (pss_cons (ps_for (passes_of rfl) rfl (pi_list (pv 0)) (pg_name (i := 2) sc__law_source.nd rfl (.inl rfl)) (pss_one (ps_set (i := 1) sc__law_source.nd rfl (.inl rfl)
      (pe_op op_mod (pe_callTy call_int1 (by rfl) mi (by decide +kernel) (pa_cons (pe_op op_add (pe_op op_add (pe_op op_mul (pv 1) pe_int) (pe_op op_mul (pv 2) pe_int)) pe_int) pa_nil)) pe_int))))
    (pss_one (ps_ret (pe_disp (pps_cons pe_str (pe_revA (pe_lc rfl sc__law_source.nd (pi_list (pv 0)) (blkOk_by (own := [(".0", 3), ("cell", 2)]) (by rfl)) (fun _ _ _ _ _ => pg_name (i := 2) sc__law_source.nd rfl (.inl rfl)) (fun _ _ _ _ _ => pts_nil)
        (fun _ _ _ _ _ => pe_callB call_abs (by rfl) ma (by decide +kernel) (pa_cons (pv 2) pa_nil))))
      (pps_cons pe_str pe_int (pps_cons pe_str (pv 1) (pps_cons pe_str pe_int pps_nil)))) rfl rfl (by simp) (by decide))))), source_sem hS len want⟩
end
theorem rd_as {f : FV} {F : Nat → FV} {C : Nat → Fs} {N : List Str} {np : Nat} {b : Sms} (e : f = evDef F N.length np b) (hC : Under F C) : ∀ sl Q Ep, wOf f sl Q Ep → b.rd C (envOf N sl) { nx := fun _ => Q false .none, rt := Q, ex := Ep } := by
  subst e
  exact rd_of hC
theorem ar_as {f : FV} {F : Nat → FV} {n np : Nat} {b : Sms} (e : f = evDef F n np b) : ∀ sl Q Ep, wOf f sl Q Ep → sl.length = np := by
  subst e
  exact ar_of
theorem hj_as {ft : List (Str × Nat)} {j : Nat} {nm : Str} (h : (ft.all fun p => !(p.2 == j) || p.1 == nm) = true) : ∀ z, (z, j) ∈ ft → z = nm := fun z hz => by
  have := List.all_eq_true.mp h _ hz
  simpa using this
theorem under_none {C : Nat → Fs} {i : Nat} {f : FV} {r : List (Nat × FV)} (h : f = fun _ => .bad) (t : Under (tab r) C) : Under (tab ((i, f) :: r)) C := under_imp (fun sl Q E z => by rw [h] at z; exact z.elim) t
theorem start_ok {K : PySem.W.Frag} {h : Heap} {mg : Str → Option Value} (X : K.In h) (G : h.Ns mainGlobals mg) (c : He.SaysD fa fn K) : ∀ (j : Nat) (y : Str), (y, j) ∈ ft → ∃ g gd qs, mg y = some (.ref g) ∧ PySem.W.keepIn K (.ref g) = true ∧ L2.Binds K gd qs [] := by
  intro j y hy
  simp only [ft, List.mem_cons, List.not_mem_nil, or_false] at hy
  rcases hy with h | h | h | h | h | h | h | h | h | h | h | h | h | h | h | h | h | h | h | h | h | h | h | h | h | h | h | h | h <;> (cases h)
  · obtain ⟨f, fd, D, b⟩ := at_degree X G c; exact ⟨f, fd, _, D.mg_, D.fun_.kp, b⟩
  · obtain ⟨f, fd, D, b⟩ := at_poly_product X G c; exact ⟨f, fd, _, D.mg_, D.fun_.kp, b⟩
  · obtain ⟨f, fd, D, b⟩ := at_word_degree X G c; exact ⟨f, fd, _, D.mg_, D.fun_.kp, b⟩
  · obtain ⟨f, fd, D, b⟩ := at_words_added X G c; exact ⟨f, fd, _, D.mg_, D.fun_.kp, b⟩
  · obtain ⟨f, fd, D, b⟩ := at_word_times X G c; exact ⟨f, fd, _, D.mg_, D.fun_.kp, b⟩
  · obtain ⟨f, fd, D, b⟩ := at_leading_row X G c; exact ⟨f, fd, _, D.mg_, D.fun_.kp, b⟩
  · obtain ⟨f, fd, D, b⟩ := at_tied_lot X G c; exact ⟨f, fd, _, D.mg_, D.fun_.kp, b⟩
  · obtain ⟨f, fd, D, b⟩ := at_lot_sum X G c; exact ⟨f, fd, _, D.mg_, D.fun_.kp, b⟩
  · obtain ⟨f, fd, D, b⟩ := at_gone_down X G c; exact ⟨f, fd, _, D.mg_, D.fun_.kp, b⟩
  · obtain ⟨f, fd, D, b⟩ := at__law_source X G c; exact ⟨f, fd, _, D.mg_, D.fun_.kp, b⟩
  · obtain ⟨f, fd, D, b⟩ := at__law_pick X G c; exact ⟨f, fd, _, D.mg_, D.fun_.kp, b⟩
  · obtain ⟨f, fd, D, b⟩ := at__law_of X G c; exact ⟨f, fd, _, D.mg_, D.fun_.kp, b⟩
  · obtain ⟨f, fd, D, b⟩ := at__law_mixed X G c; exact ⟨f, fd, _, D.mg_, D.fun_.kp, b⟩
  · obtain ⟨f, fd, D, b⟩ := at__law_length X G c; exact ⟨f, fd, _, D.mg_, D.fun_.kp, b⟩
  · obtain ⟨f, fd, D, b⟩ := at__law_times X G c; exact ⟨f, fd, _, D.mg_, D.fun_.kp, b⟩
  · obtain ⟨f, fd, D, b⟩ := at__law_degree X G c; exact ⟨f, fd, _, D.mg_, D.fun_.kp, b⟩
  · obtain ⟨f, fd, D, b⟩ := at__law_added X G c; exact ⟨f, fd, _, D.mg_, D.fun_.kp, b⟩
  · obtain ⟨f, fd, D, b⟩ := at__law_word_times X G c; exact ⟨f, fd, _, D.mg_, D.fun_.kp, b⟩
  · obtain ⟨f, fd, D, b⟩ := at__law_combined X G c; exact ⟨f, fd, _, D.mg_, D.fun_.kp, b⟩
  · obtain ⟨f, fd, D, b⟩ := at__law_leading X G c; exact ⟨f, fd, _, D.mg_, D.fun_.kp, b⟩
  · obtain ⟨f, fd, D, b⟩ := at__law_word X G c; exact ⟨f, fd, _, D.mg_, D.fun_.kp, b⟩
  · obtain ⟨f, fd, D, b⟩ := at__law_words X G c; exact ⟨f, fd, _, D.mg_, D.fun_.kp, b⟩
  · obtain ⟨f, fd, D, b⟩ := at__law_running X G c; exact ⟨f, fd, _, D.mg_, D.fun_.kp, b⟩
  · obtain ⟨f, fd, D, b⟩ := at__law_lots X G c; exact ⟨f, fd, _, D.mg_, D.fun_.kp, b⟩
  · obtain ⟨f, fd, D, b⟩ := at__law_is_tied X G c; exact ⟨f, fd, _, D.mg_, D.fun_.kp, b⟩
  · obtain ⟨f, fd, D, b⟩ := at__law_gone_down X G c; exact ⟨f, fd, _, D.mg_, D.fun_.kp, b⟩
  · obtain ⟨f, fd, D, b⟩ := at__law_is_of X G c; exact ⟨f, fd, _, D.mg_, D.fun_.kp, b⟩
  · obtain ⟨f, fd, D, b⟩ := at__law_lot_right X G c; exact ⟨f, fd, _, D.mg_, D.fun_.kp, b⟩
  · obtain ⟨f, fd, D, b⟩ := at_law X G c; exact ⟨f, fd, _, D.mg_, D.fun_.kp, b⟩
theorem law_chain {w : World} {K : PySem.W.Frag} {h B : Heap} {mg : Str → Option Value} {f : Addr} {fd : FuncData} (X : K.In h) (G : h.Ns mainGlobals mg) (c : He.SaysD fa fn K) (sy : SysD B) (F : FunD K "law" "law" (defArgs s_law) (defBody s_law) (defScope s_law) [] [] f fd) :
    FnG prg w K mg B 26 f fd ["script"] (spLaw K) := by
  have bi := bi_ok X G c
  have gls := gls_ok X G c
  have g0 : Good prg w K mg B ft 0 C0 := Good.start fun j y hj => start_ok X G c j y hj
  obtain ⟨fp, fdp, Dp, bp⟩ := at__law_pick X G c
  have g1 := g0.step (j := 1) (hj_as (nm := "_law_pick") (by decide +kernel)) Dp.mg_ Dp.fun_.kp bp (ok_pick Dp.fun_ (bi _ (by decide)) (bi _ (by decide)) (bi _ (by decide)))
  obtain ⟨f2, fd2, D2, b2⟩ := at__law_word X G c
  have g2 := g1.def_ (j := 48) (c := wOf F__law_word) D2 (hj_as (by decide +kernel)) sc__law_word b2 tr__law_word bi sy gls (ar_as rfl) (rd_as (N := N__law_word) rfl (under_pick rfl (under_nil)))
  obtain ⟨f3, fd3, D3, b3⟩ := at__law_added X G c
  have g3 := g2.def_ (j := 44) (c := wOf F__law_added) D3 (hj_as (by decide +kernel)) sc__law_added b3 tr__law_added bi sy gls (ar_as rfl) (rd_as (N := N__law_added) rfl (under_nil))
  obtain ⟨f4, fd4, D4, b4⟩ := at__law_length X G c
  have g4 := g3.def_ (j := 41) (c := wOf F__law_length) D4 (hj_as (by decide +kernel)) sc__law_length b4 tr__law_length bi sy gls (ar_as rfl) (rd_as (N := N__law_length) rfl (under_nil))
  obtain ⟨f5, fd5, D5, b5⟩ := at__law_times X G c
  have g5 := g4.def_ (j := 42) (c := wOf F__law_times) D5 (hj_as (by decide +kernel)) sc__law_times b5 tr__law_times bi sy gls (ar_as rfl) (rd_as (N := N__law_times) rfl (under_cons rfl (under_nil)))
  obtain ⟨f6, fd6, D6, b6⟩ := at__law_word_times X G c
  have g6 := g5.def_ (j := 45) (c := wOf F__law_word_times) D6 (hj_as (by decide +kernel)) sc__law_word_times b6 tr__law_word_times bi sy gls (ar_as rfl) (rd_as (N := N__law_word_times) rfl (under_cons rfl (under_nil)))
  obtain ⟨f7, fd7, D7, b7⟩ := at__law_combined X G c
  have g7 := g6.def_ (j := 46) (c := wOf F__law_combined) D7 (hj_as (by decide +kernel)) sc__law_combined b7 tr__law_combined bi sy gls (ar_as rfl) (rd_as (N := N__law_combined) rfl (under_cons rfl (under_cons rfl (under_nil))))
  obtain ⟨f8, fd8, D8, b8⟩ := at__law_degree X G c
  have g8 := g7.def_ (j := 43) (c := wOf F__law_degree) D8 (hj_as (by decide +kernel)) sc__law_degree b8 tr__law_degree bi sy gls (ar_as rfl) (rd_as (N := N__law_degree) rfl (under_cons rfl (under_nil)))
  obtain ⟨f9, fd9, D9, b9⟩ := at__law_words X G c
  have g9 := g8.def_ (j := 49) (c := wOf F__law_words) D9 (hj_as (by decide +kernel)) sc__law_words b9 tr__law_words bi sy gls (ar_as rfl) (rd_as (N := N__law_words) rfl (under_cons rfl (under_pick rfl (under_cons rfl (under_cons rfl (under_nil))))))
  obtain ⟨f10, fd10, D10, b10⟩ := at__law_of X G c
  have g10 := g9.def_ (j := 2) (c := wOf F__law_of) D10 (hj_as (by decide +kernel)) sc__law_of b10 tr__law_of bi sy gls (ar_as rfl) (rd_as (N := N__law_of) rfl (under_pick rfl (under_nil)))
  obtain ⟨f11, fd11, D11, b11⟩ := at_degree X G c
  have g11 := g10.def_ (j := 7) (c := wOf F_degree) D11 (hj_as (by decide +kernel)) sc_degree b11 tr_degree bi sy gls (ar_as rfl) (rd_as (N := N_degree) rfl (under_nil))
  obtain ⟨f12, fd12, D12, b12⟩ := at_word_degree X G c
  have g12 := g11.def_ (j := 9) (c := wOf F_word_degree) D12 (hj_as (by decide +kernel)) sc_word_degree b12 tr_word_degree bi sy gls (ar_as rfl) (rd_as (N := N_word_degree) rfl (under_cons rfl (under_nil)))
  obtain ⟨f13, fd13, D13, b13⟩ := at_leading_row X G c
  have g13 := g12.def_ (j := 12) (c := wOf F_leading_row) D13 (hj_as (by decide +kernel)) sc_leading_row b13 tr_leading_row bi sy gls (ar_as rfl) (rd_as (N := N_leading_row) rfl (under_cons rfl (under_nil)))
  obtain ⟨f14, fd14, D14, b14⟩ := at_words_added X G c
  have g14 := g13.def_ (j := 10) (c := wOf F_words_added) D14 (hj_as (by decide +kernel)) sc_words_added b14 tr_words_added bi sy gls (ar_as rfl) (rd_as (N := N_words_added) rfl (under_nil))
  obtain ⟨f15, fd15, D15, b15⟩ := at_tied_lot X G c
  have g15 := g14.def_ (j := 13) (c := wOf F_tied_lot) D15 (hj_as (by decide +kernel)) sc_tied_lot b15 tr_tied_lot bi sy gls (ar_as rfl) (rd_as (N := N_tied_lot) rfl (under_cons rfl (under_cons rfl (under_nil))))
  obtain ⟨f16, fd16, D16, b16⟩ := at__law_lots X G c
  have g16 := g15.def_ (j := 72) (c := wOf F__law_lots) D16 (hj_as (by decide +kernel)) sc__law_lots b16 tr__law_lots bi sy gls (ar_as rfl) (rd_as (N := N__law_lots) rfl (under_nil))
  obtain ⟨f17, fd17, D17, b17⟩ := at__law_leading X G c
  have g17 := g16.def_ (j := 47) (c := wOf F__law_leading) D17 (hj_as (by decide +kernel)) sc__law_leading b17 tr__law_leading bi sy gls (ar_as rfl) (rd_as (N := N__law_leading) rfl (under_cons rfl (under_nil)))
  obtain ⟨f18, fd18, D18, b18⟩ := at__law_is_tied X G c
  have g18 := g17.def_ (j := 73) (c := wOf F__law_is_tied) D18 (hj_as (by decide +kernel)) sc__law_is_tied b18 tr__law_is_tied bi sy gls (ar_as rfl) (rd_as (N := N__law_is_tied) rfl (under_cons rfl (under_cons rfl (under_nil))))
  obtain ⟨f19, fd19, D19, b19⟩ := at__law_lot_right X G c
  have g19 := g18.def_ (j := 76) (c := wOf F__law_lot_right) D19 (hj_as (by decide +kernel)) sc__law_lot_right b19 tr__law_lot_right bi sy gls (ar_as rfl) (rd_as (N := N__law_lot_right) rfl (under_cons rfl (under_cons rfl (under_cons rfl (under_pick rfl (under_cons rfl (under_cons rfl (under_cons rfl (under_nil)))))))))
  obtain ⟨f20, fd20, D20, b20⟩ := at_poly_product X G c
  have g20 := g19.def_ (j := 8) (c := wOf F_poly_product) D20 (hj_as (by decide +kernel)) sc_poly_product b20 tr_poly_product bi sy gls (ar_as rfl) (rd_as (N := N_poly_product) rfl (under_nil))
  obtain ⟨f21, fd21, D21, b21⟩ := at_word_times X G c
  have g21 := g20.def_ (j := 11) (c := wOf F_word_times) D21 (hj_as (by decide +kernel)) sc_word_times b21 tr_word_times bi sy gls (ar_as rfl) (rd_as (N := N_word_times) rfl (under_cons rfl (under_nil)))
  obtain ⟨f22, fd22, D22, b22⟩ := at_lot_sum X G c
  have g22 := g21.def_ (j := 14) (c := wOf F_lot_sum) D22 (hj_as (by decide +kernel)) sc_lot_sum b22 tr_lot_sum bi sy gls (ar_as rfl) (rd_as (N := N_lot_sum) rfl (under_cons rfl (under_cons rfl (under_cons rfl (under_nil)))))
  obtain ⟨f23, fd23, D23, b23⟩ := at_gone_down X G c
  have g23 := g22.def_ (j := 15) (c := wOf F_gone_down) D23 (hj_as (by decide +kernel)) sc_gone_down b23 tr_gone_down bi sy gls (ar_as rfl) (rd_as (N := N_gone_down) rfl (under_cons rfl (under_cons rfl (under_cons rfl (under_nil)))))
  obtain ⟨f24, fd24, D24, b24⟩ := at__law_gone_down X G c
  have g24 := g23.def_ (j := 74) (c := wOf F__law_gone_down) D24 (hj_as (by decide +kernel)) sc__law_gone_down b24 tr__law_gone_down bi sy gls (ar_as rfl) (rd_as (N := N__law_gone_down) rfl (under_cons rfl (under_cons rfl (under_cons rfl (under_cons rfl (under_cons rfl (under_nil)))))))
  obtain ⟨f25, fd25, D25, b25⟩ := at__law_is_of X G c
  have g25 := g24.def_ (j := 75) (c := wOf F__law_is_of) D25 (hj_as (by decide +kernel)) sc__law_is_of b25 tr__law_is_of bi sy gls (ar_as rfl) (rd_as (N := N__law_is_of) rfl (under_cons rfl (under_cons rfl (under_cons rfl (under_cons rfl (under_cons rfl (under_nil)))))))
  obtain ⟨fs, fds, Ds, bs⟩ := at__law_source X G c
  exact law_g (i := 1) F sc_law rfl rfl (by decide) rfl rfl rfl Ds.mg_ Ds.fun_.kp bs ((ok_source Ds.fun_ (bi _ (by decide)) (bi _ (by decide))).mono (by decide)) trl_law g25 bi sy gls (rd_law_of (F := Flaw) (under_pick rfl (under_cons rfl (under_cons rfl (under_cons rfl (under_cons rfl (under_cons rfl (under_cons rfl (under_cons rfl (under_cons rfl (under_cons rfl (under_cons rfl (under_nil)))))))))))) (Res.wq_iff.mp law_ok))
theorem law_holds : PySem.Challenge.rw_endlesscodes_k04_whole_well_led_and_tied.Holds := by
  w_on; o_law
  refine HandSHeadRun.head_any (r := HR) (q := PySem.W.view HR.prog [lawIx]) (H := hk) (ob := ob) (M := 2000) (loose := loose) (d := HandSHeadRun.topDef HR.prog lawIx) (kwd := []) ob_eq
    (by kernel_rfl) (fun s => by kernel_rfl) run (by kernel_rfl) (by kernel_rfl) (by kernel_rfl) (by rfl) (by first | assumption | decide +kernel) (by decide +kernel) ⟨rfl, rfl, rfl, rfl, rfl, by decide +kernel⟩ ?hw ?hc
  case hw => w_witness2
  case hc =>
    refine law_end (l := rw) (n := 63) (k := 26) (x := "script") rfl (by decide) (by kernel_rfl) ⟨rfl, by decide, by decide⟩ ?F (fun w h Y => Y.2)
    intro w mg fl h Y G hmg0
    obtain ⟨⟨K, KX, c⟩, _⟩ := Y
    have hmg : mg ("law" : PySem.Str) = some (.ref fl) := by
      have e : (HandSHeadRun.topDef HR.prog lawIx).name = ("law" : PySem.Str) := by kernel_rfl
      rw [← e]
      exact hmg0
    obtain ⟨f, fd, D, b⟩ := at_law KX G c
    have e := hmg.symm.trans D.mg_
    cases e
    have bn := FunD.bindsA (ps := ["script"]) D.fun_ fun _ _ _ _ _ _ us hl => match us, hl with | [_], _ => rfl
    exact ⟨K, fd, spLaw K, KX, fun s v => bn s [v] rfl, fun H a ns hl _ _ hS => ⟨a, ns, rfl, hS, hl, fun _ => rfl⟩, fun B _ _ sy => law_chain KX G c sy D.fun_⟩
end Law
theorem PySem.Challenge.cw_endlesscodes_k04_whole_well_led_and_tied_holds : PySem.Challenge.rw_endlesscodes_k04_whole_well_led_and_tied.Holds := by
  exact Law.law_holds
