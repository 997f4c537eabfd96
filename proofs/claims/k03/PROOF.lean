import PyProof.Rows.All
import Wide.All
import OpenK.AllK
import Wide.FinOn
import HandS.ForMost
import HandS.WordsExc
import HandS.Defaults
import HandS.Lambda
import HandS.ExcInit
import HandS.Exc
import HandS.Codes
import HandS.TupAny
import HandS.TupMul
import HandS.Deep
import HandS.Wide
import HandS.Walk
import HandS.Zip
import HandS.IsInst
import HandS.NoneIn
import HandS.Style
import HandS.EndTab
import HandS.EndOwn
import KE.GoesEnum
import HandS.DictComp
import HandS.More
import HandS.Strs
import HandS.SetFor
import HandS.MakeKwOnly
import HandS.HotCalls
import HandS.ExcField
import HandS.ExcIs
import KE.KExcIs
import KE.KStateDown
import Lean
import HandS.Head0
import HandS.Head1
import HandS.Head2
import HandS.HeadEnd
import HandS.HeadHook1
import HandS.HeadHook2
import PyProof.ReprRoads
import HandS.TupLe
import HandS.TryOnly
import HandS.ExcCtx
import HandS.TryMany
import HandS.HeadHook4
import HandS.NestedK
import KE.LtData
import KE.DataCmp
import HandS.MakeKw
import KE.KRevSl
import PyProof.TupleOfStr
import PySem.Challenge.RW_lasthands_k03_cases_refused
set_option Elab.async false
set_option maxRecDepth 100000
set_option maxHeartbeats 4000000
/-! Fw1: plain data in the abstract heap; a frozen part that only grows; judgements over data. -/
namespace Fw
open PySem PySem.Spec PyProof.Rows L2

/-- plain data -/
inductive D where
  | non | bl (b : Bool) | int (i : Int) | str (x : Str) | ty (n : String) | cls (C : Addr)
  | tup (xs : List D) | lst (xs : List D) | scr (ns : List Int)
  | dic (lk : Bool) (kvs : List (Key × D))
  | obj (C : Addr) (nm : List Str) (fs : List (Str × D))
  | ptr (a : Addr)
  | tun (xs : List D)
  | exc (C : Addr) (fs : List (Str × D))

/-- an exception's fields -/
def XdF (F : Hp) (d : Option Addr) (gs : List (Str × V)) : Prop := ∀ dx, d = some dx → F dx = some (exd dx gs)
theorem XdF.mono {F H : Hp} {d : Option Addr} {gs : List (Str × V)} (l : ∀ a o, F a = some o → H a = some o) (h : XdF F d gs) : XdF H d gs := fun dx e => l _ _ (h dx e)
/-- a tuple whose object is known to have no dict -/
def SqN (F : Hp) (a : Addr) (vs : List V) : Prop := ∃ o, F a = some (.frz o (.tup vs)) ∧ o.dict = none
theorem SqN.sq {K : PySem.W.Frag} {F : Hp} {a : Addr} {vs : List V} (h : SqN F a vs) : SqT K F a vs := .inl (.inr ⟨_, h.choose_spec.1⟩)
/-- a dict's cell: locked, or as it is -/
def DCell (F : Hp) (a : Addr) (kws : List (Key × V)) : Bool → Prop
  | true => ∃ od, F a = some (.frz od (.dK kws))
  | false => F a = some (.dK kws)
theorem DCell.rd {F : Hp} {a : Addr} {kws : List (Key × V)} : ∀ {lk : Bool}, DCell F a kws lk → Rd F a (.dK kws)
  | true, h => .inr h
  | false, h => .inl h
section
variable (K : PySem.W.Frag) (F : Hp)
mutual
/-- v stands for the data, as far as the part F of the heap tells -/
def Den : D → V → Prop
  | .non, v => v = .non
  | .bl b, v => v = .bl b
  | .int i, v => v = .int i
  | .str x, v => v = .str x
  | .ty n, v => v = .ty n
  | .cls C, v => v = .ref C
  | .tup ds, v => ∃ a vs, v = .ref a ∧ SqT K F a vs ∧ DenAll ds vs
  | .lst ds, v => ∃ a vs, v = .ref a ∧ F a = some (.lst vs) ∧ DenAll ds vs
  | .scr ns, v => ∃ a, v = .ref a ∧ SqL K F a (ns.map V.int)
  | .dic lk kvs, v => ∃ a kws, v = .ref a ∧ DCell F a kws lk ∧ DenKv kvs kws
  | .ptr a, v => v = .ref a
  | .tun ds, v => ∃ a vs, v = .ref a ∧ SqN F a vs ∧ DenAll ds vs
  | .exc C fs, v => ∃ a d gs, v = .ref a ∧ F a = some (exo a C d) ∧ XdF F d gs ∧ (d = none → fs = []) ∧ DenFs fs gs
  | .obj C nm fs, v => ∃ a dx gs, v = .ref a ∧ F a = some (.ins C dx gs) ∧ (∀ m, nm.contains m = false → gs.lookup m = none) ∧ DenFs fs gs
def DenAll : List D → List V → Prop
  | [], vs => vs = []
  | d :: ds, vs => ∃ v vs', vs = v :: vs' ∧ Den d v ∧ DenAll ds vs'
def DenKv : List (Key × D) → List (Key × V) → Prop
  | [], vs => vs = []
  | (k, d) :: ds, vs => ∃ v vs', vs = (k, v) :: vs' ∧ Den d v ∧ DenKv ds vs'
/-- the fields fs (at least) stand among gs -/
def DenFs : List (Str × D) → List (Str × V) → Prop
  | [], _ => True
  | (f, d) :: fs, gs => (∃ v, gs.lookup f = some v ∧ Den d v) ∧ DenFs fs gs
end
end

/-- F is a part of H -/
def FLe (F H : Hp) : Prop := ∀ a o, F a = some o → H a = some o
theorem FLe.refl (F : Hp) : FLe F F := fun _ _ e => e
theorem FLe.trans {F G H : Hp} (a : FLe F G) (b : FLe G H) : FLe F H := fun x o e => b x o (a x o e)
theorem FLe.eq {F H : Hp} {a : Addr} {o : HO} (l : FLe F H) (e : F a = some o) : H a = some o := l a o e
theorem FLe.none {F H : Hp} {a : Addr} (l : FLe F H) (e : H a = none) : F a = none := by
  cases q : F a with
  | none => rfl
  | some o =>
    rw [l a o q] at e
    cases e
theorem FLe.new {F : Hp} {p : Addr} {o : HO} (n : F p = Option.none) : FLe F (upd F p o) := fun b u e => by
  rw [upd_ne (ne_of_none e n)]
  exact e
theorem FLe.tup {K : PySem.W.Frag} {F H : Hp} {a : Addr} {xs : List V} (l : FLe F H) (h : SqT K F a xs) : SqT K H a xs := by
  rcases h with (h | ⟨o, h⟩) | h
  · exact .inl (.inl (l.eq h))
  · exact .inl (.inr ⟨o, l.eq h⟩)
  · exact .inr h
theorem FLe.seq {K : PySem.W.Frag} {F H : Hp} {a : Addr} {xs : List V} (l : FLe F H) (h : SqL K F a xs) : SqL K H a xs := by
  rcases h with (h | ⟨o, h⟩) | h
  · exact .inl (.inl (l.eq h))
  · exact .inl (.inr ⟨o, l.eq h⟩)
  · exact .inr h

theorem SqN.mono {F H : Hp} {a : Addr} {vs : List V} (h : SqN F a vs) (l : FLe F H) : SqN H a vs := ⟨_, l.eq h.choose_spec.1, h.choose_spec.2⟩
theorem DCell.mono {F H : Hp} (l : FLe F H) {a : Addr} {kws : List (Key × V)} : ∀ {lk : Bool}, DCell F a kws lk → DCell H a kws lk
  | true, ⟨od, e⟩ => ⟨od, l.eq e⟩
  | false, e => l a _ e
section
variable {K : PySem.W.Frag} {F H : Hp}
mutual
theorem Den.mono (l : FLe F H) : ∀ (d : D) (v : V), Den K F d v → Den K H d v
  | .non, v, h => h
  | .bl b, v, h => h
  | .int i, v, h => h
  | .str x, v, h => h
  | .ty n, v, h => h
  | .cls C, v, h => h
  | .ptr C, v, h => h
  | .tun ds, v, h => by
    obtain ⟨a, vs, e, q, r⟩ := h
    exact ⟨a, vs, e, q.mono l, DenAll.mono l ds vs r⟩
  | .tup ds, v, h => by
    obtain ⟨a, vs, e, q, r⟩ := h
    exact ⟨a, vs, e, l.tup q, DenAll.mono l ds vs r⟩
  | .lst ds, v, h => by
    obtain ⟨a, vs, e, q, r⟩ := h
    exact ⟨a, vs, e, l.eq q, DenAll.mono l ds vs r⟩
  | .scr ns, v, h => by
    obtain ⟨a, e, q⟩ := h
    exact ⟨a, e, l.seq q⟩
  | .dic lk kvs, v, h => by
    obtain ⟨a, vs, e, q, r⟩ := h
    exact ⟨a, vs, e, q.mono l, DenKv.mono l kvs vs r⟩
  | .obj C nm fs, v, h => by
    obtain ⟨a, dx, gs, e, q, n, r⟩ := h
    exact ⟨a, dx, gs, e, l.eq q, n, DenFs.mono l fs r⟩
  | .exc C fs, v, h => by
    obtain ⟨a, dx, gs, e, q, n, m, r⟩ := h
    exact ⟨a, dx, gs, e, l.eq q, n.mono l, m, DenFs.mono l fs r⟩
theorem DenAll.mono (l : FLe F H) : ∀ (ds : List D) (vs : List V), DenAll K F ds vs → DenAll K H ds vs
  | [], vs, h => h
  | d :: ds, vs, h => by
    obtain ⟨v, vs', e, q, r⟩ := h
    exact ⟨v, vs', e, Den.mono l d v q, DenAll.mono l ds vs' r⟩
theorem DenKv.mono (l : FLe F H) : ∀ (ds : List (Key × D)) (vs : List (Key × V)), DenKv K F ds vs → DenKv K H ds vs
  | [], vs, h => h
  | (k, d) :: ds, vs, h => by
    obtain ⟨v, vs', e, q, r⟩ := h
    exact ⟨v, vs', e, Den.mono l d v q, DenKv.mono l ds vs' r⟩
theorem DenFs.mono (l : FLe F H) {gs : List (Str × V)} : ∀ (fs : List (Str × D)), DenFs K F fs gs → DenFs K H fs gs
  | [], h => trivial
  | (f, d) :: fs, h => by
    obtain ⟨⟨v, e, q⟩, r⟩ := h
    exact ⟨⟨v, e, Den.mono l d v q⟩, DenFs.mono l fs r⟩
end
theorem DenAll.length : ∀ {ds : List D} {vs : List V}, DenAll K F ds vs → vs.length = ds.length
  | [], vs, h => by rw [show vs = [] from h]; rfl
  | d :: ds, vs, h => by
    obtain ⟨v, vs', rfl, _, r⟩ := h
    simp [DenAll.length r]
theorem DenAll.get : ∀ {ds : List D} {vs : List V} {i : Nat} {v : V}, DenAll K F ds vs → vs[i]? = some v → ∃ d, ds[i]? = some d ∧ Den K F d v
  | [], vs, i, v, h, e => by rw [show vs = [] from h] at e; simp at e
  | d :: ds, vs, 0, v, h, e => by
    obtain ⟨w, vs', rfl, q, r⟩ := h
    simp at e
    subst e
    exact ⟨d, rfl, q⟩
  | d :: ds, vs, i + 1, v, h, e => by
    obtain ⟨w, vs', rfl, q, r⟩ := h
    simp at e
    obtain ⟨d', e', q'⟩ := DenAll.get r e
    exact ⟨d', by simpa using e', q'⟩
theorem DenAll.get' : ∀ {ds : List D} {vs : List V} {i : Nat} {d : D}, DenAll K F ds vs → ds[i]? = some d → ∃ v, vs[i]? = some v ∧ Den K F d v
  | [], vs, i, v, h, e => by simp at e
  | d :: ds, vs, 0, d', h, e => by
    obtain ⟨w, vs', rfl, q, r⟩ := h
    simp at e
    subst e
    exact ⟨w, rfl, q⟩
  | d :: ds, vs, i + 1, d', h, e => by
    obtain ⟨w, vs', rfl, q, r⟩ := h
    simp at e
    obtain ⟨v', e', q'⟩ := DenAll.get' r e
    exact ⟨v', by simpa using e', q'⟩
theorem DenAll.append : ∀ {ds es : List D} {vs ws : List V}, DenAll K F ds vs → DenAll K F es ws → DenAll K F (ds ++ es) (vs ++ ws)
  | [], es, vs, ws, h, h' => by rw [show vs = [] from h]; exact h'
  | d :: ds, es, vs, ws, h, h' => by
    obtain ⟨v, vs', rfl, q, r⟩ := h
    exact ⟨v, vs' ++ ws, rfl, q, r.append h'⟩
theorem DenAll.single {d : D} {v : V} (h : Den K F d v) : DenAll K F [d] [v] := ⟨v, [], rfl, h, rfl⟩
theorem DenAll.drop : ∀ {ds : List D} {vs : List V} (n : Nat), DenAll K F ds vs → DenAll K F (ds.drop n) (vs.drop n)
  | ds, vs, 0, h => h
  | [], vs, n + 1, h => by rw [show vs = [] from h]; simp [DenAll]
  | d :: ds, vs, n + 1, h => by
    obtain ⟨v, vs', rfl, q, r⟩ := h
    exact DenAll.drop n r
theorem DenAll.take : ∀ {ds : List D} {vs : List V} (n : Nat), DenAll K F ds vs → DenAll K F (ds.take n) (vs.take n)
  | ds, vs, 0, h => by simp [DenAll]
  | [], vs, n + 1, h => by rw [show vs = [] from h]; simp [DenAll]
  | d :: ds, vs, n + 1, h => by
    obtain ⟨v, vs', rfl, q, r⟩ := h
    exact ⟨v, vs'.take n, rfl, q, DenAll.take n r⟩
theorem DenAll.set : ∀ {ds : List D} {vs : List V} (n : Nat) {d : D} {v : V}, DenAll K F ds vs → Den K F d v → DenAll K F (ds.set n d) (vs.set n v)
  | [], vs, n, d, v, h, q => by rw [show vs = [] from h]; simp [DenAll]
  | e :: ds, vs, 0, d, v, h, q => by
    obtain ⟨w, vs', rfl, _, r⟩ := h
    exact ⟨v, vs', rfl, q, r⟩
  | e :: ds, vs, n + 1, d, v, h, q => by
    obtain ⟨w, vs', rfl, p, r⟩ := h
    exact ⟨w, vs'.set n v, rfl, p, DenAll.set n r q⟩
theorem DenAll.ints : ∀ {ns : List Int} {vs : List V}, DenAll K F (ns.map D.int) vs ↔ vs = ns.map V.int
  | [], vs => Iff.rfl
  | n :: ns, vs => by
    constructor
    · rintro ⟨v, vs', rfl, q, r⟩
      rw [show v = .int n from q, (DenAll.ints (ns := ns)).mp r]
      rfl
    · rintro rfl
      exact ⟨.int n, ns.map V.int, rfl, rfl, (DenAll.ints (ns := ns)).mpr rfl⟩
theorem DenAll.strs : ∀ {ns : List Str} {vs : List V}, DenAll K F (ns.map D.str) vs ↔ vs = ns.map V.str
  | [], vs => Iff.rfl
  | n :: ns, vs => by
    constructor
    · rintro ⟨v, vs', rfl, q, r⟩
      rw [show v = .str n from q, (DenAll.strs (ns := ns)).mp r]
      rfl
    · rintro rfl
      exact ⟨.str n, ns.map V.str, rfl, rfl, (DenAll.strs (ns := ns)).mpr rfl⟩
theorem DenAll.bools : ∀ {ns : List Bool} {vs : List V}, DenAll K F (ns.map D.bl) vs ↔ vs = ns.map V.bl
  | [], vs => Iff.rfl
  | n :: ns, vs => by
    constructor
    · rintro ⟨v, vs', rfl, q, r⟩
      rw [show v = .bl n from q, (DenAll.bools (ns := ns)).mp r]
      rfl
    · rintro rfl
      exact ⟨.bl n, ns.map V.bl, rfl, rfl, (DenAll.bools (ns := ns)).mpr rfl⟩
theorem DenFs.look : ∀ {fs : List (Str × D)} {gs : List (Str × V)} {f : Str} {d : D}, DenFs K F fs gs → fs.lookup f = some d → ∃ v, gs.lookup f = some v ∧ Den K F d v
  | [], gs, f, d, h, e => by cases e
  | (g, d') :: fs, gs, f, d, h, e => by
    rw [List.lookup_cons] at e
    obtain ⟨⟨v, e1, q⟩, r⟩ := h
    cases z : (f == g) with
    | true =>
      rw [z] at e
      cases e
      rw [eq_of_beq z]
      exact ⟨v, e1, q⟩
    | false =>
      rw [z] at e
      exact DenFs.look r e
end

/-- no repr is under way -/
def Calm (A : Around) : Prop := A.guards = some []
theorem Calm.deeper {A : Around} (h : Calm A) (env : Env) : Calm (A.deeper env) := h
/-- room, and nothing under way -/
structure Rm (k : Nat) (A : Around) : Prop where
  room : Room k A
  calm : Calm A
theorem Rm.mono {j k : Nat} {A : Around} (r : Rm k A) (h : j ≤ k) : Rm j A := ⟨r.room.mono h, r.calm⟩
theorem Rm.deeper {k : Nat} {A : Around} (r : Rm (k + 1) A) (env : Env) : Rm k (A.deeper env) := ⟨r.room.deeper env, r.calm.deeper env⟩
theorem Rm.make {k : Nat} {A : Around} (r : Rm (k + 1) A) (C : Addr) (us : List Value) (kw : List (Str × Value)) : Rm k (A.under (.builtin "type.__call__" ⟨.ref C :: us, kw⟩)) := by
  refine ⟨r.room.make C us kw, ?_⟩
  have h := r.calm
  unfold Calm at h ⊢
  first
    | exact h
    | (show pushGuards (Code.guards _) A.guards = _
       rw [h]
       rfl)
/-! ### growing -/
/-- all that is no table of code objects -/
def NT (o : HO) : Prop := ∀ ps, o ≠ .tbl ps
/-- what the text has made, the tables of code objects -/
structure Zd where
  P : Program
  w : World
  K : PySem.W.Frag
  mg : Str → Option Value
  base : Heap
  T : List (Addr × Str)
  cd : List (Addr × Str)
/-- the tables, some code objects -/
def Zd.Tb (Z : Zd) (H : Hp) : Prop := LamX.Tabs Z.T H ∧ ∀ p ∈ Z.cd, H p.1 = some (LamX.CodeO p.1 p.2)
theorem Zd.Tb.ext {Z : Zd} {H H' : Hp} (t : Z.Tb H) (e : ∀ b o, H b = some o → H' b = some o) : Z.Tb H' := ⟨t.1.ext e, fun p hp => e _ _ (t.2 p hp)⟩
/-- nothing that stood has changed (but the tables); what is frozen grew by new addresses -/
structure Grow (Z : Zd) (F H F' H' : Hp) : Prop where
  same : ∀ b o, H b = some o → NT o → H' b = some o
  fle : FLe F F'
  le : FLe F' H'
  new : ∀ a, H a ≠ none → F a = none → F' a = none
  dom : ∀ a, H a ≠ none → H' a ≠ none
  tabs : Z.Tb H → Z.Tb H'
  nt : (∀ b o, F b = some o → NT o) → ∀ b o, F' b = some o → NT o
section
variable {Z : Zd}
theorem Grow.refl {F H : Hp} (l : FLe F H) : Grow Z F H F H := ⟨fun _ _ e _ => e, .refl F, l, fun _ _ e => e, fun _ h => h, fun h => h, fun h => h⟩
theorem Grow.trans {F H F1 H1 F2 H2 : Hp} (a : Grow Z F H F1 H1) (b : Grow Z F1 H1 F2 H2) : Grow Z F H F2 H2 :=
  ⟨fun x o e n => b.same x o (a.same x o e n) n, a.fle.trans b.fle, b.le, fun x n e => b.new x (a.dom x n) (a.new x n e), fun x h => b.dom x (a.dom x h), fun h => b.tabs (a.tabs h), fun h => b.nt (a.nt h)⟩
theorem upd_fle {F H : Hp} {p : Addr} {o : HO} (l : FLe F H) (n : H p = none) : FLe (upd F p o) (upd H p o) := fun b u e => by
  by_cases hb : b = p
  · subst hb
    rw [upd_same] at e ⊢
    exact e
  · rw [upd_ne hb] at e ⊢
    exact l b u e
theorem upd_dom {H : Hp} {a b : Addr} {o : HO} (h : H b ≠ none) : upd H a o b ≠ none := by
  by_cases e : b = a
  · rw [e, upd_same]; exact fun z => nomatch z
  · rw [upd_ne e]; exact h
theorem Grow.alloc {F H : Hp} {p : Addr} {o : HO} (l : FLe F H) (n : H p = none) (no : NT o := by intro _ z; cases z) : Grow Z F H (upd F p o) (upd H p o) := by
  refine ⟨fun b u e _ => by rw [upd_ne (ne_of_none e n)]; exact e, FLe.new (l.none n), upd_fle l n, fun a h e => ?_, fun a h => upd_dom h, fun h => h.ext fun b u e => by rw [upd_ne (ne_of_none e n)]; exact e, fun h b u e => ?_⟩
  · have hb : a ≠ p := fun z => by rw [z] at h; exact h n
    rw [upd_ne hb]
    exact e
  · by_cases hb : b = p
    · rw [hb, upd_same] at e
      cases e
      exact no
    · rw [upd_ne hb] at e
      exact h b u e
/-- a list, a dict of one's own is written: the tables stay -/
theorem tabs_updT {H : Hp} {a : Addr} {o o' : HO} {T : List (Addr × Str)} (h : LamX.Tabs T H) (e : H a = some o) (n : NT o) (m : ∀ φ, o ≠ .ext φ) : LamX.Tabs T (upd H a o') := fun p hp => by
  obtain ⟨ps, h1, h2, h3⟩ := h p hp
  refine ⟨ps, ?_, h2, fun pos cv hc => ?_⟩
  · rw [upd_ne (fun z => n ps (by rw [z, e] at h1; exact Option.some.inj h1))]
    exact h1
  · obtain ⟨q, e1, e2⟩ := h3 pos cv hc
    refine ⟨q, e1, ?_⟩
    rw [upd_ne (fun z => m _ (by rw [z, e] at e2; exact Option.some.inj e2))]
    exact e2
theorem tabs_upd {Z : Zd} {H : Hp} {a : Addr} {o o' : HO} (h : Z.Tb H) (e : H a = some o) (n : NT o) (m : ∀ φ, o ≠ .ext φ) : Z.Tb (upd H a o') :=
  ⟨tabs_updT h.1 e n m, fun p hp => by
    have q := h.2 p hp
    rw [upd_ne (fun z => m _ (by rw [z, e] at q; exact Option.some.inj q))]
    exact q⟩
end
theorem den_tup {K : PySem.W.Frag} {F : Hp} {p : Addr} {ds : List D} {vs : List V} (n : F p = none) (h : DenAll K F ds vs) : Den K (upd F p (.tup vs)) (.tup ds) (.ref p) :=
  ⟨p, vs, rfl, SqT.of upd_same, DenAll.mono (FLe.new n) ds vs h⟩
theorem den_lst {K : PySem.W.Frag} {F : Hp} {p : Addr} {ds : List D} {vs : List V} (n : F p = none) (h : DenAll K F ds vs) : Den K (upd F p (.lst vs)) (.lst ds) (.ref p) :=
  ⟨p, vs, rfl, upd_same, DenAll.mono (FLe.new n) ds vs h⟩

/-! ### the state of a frame over data -/
/-- the thing at f can be called with frozen data -/
def Callable (Z : Zd) (k : Nat) (kp : Addr → Obj → Prop) (F : Hp) (f : Addr) (S : List D → (D → Prop) → Prop) : Prop := (∀ h : Heap, (∀ b o, kp b o → h.get? b = some o) → PySem.W.FnAt f h) ∧ ∀ (A : Around) (outer : List Env) (s : Shared) (H : Hp) (us : List Value) (vs : List V) (Q : VK) (F1 : Hp) (ds : List D),
  Rm k A → Env0 Z.P Z.w Z.K Z.mg Z.base A outer s H → (∀ b o, kp b o → s.heap.get? b = some o ∧ H b = none) → FLe F F1 → FLe F1 H → (∀ b o, F1 b = some o → NT o) → Z.Tb H → Vals vs us → DenAll Z.K F1 ds vs → S ds (fun r => ∀ v F' H', Grow Z F1 H F' H' → Den Z.K F' r v → Q v H') →
  codeAny (model Z.P Z.w) A (.call (.ref f) ⟨us, []⟩) (CR CX0 outer Z.P Z.w H s Q E0) s
theorem Callable.mono {Z : Zd} {k : Nat} {kp : Addr → Obj → Prop} {F F' : Hp} {f : Addr} {S : List D → (D → Prop) → Prop} (h : Callable Z k kp F f S) (l : FLe F F') : Callable Z k kp F' f S := ⟨h.1, fun A outer s H us vs Q F1 ds r e kk l1 => h.2 A outer s H us vs Q F1 ds r e kk (l.trans l1)⟩
/-! ### own trees -/
/-- what is one's own: frozen data at the leaves; flat lists, dicts; nested ones; objects; what was lent (at a) -/
inductive Tr where
  | d (x : D) | fl (ds : List D) | l (ts : List Tr) | fm (kvs : List (Key × D)) | m (kts : List (Key × Tr)) | o (C : Addr) (nm : List Str) (fts : List (Str × Tr)) | hole (a : Addr)
section
variable (K : PySem.W.Frag) (F H : Hp)
mutual
/-- the tree at v, its own cells -/
def OwnT : Tr → V → List Addr → Prop
  | .d x, v, as => as = [] ∧ Den K F x v
  | .fl ds, v, as => ∃ a vs, v = .ref a ∧ as = [a] ∧ H a = some (.lst vs) ∧ DenAll K F ds vs
  | .fm kvs, v, as => ∃ a kws, v = .ref a ∧ as = [a] ∧ H a = some (.dK kws) ∧ DenKv K F kvs kws
  | .l ts, v, as => ∃ a vs bs, v = .ref a ∧ as = a :: bs ∧ H a = some (.lst vs) ∧ OwnTs ts vs bs
  | .m kts, v, as => ∃ a kws bs, v = .ref a ∧ as = a :: bs ∧ H a = some (.dK kws) ∧ OwnKs kts kws bs
  | .o C nm fts, v, as => ∃ a dx gs bs, v = .ref a ∧ as = a :: bs ∧ H a = some (.ins C dx gs) ∧ ((∀ m, nm.contains m = false → gs.lookup m = none) ∧ gs.length ≤ fts.length) ∧ OwnFs fts gs bs
  | .hole a, v, as => v = .ref a ∧ as = []
def OwnTs : List Tr → List V → List Addr → Prop
  | [], vs, as => vs = [] ∧ as = []
  | t :: ts, vs, as => ∃ v vs' bs cs, vs = v :: vs' ∧ as = bs ++ cs ∧ OwnT t v bs ∧ OwnTs ts vs' cs
def OwnKs : List (Key × Tr) → List (Key × V) → List Addr → Prop
  | [], vs, as => vs = [] ∧ as = []
  | (k, t) :: ts, vs, as => ∃ v vs' bs cs, vs = (k, v) :: vs' ∧ as = bs ++ cs ∧ OwnT t v bs ∧ OwnKs ts vs' cs
def OwnFs : List (Str × Tr) → List (Str × V) → List Addr → Prop
  | [], _, as => as = []
  | (f, t) :: fts, gs, as => ∃ v bs cs, gs.lookup f = some v ∧ as = bs ++ cs ∧ OwnT t v bs ∧ OwnFs fts gs cs
end
end
/-- a list, a dict, an instance -/
inductive Nd : HO → Prop
  | lst {xs : List V} : Nd (.lst xs)
  | dK {xs : List (Key × V)} : Nd (.dK xs)
  | ins {C dx : Addr} {gs : List (Str × V)} : Nd (.ins C dx gs)
theorem Nd.nt {o : HO} (h : Nd o) : NT o := by cases h <;> exact fun _ z => nomatch z
section
variable {K : PySem.W.Frag} {F H F' H' : Hp}
mutual
theorem OwnT.grow (l : FLe F F') : ∀ (t : Tr) {v : V} {as : List Addr}, OwnT K F H t v as → (∀ b ∈ as, ∀ u, H b = some u → NT u → H' b = some u) → OwnT K F' H' t v as
  | .d x, v, as, h, _ => ⟨h.1, Den.mono l x v h.2⟩
  | .fl ds, v, as, h, k => by
    obtain ⟨a, vs, rfl, rfl, e, r⟩ := h
    exact ⟨a, vs, rfl, rfl, k a (by simp) _ e (fun _ z => nomatch z), DenAll.mono l ds vs r⟩
  | .fm ds, v, as, h, k => by
    obtain ⟨a, vs, rfl, rfl, e, r⟩ := h
    exact ⟨a, vs, rfl, rfl, k a (by simp) _ e (fun _ z => nomatch z), DenKv.mono l ds vs r⟩
  | .l ts, v, as, h, k => by
    obtain ⟨a, vs, bs, rfl, rfl, e, r⟩ := h
    exact ⟨a, vs, bs, rfl, rfl, k a (by simp) _ e (fun _ z => nomatch z), OwnTs.grow l ts r fun b hb => k b (List.mem_cons_of_mem _ hb)⟩
  | .m ts, v, as, h, k => by
    obtain ⟨a, vs, bs, rfl, rfl, e, r⟩ := h
    exact ⟨a, vs, bs, rfl, rfl, k a (by simp) _ e (fun _ z => nomatch z), OwnKs.grow l ts r fun b hb => k b (List.mem_cons_of_mem _ hb)⟩
  | .o C nm fts, v, as, h, k => by
    obtain ⟨a, dx, gs, bs, rfl, rfl, e, n, r⟩ := h
    exact ⟨a, dx, gs, bs, rfl, rfl, k a (by simp) _ e (fun _ z => nomatch z), n, OwnFs.grow l fts r fun b hb => k b (List.mem_cons_of_mem _ hb)⟩
  | .hole a, v, as, h, _ => h
theorem OwnTs.grow (l : FLe F F') : ∀ (ts : List Tr) {vs : List V} {as : List Addr}, OwnTs K F H ts vs as → (∀ b ∈ as, ∀ u, H b = some u → NT u → H' b = some u) → OwnTs K F' H' ts vs as
  | [], _, _, h, _ => h
  | t :: ts, vs, as, h, k => by
    obtain ⟨v, vs', bs, cs, rfl, rfl, q, r⟩ := h
    exact ⟨v, vs', bs, cs, rfl, rfl, OwnT.grow l t q fun b hb => k b (List.mem_append_left _ hb), OwnTs.grow l ts r fun b hb => k b (List.mem_append_right _ hb)⟩
theorem OwnKs.grow (l : FLe F F') : ∀ (ts : List (Key × Tr)) {vs : List (Key × V)} {as : List Addr}, OwnKs K F H ts vs as → (∀ b ∈ as, ∀ u, H b = some u → NT u → H' b = some u) → OwnKs K F' H' ts vs as
  | [], _, _, h, _ => h
  | (x, t) :: ts, vs, as, h, k => by
    obtain ⟨v, vs', bs, cs, rfl, rfl, q, r⟩ := h
    exact ⟨v, vs', bs, cs, rfl, rfl, OwnT.grow l t q fun b hb => k b (List.mem_append_left _ hb), OwnKs.grow l ts r fun b hb => k b (List.mem_append_right _ hb)⟩
theorem OwnFs.grow (l : FLe F F') : ∀ (fts : List (Str × Tr)) {gs : List (Str × V)} {as : List Addr}, OwnFs K F H fts gs as → (∀ b ∈ as, ∀ u, H b = some u → NT u → H' b = some u) → OwnFs K F' H' fts gs as
  | [], _, _, h, _ => h
  | (f, t) :: ts, gs, as, h, k => by
    obtain ⟨v, bs, cs, e, rfl, q, r⟩ := h
    exact ⟨v, bs, cs, e, rfl, OwnT.grow l t q fun b hb => k b (List.mem_append_left _ hb), OwnFs.grow l ts r fun b hb => k b (List.mem_append_right _ hb)⟩
end
mutual
theorem OwnT.there : ∀ (t : Tr) {v : V} {as : List Addr}, OwnT K F H t v as → ∀ b ∈ as, ∃ u, H b = some u ∧ Nd u
  | .d x, v, as, h, b, hb => by rw [h.1] at hb; cases hb
  | .fl ds, v, as, h, b, hb => by
    obtain ⟨a, vs, rfl, rfl, e, r⟩ := h
    rw [List.mem_singleton.mp hb]
    exact ⟨_, e, .lst⟩
  | .fm ds, v, as, h, b, hb => by
    obtain ⟨a, vs, rfl, rfl, e, r⟩ := h
    rw [List.mem_singleton.mp hb]
    exact ⟨_, e, .dK⟩
  | .l ts, v, as, h, b, hb => by
    obtain ⟨a, vs, bs, rfl, rfl, e, r⟩ := h
    rcases List.mem_cons.mp hb with rfl | hb
    · exact ⟨_, e, .lst⟩
    · exact OwnTs.there ts r b hb
  | .m ts, v, as, h, b, hb => by
    obtain ⟨a, vs, bs, rfl, rfl, e, r⟩ := h
    rcases List.mem_cons.mp hb with rfl | hb
    · exact ⟨_, e, .dK⟩
    · exact OwnKs.there ts r b hb
  | .o C nm fts, v, as, h, b, hb => by
    obtain ⟨a, dx, gs, bs, rfl, rfl, e, n, r⟩ := h
    rcases List.mem_cons.mp hb with rfl | hb
    · exact ⟨_, e, .ins⟩
    · exact OwnFs.there fts r b hb
  | .hole a, v, as, h, b, hb => by rw [h.2] at hb; cases hb
theorem OwnTs.there : ∀ (ts : List Tr) {vs : List V} {as : List Addr}, OwnTs K F H ts vs as → ∀ b ∈ as, ∃ u, H b = some u ∧ Nd u
  | [], _, _, h, b, hb => by rw [h.2] at hb; cases hb
  | t :: ts, vs, as, h, b, hb => by
    obtain ⟨v, vs', bs, cs, rfl, rfl, q, r⟩ := h
    rcases List.mem_append.mp hb with hb | hb
    · exact OwnT.there t q b hb
    · exact OwnTs.there ts r b hb
theorem OwnKs.there : ∀ (ts : List (Key × Tr)) {vs : List (Key × V)} {as : List Addr}, OwnKs K F H ts vs as → ∀ b ∈ as, ∃ u, H b = some u ∧ Nd u
  | [], _, _, h, b, hb => by rw [h.2] at hb; cases hb
  | (x, t) :: ts, vs, as, h, b, hb => by
    obtain ⟨v, vs', bs, cs, rfl, rfl, q, r⟩ := h
    rcases List.mem_append.mp hb with hb | hb
    · exact OwnT.there t q b hb
    · exact OwnKs.there ts r b hb
theorem OwnFs.there : ∀ (fts : List (Str × Tr)) {gs : List (Str × V)} {as : List Addr}, OwnFs K F H fts gs as → ∀ b ∈ as, ∃ u, H b = some u ∧ Nd u
  | [], _, _, h, b, hb => by rw [show _ = [] from h] at hb; cases hb
  | (f, t) :: ts, gs, as, h, b, hb => by
    obtain ⟨v, bs, cs, e, rfl, q, r⟩ := h
    rcases List.mem_append.mp hb with hb | hb
    · exact OwnT.there t q b hb
    · exact OwnFs.there ts r b hb
end
end
mutual
/-- a tree as data -/
def Tr.toD : Tr → D
  | .d x => x
  | .fl ds => .lst ds
  | .fm kvs => .dic false kvs
  | .l ts => .lst (toDs ts)
  | .m kts => .dic false (toDk kts)
  | .o C nm fts => .obj C nm (toDf fts)
  | .hole _ => .non
def toDs : List Tr → List D
  | [] => []
  | t :: ts => t.toD :: toDs ts
def toDk : List (Key × Tr) → List (Key × D)
  | [] => []
  | (k, t) :: ts => (k, t.toD) :: toDk ts
def toDf : List (Str × Tr) → List (Str × D)
  | [] => []
  | (k, t) :: ts => (k, t.toD) :: toDf ts
end
mutual
def Tr.whole : Tr → Bool
  | .hole _ => false
  | .l ts => wholes ts
  | .m kts => wholek kts
  | .o _ _ fts => wholef fts
  | _ => true
def wholes : List Tr → Bool
  | [] => true
  | t :: ts => t.whole && wholes ts
def wholek : List (Key × Tr) → Bool
  | [] => true
  | (_, t) :: ts => t.whole && wholek ts
def wholef : List (Str × Tr) → Bool
  | [] => true
  | (_, t) :: ts => t.whole && wholef ts
end
section
variable {K : PySem.W.Frag} {F H F' : Hp}
mutual
theorem OwnT.den (l : FLe F F') : ∀ (t : Tr) {v : V} {as : List Addr}, t.whole = true → OwnT K F H t v as → (∀ a ∈ as, ∀ o, H a = some o → F' a = some o) → Den K F' t.toD v
  | .d x, v, as, _, h, _ => Den.mono l x v h.2
  | .fl ds, v, as, _, h, k => by
    obtain ⟨a, vs, rfl, rfl, e, r⟩ := h
    exact ⟨a, vs, rfl, k a (by simp) _ e, DenAll.mono l ds vs r⟩
  | .fm ds, v, as, _, h, k => by
    obtain ⟨a, vs, rfl, rfl, e, r⟩ := h
    exact ⟨a, vs, rfl, k a (by simp) _ e, DenKv.mono l ds vs r⟩
  | .l ts, v, as, w, h, k => by
    obtain ⟨a, vs, bs, rfl, rfl, e, r⟩ := h
    exact ⟨a, vs, rfl, k a (by simp) _ e, OwnTs.den l ts w r fun b hb => k b (List.mem_cons_of_mem _ hb)⟩
  | .m ts, v, as, w, h, k => by
    obtain ⟨a, vs, bs, rfl, rfl, e, r⟩ := h
    exact ⟨a, vs, rfl, k a (by simp) _ e, OwnKs.den l ts w r fun b hb => k b (List.mem_cons_of_mem _ hb)⟩
  | .o C nm fts, v, as, w, h, k => by
    obtain ⟨a, dx, gs, bs, rfl, rfl, e, n, r⟩ := h
    exact ⟨a, dx, gs, rfl, k a (by simp) _ e, n.1, OwnFs.den l fts w r fun b hb => k b (List.mem_cons_of_mem _ hb)⟩
  | .hole a, v, as, w, _, _ => by cases w
theorem OwnTs.den (l : FLe F F') : ∀ (ts : List Tr) {vs : List V} {as : List Addr}, wholes ts = true → OwnTs K F H ts vs as → (∀ a ∈ as, ∀ o, H a = some o → F' a = some o) → DenAll K F' (toDs ts) vs
  | [], _, _, _, h, _ => h.1
  | t :: ts, vs, as, w, h, k => by
    obtain ⟨v, vs', bs, cs, rfl, rfl, q, r⟩ := h
    have w : (t.whole && wholes ts) = true := w
    rw [Bool.and_eq_true] at w
    exact ⟨v, vs', rfl, OwnT.den l t w.1 q fun b hb => k b (List.mem_append_left _ hb), OwnTs.den l ts w.2 r fun b hb => k b (List.mem_append_right _ hb)⟩
theorem OwnKs.den (l : FLe F F') : ∀ (ts : List (Key × Tr)) {vs : List (Key × V)} {as : List Addr}, wholek ts = true → OwnKs K F H ts vs as → (∀ a ∈ as, ∀ o, H a = some o → F' a = some o) → DenKv K F' (toDk ts) vs
  | [], _, _, _, h, _ => h.1
  | (x, t) :: ts, vs, as, w, h, k => by
    obtain ⟨v, vs', bs, cs, rfl, rfl, q, r⟩ := h
    have w : (t.whole && wholek ts) = true := w
    rw [Bool.and_eq_true] at w
    exact ⟨v, vs', rfl, OwnT.den l t w.1 q fun b hb => k b (List.mem_append_left _ hb), OwnKs.den l ts w.2 r fun b hb => k b (List.mem_append_right _ hb)⟩
theorem OwnFs.den (l : FLe F F') : ∀ (fts : List (Str × Tr)) {gs : List (Str × V)} {as : List Addr}, wholef fts = true → OwnFs K F H fts gs as → (∀ a ∈ as, ∀ o, H a = some o → F' a = some o) → DenFs K F' (toDf fts) gs
  | [], _, _, _, _, _ => trivial
  | (f, t) :: ts, gs, as, w, h, k => by
    obtain ⟨v, bs, cs, e, rfl, q, r⟩ := h
    have w : (t.whole && wholef ts) = true := w
    rw [Bool.and_eq_true] at w
    exact ⟨⟨v, e, OwnT.den l t w.1 q fun b hb => k b (List.mem_append_left _ hb)⟩, OwnFs.den l ts w.2 r fun b hb => k b (List.mem_append_right _ hb)⟩
end
end
/-! ### paths -/
inductive Pst where
  | ix (j : Nat) | ky (k : Key) | fd (f : Str)
def setKy (k : Key) (t : Tr) : List (Key × Tr) → List (Key × Tr)
  | [] => []
  | (x, u) :: r => if x = k then (x, t) :: r else (x, u) :: setKy k t r
def setFd (k : Str) (t : Tr) : List (Str × Tr) → List (Str × Tr)
  | [] => []
  | (x, u) :: r => if x = k then (x, t) :: r else (x, u) :: setFd k t r
theorem len_setFd (k : Str) (t : Tr) : ∀ l : List (Str × Tr), (setFd k t l).length = l.length
  | [] => rfl
  | (x, u) :: r => by
    unfold setFd
    by_cases e : x = k
    · rw [if_pos e]; rfl
    · rw [if_neg e, List.length_cons, len_setFd k t r]; rfl
def getKy (k : Key) {α : Type} : List (Key × α) → Option α
  | [] => none
  | (x, u) :: r => if x = k then some u else getKy k r
def getFd (k : Str) {α : Type} : List (Str × α) → Option α
  | [] => none
  | (x, u) :: r => if x = k then some u else getFd k r
def Tr.kid : Tr → Pst → Option Tr
  | .l ts, .ix j => ts[j]?
  | .m kts, .ky k => getKy k kts
  | .o _ _ fts, .fd f => getFd f fts
  | _, _ => none
def Tr.setKid : Tr → Pst → Tr → Tr
  | .l ts, .ix j, t => .l (ts.set j t)
  | .m kts, .ky k, t => .m (setKy k t kts)
  | .o C nm fts, .fd f, t => .o C nm (setFd f t fts)
  | u, _, _ => u
def Tr.get : Tr → List Pst → Option Tr
  | t, [] => some t
  | t, s :: p => (t.kid s).bind fun u => u.get p
def Tr.put : Tr → List Pst → Tr → Tr
  | _, [], n => n
  | t, s :: p, n => match t.kid s with
    | some u => t.setKid s (u.put p n)
    | none => t
/-- following a path in the heap -/
def fol1 (H : Hp) (a : Addr) (s : Pst) : Option V :=
  match s, H a with
  | .ix j, some (.lst vs) => vs[j]?
  | .ky k, some (.dK kws) => getKy k kws
  | .fd f, some (.ins _ _ gs) => gs.lookup f
  | _, _ => none
def fol (H : Hp) : V → List Pst → Option V
  | v, [] => some v
  | .ref a, s :: p => (fol1 H a s).bind fun w => fol H w p
  | _, _ :: _ => none
section
variable {K : PySem.W.Frag} {F H F' H' : Hp}
theorem fol1.mono {a : Addr} {s : Pst} {w : V} (k : ∀ o, H a = some o → NT o → H' a = some o) (h : fol1 H a s = some w) : fol1 H' a s = some w := by
  unfold fol1 at h ⊢
  cases e : H a with
  | none => rw [e] at h; cases s <;> cases h
  | some o =>
    rw [e] at h
    cases o with
    | lst vs => rw [k _ e (fun _ z => nomatch z)]; exact h
    | dK vs => rw [k _ e (fun _ z => nomatch z)]; exact h
    | ins C dx gs => rw [k _ e (fun _ z => nomatch z)]; exact h
    | _ => cases s <;> cases h
theorem fol.mono (k : ∀ a o, H a = some o → NT o → H' a = some o) : ∀ {p : List Pst} {v w : V}, fol H v p = some w → fol H' v p = some w
  | [], v, w, h => h
  | s :: p, v, w, h => by
    cases v with
    | ref a =>
      unfold fol at h ⊢
      cases e : fol1 H a s with
      | none => rw [e] at h; cases h
      | some u =>
        rw [e] at h
        rw [fol1.mono (k a) e]
        exact fol.mono k h
    | _ => cases h
/-- one among several -/
theorem OwnTs.kid : ∀ {ts : List Tr} {vs : List V} {as : List Addr} {j : Nat} {t : Tr}, OwnTs K F H ts vs as → ts[j]? = some t → ∃ v as1 bs as2, vs[j]? = some v ∧ as = as1 ++ bs ++ as2 ∧ OwnT K F H t v bs ∧
    ∀ {t' : Tr} {v' : V} {bs' : List Addr} {F' H' : Hp}, FLe F F' → (∀ b ∈ as1 ++ as2, ∀ u, H b = some u → NT u → H' b = some u) → OwnT K F' H' t' v' bs' → OwnTs K F' H' (ts.set j t') (vs.set j v') (as1 ++ bs' ++ as2)
  | [], _, _, _, _, h, e => by simp at e
  | u :: ts, vs, as, 0, t, h, e => by
    obtain ⟨v, vs', bs, cs, rfl, rfl, q, r⟩ := h
    simp at e
    subst e
    exact ⟨v, [], bs, cs, rfl, by simp, q, fun l k h' => ⟨_, vs', _, cs, rfl, by simp, h', r.grow l _ fun b hb => k b (by simpa using hb)⟩⟩
  | u :: ts, vs, as, j + 1, t, h, e => by
    obtain ⟨v, vs', bs, cs, rfl, rfl, q, r⟩ := h
    simp at e
    obtain ⟨w, a1, b1, a2, e1, rfl, q1, f1⟩ := OwnTs.kid r e
    exact ⟨w, bs ++ a1, b1, a2, by simpa using e1, by simp, q1, fun l k h' => ⟨v, _, bs, _, rfl, by simp, q.grow l _ fun b hb => k b (by simp [hb]), f1 l (fun b hb => k b (by simp only [List.append_assoc, List.mem_append] at hb ⊢; exact .inr hb)) h'⟩⟩
theorem set_same {α : Type} {l : List α} {j : Nat} {x : α} (h : l[j]? = some x) : l.set j x = l := by
  refine List.ext_getElem? fun i => ?_
  by_cases e : j = i
  · subst e
    rw [List.getElem?_set_self (List.getElem?_eq_some_iff.mp h).1, h]
  · rw [List.getElem?_set_ne e]
theorem OwnKs.kid : ∀ {ts : List (Key × Tr)} {vs : List (Key × V)} {as : List Addr} {j : Key} {t : Tr}, OwnKs K F H ts vs as → getKy j ts = some t → ∃ v as1 bs as2, getKy j vs = some v ∧ as = as1 ++ bs ++ as2 ∧ OwnT K F H t v bs ∧
    ∀ {t' : Tr} {bs' : List Addr} {F' H' : Hp}, FLe F F' → (∀ b ∈ as1 ++ as2, ∀ u, H b = some u → NT u → H' b = some u) → OwnT K F' H' t' v bs' → OwnKs K F' H' (setKy j t' ts) vs (as1 ++ bs' ++ as2)
  | [], _, _, _, _, h, e => by cases e
  | (x, u) :: ts, vs, as, j, t, h, e => by
    obtain ⟨v, vs', bs, cs, rfl, rfl, q, r⟩ := h
    unfold getKy at e
    by_cases z : x = j
    · rw [if_pos z] at e
      cases e
      refine ⟨v, [], bs, cs, by unfold getKy; rw [if_pos z], by simp, q, fun l k h' => ?_⟩
      unfold setKy
      rw [if_pos z]
      exact ⟨_, vs', _, cs, rfl, by simp, h', r.grow l _ fun b hb => k b (by simpa using hb)⟩
    · rw [if_neg z] at e
      obtain ⟨w, a1, b1, a2, e1, rfl, q1, f1⟩ := OwnKs.kid r e
      refine ⟨w, bs ++ a1, b1, a2, by unfold getKy; rw [if_neg z]; exact e1, by simp, q1, fun l k h' => ?_⟩
      unfold setKy
      rw [if_neg z]
      exact ⟨v, _, bs, _, rfl, by simp, q.grow l _ fun b hb => k b (by simp [hb]), f1 l (fun b hb => k b (by simp only [List.append_assoc, List.mem_append] at hb ⊢; exact .inr hb)) h'⟩
theorem OwnFs.kid : ∀ {ts : List (Str × Tr)} {vs : List (Str × V)} {as : List Addr} {j : Str} {t : Tr}, OwnFs K F H ts vs as → getFd j ts = some t → ∃ v as1 bs as2, vs.lookup j = some v ∧ as = as1 ++ bs ++ as2 ∧ OwnT K F H t v bs ∧
    ∀ {t' : Tr} {bs' : List Addr} {F' H' : Hp}, FLe F F' → (∀ b ∈ as1 ++ as2, ∀ u, H b = some u → NT u → H' b = some u) → OwnT K F' H' t' v bs' → OwnFs K F' H' (setFd j t' ts) vs (as1 ++ bs' ++ as2)
  | [], _, _, _, _, h, e => by cases e
  | (x, u) :: ts, vs, as, j, t, h, e => by
    obtain ⟨v, bs, cs, e0, rfl, q, r⟩ := h
    unfold getFd at e
    by_cases z : x = j
    · rw [if_pos z] at e
      cases e
      refine ⟨v, [], bs, cs, by rw [← z]; exact e0, by simp, q, fun l k h' => ?_⟩
      unfold setFd
      rw [if_pos z]
      exact ⟨_, _, cs, e0, by simp, h', r.grow l _ fun b hb => k b (by simpa using hb)⟩
    · rw [if_neg z] at e
      obtain ⟨w, a1, b1, a2, e1, rfl, q1, f1⟩ := OwnFs.kid r e
      refine ⟨w, bs ++ a1, b1, a2, e1, by simp, q1, fun l k h' => ?_⟩
      unfold setFd
      rw [if_neg z]
      exact ⟨v, bs, _, e0, by simp, q.grow l _ fun b hb => k b (by simp [hb]), f1 l (fun b hb => k b (by simp only [List.append_assoc, List.mem_append] at hb ⊢; exact .inr hb)) h'⟩
/-- a node of a tree -/
theorem OwnT.node : ∀ {p : List Pst} {t n : Tr} {v : V} {as : List Addr}, OwnT K F H t v as → t.get p = some n → ∃ w as1 bs as2, fol H v p = some w ∧ as = as1 ++ bs ++ as2 ∧ OwnT K F H n w bs ∧
    ∀ {n' : Tr} {bs' : List Addr} {F' H' : Hp}, FLe F F' → (∀ b ∈ as1 ++ as2, ∀ u, H b = some u → NT u → H' b = some u) → OwnT K F' H' n' w bs' → OwnT K F' H' (t.put p n') v (as1 ++ bs' ++ as2)
  | [], t, n, v, as, h, e => by
    cases e
    exact ⟨v, [], as, [], rfl, by simp, h, fun {n' bs' F' H'} _ _ h' => by rw [List.nil_append, List.append_nil]; exact h'⟩
  | s :: p, t, n, v, as, h, e => by
    unfold Tr.get at e
    cases ek : t.kid s with
    | none => rw [ek] at e; cases e
    | some u =>
      rw [ek] at e
      have e : u.get p = some n := e
      have key : ∃ a w c1 bs c2, v = .ref a ∧ fol1 H a s = some w ∧ as = a :: (c1 ++ bs ++ c2) ∧ OwnT K F H u w bs ∧
          ∀ {t' : Tr} {bs' : List Addr} {F' H' : Hp}, FLe F F' → (∀ b ∈ a :: (c1 ++ c2), ∀ x, H b = some x → NT x → H' b = some x) → OwnT K F' H' t' w bs' → OwnT K F' H' (t.setKid s t') v (a :: (c1 ++ bs' ++ c2)) := by
        cases t with
        | l ts =>
          cases s with
          | ix j =>
            obtain ⟨a, vs, bs, rfl, rfl, ea, r⟩ := h
            obtain ⟨w, c1, b1, c2, e1, rfl, q1, f1⟩ := OwnTs.kid r ek
            refine ⟨a, w, c1, b1, c2, rfl, by unfold fol1; rw [ea]; exact e1, rfl, q1, fun l k h' => ⟨a, vs, _, rfl, rfl, k a (by simp) _ ea (fun _ z => nomatch z), ?_⟩⟩
            have := f1 l (fun b hb => k b (List.mem_cons_of_mem _ hb)) h'
            rw [set_same e1] at this
            exact this
          | ky _ => cases ek
          | fd _ => cases ek
        | m ts =>
          cases s with
          | ky j =>
            obtain ⟨a, vs, bs, rfl, rfl, ea, r⟩ := h
            obtain ⟨w, c1, b1, c2, e1, rfl, q1, f1⟩ := OwnKs.kid r ek
            exact ⟨a, w, c1, b1, c2, rfl, by unfold fol1; rw [ea]; exact e1, rfl, q1, fun l k h' => ⟨a, vs, _, rfl, rfl, k a (by simp) _ ea (fun _ z => nomatch z), f1 l (fun b hb => k b (List.mem_cons_of_mem _ hb)) h'⟩⟩
          | ix _ => cases ek
          | fd _ => cases ek
        | o C nm ts =>
          cases s with
          | fd j =>
            obtain ⟨a, dx, vs, bs, rfl, rfl, ea, nn, r⟩ := h
            obtain ⟨w, c1, b1, c2, e1, rfl, q1, f1⟩ := OwnFs.kid r ek
            exact ⟨a, w, c1, b1, c2, rfl, by unfold fol1; rw [ea]; exact e1, rfl, q1, fun l k h' => ⟨a, dx, vs, _, rfl, rfl, k a (by simp) _ ea (fun _ z => nomatch z), ⟨nn.1, by rw [len_setFd]; exact nn.2⟩, f1 l (fun b hb => k b (List.mem_cons_of_mem _ hb)) h'⟩⟩
          | ix _ => cases ek
          | ky _ => cases ek
        | d _ => cases ek
        | fl _ => cases ek
        | fm _ => cases ek
        | hole _ => cases ek
      obtain ⟨a, w, c1, bs, c2, rfl, e1, rfl, q1, f1⟩ := key
      obtain ⟨w2, d1, b2, d2, e2, rfl, q2, f2⟩ := OwnT.node q1 e
      refine ⟨w2, a :: (c1 ++ d1), b2, d2 ++ c2, by unfold fol; rw [e1]; exact e2, by simp, q2, fun l k h' => ?_⟩
      have h2 := f2 l (fun b hb => k b (by
        simp only [List.cons_append, List.append_assoc, List.mem_cons, List.mem_append] at hb ⊢
        rcases hb with hb | hb
        · exact .inr (.inr (.inl hb))
        · exact .inr (.inr (.inr (.inl hb))))) h'
      have h3 := f1 l (fun b hb => k b (by
        simp only [List.cons_append, List.append_assoc, List.mem_cons, List.mem_append] at hb ⊢
        rcases hb with hb | hb | hb
        · exact .inl hb
        · exact .inr (.inl hb)
        · exact .inr (.inr (.inr (.inr hb))))) h2
      have ep : t.put (s :: p) = fun n' => t.setKid s (u.put p n') := by
        funext n'
        show (match t.kid s with | some u => t.setKid s (u.put p n') | none => t) = _
        rw [ek]
      rw [ep]
      simpa using h3
end
section
variable {K : PySem.W.Frag} {F H F' : Hp}
mutual
/-- the cells are told by the tree -/
theorem OwnT.det : ∀ {t : Tr} {v : V} {as bs : List Addr}, OwnT K F H t v as → OwnT K F' H t v bs → as = bs
  | .d x, v, as, bs, h, h' => by rw [h.1, h'.1]
  | .fl ds, v, as, bs, h, h' => by
    obtain ⟨a, vs, rfl, rfl, e, r⟩ := h
    obtain ⟨a', vs', e0, rfl, e', r'⟩ := h'
    cases e0
    rfl
  | .fm ds, v, as, bs, h, h' => by
    obtain ⟨a, vs, rfl, rfl, e, r⟩ := h
    obtain ⟨a', vs', e0, rfl, e', r'⟩ := h'
    cases e0
    rfl
  | .l ts, v, as, bs, h, h' => by
    obtain ⟨a, vs, b1, rfl, rfl, e, r⟩ := h
    obtain ⟨a', vs', b2, e0, rfl, e', r'⟩ := h'
    cases e0
    rw [e] at e'
    cases e'
    rw [OwnTs.det r r']
  | .m ts, v, as, bs, h, h' => by
    obtain ⟨a, vs, b1, rfl, rfl, e, r⟩ := h
    obtain ⟨a', vs', b2, e0, rfl, e', r'⟩ := h'
    cases e0
    rw [e] at e'
    cases e'
    rw [OwnKs.det r r']
  | .o C nm fts, v, as, bs, h, h' => by
    obtain ⟨a, dx, gs, b1, rfl, rfl, e, n, r⟩ := h
    obtain ⟨a', dx', gs', b2, e0, rfl, e', n', r'⟩ := h'
    cases e0
    rw [e] at e'
    cases e'
    rw [OwnFs.det r r']
  | .hole a, v, as, bs, h, h' => by rw [h.2, h'.2]
theorem OwnTs.det : ∀ {ts : List Tr} {vs : List V} {as bs : List Addr}, OwnTs K F H ts vs as → OwnTs K F' H ts vs bs → as = bs
  | [], _, _, _, h, h' => by rw [h.2, h'.2]
  | t :: ts, vs, as, bs, h, h' => by
    obtain ⟨v, vs', b1, c1, rfl, rfl, q, r⟩ := h
    obtain ⟨v2, vs2, b2, c2, e, rfl, q2, r2⟩ := h'
    cases e
    rw [OwnT.det q q2, OwnTs.det r r2]
theorem OwnKs.det : ∀ {ts : List (Key × Tr)} {vs : List (Key × V)} {as bs : List Addr}, OwnKs K F H ts vs as → OwnKs K F' H ts vs bs → as = bs
  | [], _, _, _, h, h' => by rw [h.2, h'.2]
  | (k, t) :: ts, vs, as, bs, h, h' => by
    obtain ⟨v, vs', b1, c1, rfl, rfl, q, r⟩ := h
    obtain ⟨v2, vs2, b2, c2, e, rfl, q2, r2⟩ := h'
    cases e
    rw [OwnT.det q q2, OwnKs.det r r2]
theorem OwnFs.det : ∀ {ts : List (Str × Tr)} {vs : List (Str × V)} {as bs : List Addr}, OwnFs K F H ts vs as → OwnFs K F' H ts vs bs → as = bs
  | [], _, _, _, h, h' => by rw [show _ = [] from h, show _ = [] from h']
  | (k, t) :: ts, vs, as, bs, h, h' => by
    obtain ⟨v, b1, c1, e, rfl, q, r⟩ := h
    obtain ⟨v2, b2, c2, e', rfl, q2, r2⟩ := h'
    rw [e] at e'
    cases e'
    rw [OwnT.det q q2, OwnFs.det r r2]
end
end
/-! ### what a slot holds -/
/-- unknown, frozen data, a thing of one's own (b none: it may be frozen; some a: it stands at a, handed in), a thing to be called -/
inductive Ent where
  | un | d (x : D) | ot (b : Option Addr) (t : Tr) | fn (k : Nat) (kp : Addr → Obj → Prop) (S : List D → (D → Prop) → Prop)
abbrev Env' := List Ent
def OwnB (nf : Addr → Prop) (b : Option Addr) (v : V) (as : List Addr) : Prop := (b = b → ∀ a ∈ as, ¬ nf a) ∧ ∀ x, b = some x → v = .ref x
def EntOk (Z : Zd) (nf : Addr → Prop) (F H : Hp) : Ent → Option V → List Addr → Prop
  | .un, _, as => as = []
  | .d x, o, as => as = [] ∧ ∃ v, o = some v ∧ Den Z.K F x v
  | .ot b t, o, as => ∃ v, o = some v ∧ OwnT Z.K F H t v as ∧ OwnB nf b v as
  | .fn k kp S, o, as => as = [] ∧ ∃ f, o = some (.ref f) ∧ Callable Z k kp F f S
def EntsOk (Z : Zd) (nf : Addr → Prop) (F H : Hp) : Env' → L2.St → List (List Addr) → Prop
  | [], σ, ass => σ = [] ∧ ass = []
  | e :: ρ, σ, ass => ∃ o σ' as ass', σ = o :: σ' ∧ ass = as :: ass' ∧ EntOk Z nf F H e o as ∧ EntsOk Z nf F H ρ σ' ass'
/-- the heap at the entry, what may be changed of it, what may never be frozen -/
structure Gd where
  H0 : Hp
  io : List Addr
  nf : Addr → Prop
structure Stt (Z : Zd) (G : Gd) (F : Hp) (σ : L2.St) (H : Hp) (ρ : Env') : Prop where
  fle : FLe F H
  fnt : ∀ b o, F b = some o → NT o
  keep : ∀ b o, G.H0 b = some o → b ∉ G.io → NT o → H b = some o
  nf : ∀ a, G.nf a → H a ≠ none ∧ F a = none
  dom : ∀ a, G.H0 a ≠ none → H a ≠ none
  tabs : Z.Tb H
  ents : ∃ ass, EntsOk Z G.nf F H ρ σ ass ∧ ass.flatten.Nodup ∧ ∀ a ∈ ass.flatten, F a = none ∧ (G.H0 a = none ∨ a ∈ G.io)
section
variable {Z : Zd} {G : Gd} {nf nf' : Addr → Prop} {F H F' H' : Hp} {σ τ : L2.St} {ρ κ : Env'}
theorem EntOk.grow (g : FLe F F') : ∀ {e : Ent} {o : Option V} {as : List Addr}, EntOk Z nf F H e o as → (∀ b ∈ as, ∀ u, H b = some u → NT u → H' b = some u) → EntOk Z nf F' H' e o as
  | .un, _, _, h, _ => h
  | .d x, _, _, h, _ => by
    obtain ⟨e, v, e1, q⟩ := h
    exact ⟨e, v, e1, Den.mono g x v q⟩
  | .fn m kp S, _, _, h, _ => by
    obtain ⟨e, f, e1, q⟩ := h
    exact ⟨e, f, e1, q.mono g⟩
  | .ot b t, _, _, h, k => by
    obtain ⟨v, e, q, n⟩ := h
    exact ⟨v, e, q.grow g _ k, n⟩
theorem EntsOk.grow (g : FLe F F') : ∀ {ρ : Env'} {σ : L2.St} {ass : List (List Addr)}, EntsOk Z nf F H ρ σ ass → (∀ b ∈ ass.flatten, ∀ u, H b = some u → NT u → H' b = some u) → EntsOk Z nf F' H' ρ σ ass
  | [], _, _, h, _ => h
  | e :: ρ, σ, ass, h, k => by
    obtain ⟨o, σ', as, ass', rfl, rfl, q, r⟩ := h
    exact ⟨o, σ', as, ass', rfl, rfl, q.grow g fun b hb => k b (by simp [hb]), r.grow g fun b hb => k b (by simp only [List.flatten_cons, List.mem_append]; exact .inr hb)⟩
theorem EntOk.less : ∀ {e : Ent} {o : Option V} {as : List Addr}, EntOk Z nf' F H e o as → (∀ a ∈ as, nf a → nf' a) → EntOk Z nf F H e o as
  | .un, _, _, h, _ => h
  | .d x, _, _, h, _ => h
  | .fn m kp S, _, _, h, _ => h
  | .ot b ds, _, _, h, k => by
    obtain ⟨v, e, q, n⟩ := h
    exact ⟨v, e, q, fun z a ha w => n.1 z a ha (k a ha w), n.2⟩
theorem EntsOk.less : ∀ {ρ : Env'} {σ : L2.St} {ass : List (List Addr)}, EntsOk Z nf' F H ρ σ ass → (∀ a ∈ ass.flatten, nf a → nf' a) → EntsOk Z nf F H ρ σ ass
  | [], _, _, h, _ => h
  | e :: ρ, σ, ass, h, k => by
    obtain ⟨o, σ', as, ass', rfl, rfl, q, r⟩ := h
    exact ⟨o, σ', as, ass', rfl, rfl, q.less fun a ha => k a (by simp [ha]), r.less fun a ha => k a (by simp only [List.flatten_cons, List.mem_append]; exact .inr ha)⟩
theorem EntOk.there : ∀ {e : Ent} {o : Option V} {as : List Addr}, EntOk Z nf F H e o as → ∀ b ∈ as, ∃ u, H b = some u ∧ Nd u
  | .un, _, _, h, b, hb => by rw [show _ = [] from h] at hb; cases hb
  | .d x, _, _, h, b, hb => by rw [h.1] at hb; cases hb
  | .fn _ _ _, _, _, h, b, hb => by rw [h.1] at hb; cases hb
  | .ot _ t, _, _, h, b, hb => by
    obtain ⟨v, e, q, _⟩ := h
    exact q.there _ b hb
theorem EntsOk.there : ∀ {ρ : Env'} {σ : L2.St} {ass : List (List Addr)}, EntsOk Z nf F H ρ σ ass → ∀ b ∈ ass.flatten, ∃ u, H b = some u ∧ Nd u
  | [], _, _, h, b, hb => by rw [h.2] at hb; cases hb
  | e :: ρ, σ, ass, h, b, hb => by
    obtain ⟨o, σ', as, ass', rfl, rfl, q, r⟩ := h
    simp only [List.flatten_cons, List.mem_append] at hb
    rcases hb with hb | hb
    · exact q.there b hb
    · exact r.there b hb
theorem EntsOk.len : ∀ {ρ : Env'} {σ : L2.St} {ass : List (List Addr)}, EntsOk Z nf F H ρ σ ass → σ.length = ρ.length ∧ ass.length = ρ.length
  | [], _, _, h => by rw [h.1, h.2]; exact ⟨rfl, rfl⟩
  | e :: ρ, σ, ass, h => by
    obtain ⟨o, σ', as, ass', rfl, rfl, q, r⟩ := h
    simp [r.len]
theorem EntsOk.at : ∀ {ρ : Env'} {σ : L2.St} {ass : List (List Addr)} {i : Nat} {e : Ent}, EntsOk Z nf F H ρ σ ass → ρ[i]? = some e → ∃ o as, σ[i]? = some o ∧ ass[i]? = some as ∧ EntOk Z nf F H e o as
  | [], _, _, _, _, _, hi => by simp at hi
  | e :: ρ, σ, ass, 0, e', h, hi => by
    obtain ⟨o, σ', as, ass', rfl, rfl, q, r⟩ := h
    simp at hi
    subst hi
    exact ⟨o, as, rfl, rfl, q⟩
  | e :: ρ, σ, ass, i + 1, e', h, hi => by
    obtain ⟨o, σ', as, ass', rfl, rfl, q, r⟩ := h
    simp at hi
    obtain ⟨o', as', e1, e2, q'⟩ := EntsOk.at r hi
    exact ⟨o', as', by simpa using e1, by simpa using e2, q'⟩
theorem EntsOk.set : ∀ {ρ : Env'} {σ : L2.St} {ass : List (List Addr)} (i : Nat) {e : Ent} {o : Option V} {as : List Addr}, EntsOk Z nf F H ρ σ ass → EntOk Z nf F H e o as → EntsOk Z nf F H (ρ.set i e) (σ.set i o) (ass.set i as)
  | [], _, _, _, _, _, _, h, _ => by rw [h.1, h.2]; exact ⟨rfl, rfl⟩
  | e :: ρ, σ, ass, 0, e', o', as', h, q' => by
    obtain ⟨o, σ', as, ass', rfl, rfl, q, r⟩ := h
    exact ⟨o', σ', as', ass', rfl, rfl, q', r⟩
  | e :: ρ, σ, ass, i + 1, e', o', as', h, q' => by
    obtain ⟨o, σ', as, ass', rfl, rfl, q, r⟩ := h
    exact ⟨o, σ'.set i o', as, ass'.set i as', rfl, rfl, q, EntsOk.set i r q'⟩
theorem EntsOk.app : ∀ {es ρ : Env'} {τ σ : L2.St} {bss ass : List (List Addr)}, EntsOk Z nf F H es τ bss → EntsOk Z nf F H ρ σ ass → EntsOk Z nf F H (es ++ ρ) (τ ++ σ) (bss ++ ass)
  | [], ρ, τ, σ, bss, ass, h1, h2 => by rw [h1.1, h1.2]; exact h2
  | e :: es, ρ, τ, σ, bss, ass, h1, h2 => by
    obtain ⟨o, τ', as, bss', rfl, rfl, q, r⟩ := h1
    exact ⟨o, τ' ++ σ, as, bss' ++ ass, rfl, rfl, q, r.app h2⟩
theorem EntsOk.split : ∀ {ρ κ : Env'} {σ τ : L2.St} {ass : List (List Addr)}, EntsOk Z nf F H (ρ ++ κ) (σ ++ τ) ass → σ.length = ρ.length → ∃ a1 a2, ass = a1 ++ a2 ∧ EntsOk Z nf F H ρ σ a1 ∧ EntsOk Z nf F H κ τ a2
  | [], κ, σ, τ, ass, h, l => by
    have := List.eq_nil_of_length_eq_zero l
    subst this
    exact ⟨[], ass, rfl, ⟨rfl, rfl⟩, h⟩
  | e :: ρ, κ, σ, τ, ass, h, l => by
    cases σ with
    | nil => simp at l
    | cons o σ =>
      obtain ⟨o', σ', as, ass', e1, rfl, q, r⟩ := h
      cases e1
      obtain ⟨a1, a2, rfl, r1, r2⟩ := EntsOk.split r (by simpa using l)
      exact ⟨as :: a1, a2, rfl, ⟨o, σ, as, a1, rfl, rfl, q, r1⟩, r2⟩
theorem Stt.len (S : Stt Z G F σ H ρ) : σ.length = ρ.length := by
  obtain ⟨ass, h, _⟩ := S.ents
  exact h.len.1
/-- all that Stt asks, from another one -/
theorem Stt.grow (S : Stt Z G F σ H ρ) (g : Grow Z F H F' H') : Stt Z G F' σ H' ρ := by
  obtain ⟨ass, h, nd, fr⟩ := S.ents
  refine ⟨g.le, g.nt S.fnt, fun b o e n m => g.same b o (S.keep b o e n m) m, fun a ha => ⟨g.dom a (S.nf a ha).1, g.new a (S.nf a ha).1 (S.nf a ha).2⟩, fun a ha => g.dom a (S.dom a ha), g.tabs S.tabs, ass, h.grow g.fle fun b _ u e m => g.same b u e m, nd, fun a ha => ?_⟩
  obtain ⟨u, e, _⟩ := h.there a ha
  exact ⟨g.new a (by rw [e]; exact fun z => nomatch z) (fr a ha).1, (fr a ha).2⟩
theorem flat_split {ass : List (List Addr)} {i : Nat} {as : List Addr} (h : ass[i]? = some as) : ∃ p q : List (List Addr), ass = p ++ as :: q ∧ p.length = i := by
  induction ass generalizing i with
  | nil => simp at h
  | cons x r ih =>
    cases i with
    | zero => simp at h; subst h; exact ⟨[], r, rfl, rfl⟩
    | succ i =>
      simp at h
      obtain ⟨p, q, rfl, e⟩ := ih h
      exact ⟨x :: p, q, rfl, by simp [e]⟩
theorem set_split {p q : List (List Addr)} {as bs : List Addr} : (p ++ as :: q).set p.length bs = p ++ bs :: q := by
  rw [List.set_append_right _ _ (Nat.le_refl _)]
  simp
theorem mem_flat {ass : List (List Addr)} {i : Nat} {a : Addr} {as : List Addr} (h : ass[i]? = some as) (ha : a ∈ as) : a ∈ ass.flatten := List.mem_flatten.mpr ⟨as, List.mem_of_getElem? h, ha⟩
theorem flat_set_sub {ass : List (List Addr)} {i : Nat} {b : Addr} {as : List Addr} (h : b ∈ (ass.set i as).flatten) : b ∈ as ∨ b ∈ ass.flatten := by
  obtain ⟨l, hl, hb⟩ := List.mem_flatten.mp h
  rcases List.mem_or_eq_of_mem_set hl with z | z
  · exact .inr (List.mem_flatten.mpr ⟨l, z, hb⟩)
  · exact .inl (by rw [← z]; exact hb)
/-- the cells of one slot replaced -/
theorem nodup_set {ass : List (List Addr)} {i : Nat} {as bs : List Addr} (hi : ass[i]? = some as) (nd : ass.flatten.Nodup) (nb : bs.Nodup) (h : ∀ b ∈ bs, b ∈ as ∨ b ∉ ass.flatten) : (ass.set i bs).flatten.Nodup := by
  obtain ⟨p, q, rfl, rfl⟩ := flat_split hi
  rw [set_split]
  simp only [List.flatten_append, List.flatten_cons] at nd h ⊢
  obtain ⟨n1, n2, n3⟩ := List.nodup_append.mp nd
  obtain ⟨n4, n5, n6⟩ := List.nodup_append.mp n2
  have off : ∀ b ∈ bs, b ∉ p.flatten ∧ b ∉ q.flatten := fun b hb => by
    rcases h b hb with z | z
    · exact ⟨fun y => n3 b y b (List.mem_append_left _ z) rfl, fun y => n6 b z b y rfl⟩
    · simp only [List.mem_append, not_or] at z
      exact ⟨z.1, z.2.2⟩
  refine List.nodup_append.mpr ⟨n1, List.nodup_append.mpr ⟨nb, n5, fun a ha b hb e => (off a ha).2 (by rw [e]; exact hb)⟩, fun a ha b hb e => ?_⟩
  rcases List.mem_append.mp hb with z | z
  · exact (off b z).1 (by rw [← e]; exact ha)
  · exact n3 a ha b (List.mem_append_right _ z) e
/-- the cells of other slots -/
theorem flat_off {ass : List (List Addr)} {i : Nat} {as : List Addr} (hi : ass[i]? = some as) (nd : ass.flatten.Nodup) : ∀ {j : Nat} {bs : List Addr} {b : Addr}, ass[j]? = some bs → b ∈ bs → j ≠ i → b ∉ as := by
  obtain ⟨p, q, rfl, rfl⟩ := flat_split hi
  intro j bs b hj hb hne
  simp only [List.flatten_append, List.flatten_cons] at nd
  obtain ⟨n1, n2, n3⟩ := List.nodup_append.mp nd
  obtain ⟨n4, n5, n6⟩ := List.nodup_append.mp n2
  by_cases hl : j < p.length
  · rw [List.getElem?_append_left hl] at hj
    exact fun z => n3 b (mem_flat hj hb) b (List.mem_append_left _ z) rfl
  · rw [List.getElem?_append_right (by omega)] at hj
    cases e : j - p.length with
    | zero => omega
    | succ m =>
      rw [e] at hj
      simp at hj
      exact fun z => n6 b z b (mem_flat hj hb) rfl
/-- all slots but i as the new heap shows them -/
theorem EntsOk.but (g : FLe F F') : ∀ {ρ : Env'} {σ : L2.St} {ass : List (List Addr)} {i : Nat} {e : Ent} {o : Option V} {as : List Addr}, EntsOk Z nf F H ρ σ ass → (∀ (j : Nat) (bs : List Addr), j ≠ i → ass[j]? = some bs → ∀ b ∈ bs, ∀ u, H b = some u → NT u → H' b = some u) → EntOk Z nf F' H' e o as →
    EntsOk Z nf F' H' (ρ.set i e) (σ.set i o) (ass.set i as)
  | [], _, _, _, _, _, _, h, _, _ => by rw [h.1, h.2]; exact ⟨rfl, rfl⟩
  | e :: ρ, σ, ass, 0, e', o', as', h, k, q' => by
    obtain ⟨o, σ', as, ass', rfl, rfl, q, r⟩ := h
    exact ⟨o', σ', as', ass', rfl, rfl, q', r.grow g fun b hb => by
      obtain ⟨l, hl, hb⟩ := List.mem_flatten.mp hb
      obtain ⟨j, hj⟩ := List.getElem?_of_mem hl
      exact k (j + 1) l (by omega) (by simpa using hj) b hb⟩
  | e :: ρ, σ, ass, i + 1, e', o', as', h, k, q' => by
    obtain ⟨o, σ', as, ass', rfl, rfl, q, r⟩ := h
    exact ⟨o, σ'.set i o', as, ass'.set i as', rfl, rfl, q.grow g (k 0 as (by omega) rfl), EntsOk.but g r (fun j bs hj hb => k (j + 1) bs (by omega) (by simpa using hb)) q'⟩
/-- slot i gets what e tells; its cells are its old ones, new ones, those of the temporaries κ -/
theorem Stt.slot (S : Stt Z G F (σ ++ τ) H (ρ ++ κ)) (l : σ.length = ρ.length) {i : Nat} {e0 : Ent} (hi : ρ[i]? = some e0) :
    ∃ o0 as0 cs, σ[i]? = some o0 ∧ EntOk Z G.nf F H e0 o0 as0 ∧ as0.Nodup ∧ (∀ a ∈ as0, F a = none ∧ (G.H0 a = none ∨ a ∈ G.io)) ∧ (∃ bss, EntsOk Z G.nf F H κ τ bss ∧ cs = bss.flatten) ∧ cs.Nodup ∧ (∀ a ∈ cs, F a = none ∧ (G.H0 a = none ∨ a ∈ G.io) ∧ a ∉ as0) ∧
    ∀ {e : Ent} {o : Option V} {as : List Addr} {F' H' : Hp}, FLe F F' → FLe F' H' → (∀ b o, F' b = some o → NT o) → (∀ b, F b = none → H b ≠ none → F' b = none ∨ b ∈ as0 ∨ b ∈ cs) → (∀ a ∈ as, F' a = none) → (∀ a, G.nf a → F' a = none) → (∀ x, x ∉ as0 → x ∉ cs → ∀ u, H x = some u → NT u → H' x = some u) → (∀ x, H x ≠ none → H' x ≠ none) → Z.Tb H' →
      EntOk Z G.nf F' H' e o as → as.Nodup → (∀ x ∈ as, x ∈ as0 ∨ x ∈ cs ∨ (H x = none ∧ G.H0 x = none)) → Stt Z G F' (σ.set i o) H' (ρ.set i e) ∧ ∃ ass, EntsOk Z G.nf F' H' (ρ.set i e) (σ.set i o) ass ∧ ass.flatten.Nodup ∧ (∀ a ∈ ass.flatten, F' a = none ∧ (G.H0 a = none ∨ a ∈ G.io)) ∧ ∀ a ∈ ass.flatten, a ∈ as ∨ (a ∉ as0 ∧ a ∉ cs ∧ H a ≠ none) := by
  obtain ⟨ass, q, nd, fr⟩ := S.ents
  obtain ⟨a1, a2, rfl, q1, q2⟩ := q.split l
  rw [List.flatten_append] at nd
  obtain ⟨n1, n2, n3⟩ := List.nodup_append.mp nd
  obtain ⟨o0, as0, e1, e2, e3⟩ := q1.at hi
  have m1 : ∀ a ∈ a1.flatten, a ∈ (a1 ++ a2).flatten := fun a ha => by rw [List.flatten_append]; exact List.mem_append_left _ ha
  have m2 : ∀ a ∈ a2.flatten, a ∈ (a1 ++ a2).flatten := fun a ha => by rw [List.flatten_append]; exact List.mem_append_right _ ha
  have nd0 : as0.Nodup := by
    obtain ⟨p, r, z, _⟩ := flat_split e2
    rw [z] at n1
    simp only [List.flatten_append, List.flatten_cons] at n1
    exact (List.nodup_append.mp (List.nodup_append.mp n1).2.1).1
  refine ⟨o0, as0, a2.flatten, e1, e3, nd0, fun a ha => fr a (m1 a (mem_flat e2 ha)), ⟨a2, q2, rfl⟩, n2, fun a ha => ⟨(fr a (m2 a ha)).1, (fr a (m2 a ha)).2, fun z => n3 a (mem_flat e2 z) a ha rfl⟩, fun {e o as F' H'} lf lh lnt hF has hnf hk hd ht he hn hs => ?_⟩
  have off : ∀ (j : Nat) (bs : List Addr), j ≠ i → a1[j]? = some bs → ∀ b ∈ bs, b ∉ as0 ∧ b ∉ a2.flatten := fun j bs hj hb b hbb => ⟨flat_off e2 n1 hb hbb hj, fun z => n3 b (mem_flat hb hbb) b z rfl⟩
  have ioK : ∀ x, x ∈ as0 ∨ x ∈ a2.flatten → G.H0 x = none ∨ x ∈ G.io := fun x hx => by
    rcases hx with z | z
    · exact (fr x (m1 x (mem_flat e2 z))).2
    · exact (fr x (m2 x z)).2
  have hE := q1.but lf (fun j bs hj hb b hbb u hu m => hk b (off j bs hj hb b hbb).1 (off j bs hj hb b hbb).2 u hu m) he
  have hN : (a1.set i as).flatten.Nodup := by
    refine nodup_set e2 n1 hn fun b hb => ?_
    rcases hs b hb with z | z | z
    · exact .inl z
    · exact .inr fun y => n3 b y b z rfl
    · refine .inr fun y => ?_
      obtain ⟨u, hu, _⟩ := q1.there b y
      rw [z.1] at hu
      cases hu
  have hlt : i < a1.length := (List.getElem?_eq_some_iff.mp e2).1
  have hD : ∀ a ∈ (a1.set i as).flatten, a ∈ as ∨ (a ∉ as0 ∧ a ∉ a2.flatten ∧ H a ≠ none ∧ F' a = none ∧ (G.H0 a = none ∨ a ∈ G.io)) := fun a ha => by
    obtain ⟨bs, hbs, hb⟩ := List.mem_flatten.mp ha
    obtain ⟨j, hj⟩ := List.getElem?_of_mem hbs
    by_cases ej : i = j
    · subst ej
      rw [List.getElem?_set_self hlt] at hj
      cases hj
      exact .inl hb
    · rw [List.getElem?_set_ne ej] at hj
      have hm := mem_flat hj hb
      obtain ⟨u, hu, _⟩ := q1.there a hm
      have o := off j bs (fun z => ej z.symm) hj a hb
      refine .inr ⟨o.1, o.2, (by rw [hu]; exact fun z => nomatch z), ?_, (fr a (m1 a hm)).2⟩
      rcases hF a (fr a (m1 a hm)).1 (by rw [hu]; exact fun z => nomatch z) with z | z | z
      · exact z
      · exact absurd z o.1
      · exact absurd z o.2
  have hR : ∀ a ∈ (a1.set i as).flatten, F' a = none ∧ (G.H0 a = none ∨ a ∈ G.io) := fun a ha => by
    rcases hD a ha with z | z
    · refine ⟨has a z, ?_⟩
      rcases hs a z with y | y | y
      · exact ioK a (.inl y)
      · exact ioK a (.inr y)
      · exact .inl y.2
    · exact z.2.2.2
  refine ⟨⟨lh, lnt, fun b u e n m => ?_, fun a ha => ⟨hd a (S.nf a ha).1, hnf a ha⟩, fun a ha => hd a (S.dom a ha), ht, a1.set i as, hE, hN, hR⟩, a1.set i as, hE, hN, hR, fun a ha => (hD a ha).imp id fun z => ⟨z.1, z.2.1, z.2.2.1⟩⟩
  refine hk b (fun z => ?_) (fun z => ?_) u (S.keep b u e n m) m
  · rcases ioK b (.inl z) with w | w
    · rw [w] at e; cases e
    · exact n w
  · rcases ioK b (.inr z) with w | w
    · rw [w] at e; cases e
    · exact n w
/-- one more temporary -/
theorem Stt.snoc (S : Stt Z G F σ H ρ) {ass : List (List Addr)} (q : EntsOk Z G.nf F H ρ σ ass) (nd : ass.flatten.Nodup) (fr : ∀ a ∈ ass.flatten, F a = none ∧ (G.H0 a = none ∨ a ∈ G.io)) {e : Ent} {o : Option V} {as : List Addr} (he : EntOk Z G.nf F H e o as) (hn : as.Nodup)
    (hf : ∀ a ∈ as, F a = none ∧ (G.H0 a = none ∨ a ∈ G.io)) (hd : ∀ a ∈ as, a ∉ ass.flatten) : Stt Z G F (σ ++ [o]) H (ρ ++ [e]) := by
  refine ⟨S.fle, S.fnt, S.keep, S.nf, S.dom, S.tabs, ass ++ [as], q.app ⟨o, [], as, [], rfl, rfl, he, rfl, rfl⟩, ?_, fun a ha => ?_⟩
  · rw [List.flatten_append]
    simp only [List.flatten_cons, List.flatten_nil, List.append_nil]
    exact List.nodup_append.mpr ⟨nd, hn, fun a ha b hb z => hd b hb (by rw [← z]; exact ha)⟩
  · rw [List.flatten_append] at ha
    simp only [List.flatten_cons, List.flatten_nil, List.append_nil, List.mem_append] at ha
    rcases ha with z | z
    · exact fr a z
    · exact hf a z
/-- the temporaries are forgotten -/
theorem Stt.drops (S : Stt Z G F (σ ++ τ) H (ρ ++ κ)) (l : σ.length = ρ.length) : Stt Z G F σ H ρ := by
  obtain ⟨ass, q, nd, fr⟩ := S.ents
  obtain ⟨a1, a2, rfl, q1, q2⟩ := q.split l
  rw [List.flatten_append] at nd
  exact ⟨S.fle, S.fnt, S.keep, S.nf, S.dom, S.tabs, a1, q1, (List.nodup_append.mp nd).1, fun a ha => fr a (by rw [List.flatten_append]; exact List.mem_append_left _ ha)⟩
/-- a slot is forgotten, gets frozen data -/
theorem Stt.setE (S : Stt Z G F σ H ρ) {i : Nat} {e : Ent} {o : Option V} (h : EntOk Z G.nf F H e o []) : Stt Z G F (σ.set i o) H (ρ.set i e) := by
  obtain ⟨ass, q, nd, fr⟩ := S.ents
  refine ⟨S.fle, S.fnt, S.keep, S.nf, S.dom, S.tabs, ass.set i [], q.set i h, ?_, fun a ha => ?_⟩
  · by_cases hl : i < ass.length
    · exact nodup_set (List.getElem?_eq_getElem hl) nd (by simp) (by simp)
    · rw [List.set_eq_of_length_le (by omega)]
      exact nd
  · rcases flat_set_sub ha with z | z
    · cases z
    · exact fr a z
theorem Stt.put (S : Stt Z G F σ H ρ) {i : Nat} {x : D} {v : V} (h : Den Z.K F x v) : Stt Z G F (σ.set i (some v)) H (ρ.set i (.d x)) := S.setE ⟨rfl, v, rfl, h⟩
theorem Stt.drop (S : Stt Z G F σ H ρ) {i : Nat} {o : Option V} : Stt Z G F (σ.set i o) H (ρ.set i .un) := S.setE rfl
theorem Stt.at (S : Stt Z G F σ H ρ) {i : Nat} {x : D} (hi : ρ[i]? = some (.d x)) : ∃ v, σ[i]? = some (some v) ∧ Den Z.K F x v := by
  obtain ⟨ass, q, _, _⟩ := S.ents
  obtain ⟨o, as, e1, _, _, v, rfl, h⟩ := q.at hi
  exact ⟨v, e1, h⟩
theorem Stt.fnAt (S : Stt Z G F σ H ρ) {i k : Nat} {kp : Addr → Obj → Prop} {Sd : List D → (D → Prop) → Prop} (hi : ρ[i]? = some (.fn k kp Sd)) : ∃ f, σ[i]? = some (some (.ref f)) ∧ Callable Z k kp F f Sd := by
  obtain ⟨ass, q, _, _⟩ := S.ents
  obtain ⟨o, as, e1, _, _, f, rfl, h⟩ := q.at hi
  exact ⟨f, e1, h⟩
theorem st_self {σ : L2.St} {i : Nat} {o : Option V} (h : σ[i]? = some o) : σ.set i o = σ := set_same h
/-- a node of an own thing, and what may be made of it (with the temporaries' things) -/
theorem Stt.node (S : Stt Z G F (σ ++ τ) H (ρ ++ κ)) (l : σ.length = ρ.length) {i : Nat} {b : Option Addr} {t n : Tr} {p : List Pst} (hi : ρ[i]? = some (.ot b t)) (hp : t.get p = some n) :
    ∃ v0 w bs cs, σ[i]? = some (some v0) ∧ fol H v0 p = some w ∧ OwnT Z.K F H n w bs ∧ bs.Nodup ∧ (∃ bss, EntsOk Z G.nf F H κ τ bss ∧ cs = bss.flatten) ∧ cs.Nodup ∧ (∀ a ∈ cs, a ∉ bs) ∧ (b = b → ∀ a ∈ bs, ¬ G.nf a) ∧
    ∀ {n' : Tr} {H' : Hp} {bs' : List Addr}, (∀ x, x ∉ bs → ∀ u, H x = some u → H' x = some u) → (∀ x ∈ bs, H' x ≠ none) → Z.Tb H' → OwnT Z.K F H' n' w bs' → bs'.Nodup → (∀ x ∈ bs', x ∈ bs ∨ x ∈ cs ∨ (H x = none ∧ G.H0 x = none)) → (b = b → ∀ x ∈ bs', x ∈ cs → ¬ G.nf x) →
      Stt Z G F σ H' (ρ.set i (.ot b (t.put p n'))) := by
  obtain ⟨o0, as0, cs, e1, e3, nd0, fr0, hcs, ncs, fcs, mk⟩ := S.slot l hi
  obtain ⟨v0, rfl, q, ob⟩ := e3
  obtain ⟨w, c1, bs, c2, e2, rfl, q2, f2⟩ := OwnT.node q hp
  rw [List.append_assoc] at nd0
  obtain ⟨m1, m2, m3⟩ := List.nodup_append.mp nd0
  obtain ⟨m4, m5, m6⟩ := List.nodup_append.mp m2
  refine ⟨v0, w, bs, cs, e1, e2, q2, m4, hcs, ncs, fun a ha z => (fcs a ha).2.2 (by simp [z]), fun hb a ha => ob.1 hb a (by simp [ha]), fun {n' H' bs'} hk hd ht h' hn hs hc => ?_⟩
  have off : ∀ x ∈ c1 ++ c2, x ∉ bs := fun x hx z => by
    rcases List.mem_append.mp hx with y | y
    · exact m3 x y x (List.mem_append_left _ z) rfl
    · exact m6 x z x y rfl
  have nin : ∀ x ∈ c1 ++ c2, x ∉ bs' := fun x hx z => by
    rcases hs x z with y | y | y
    · exact off x hx y
    · exact (fcs x y).2.2 (by simp only [List.append_assoc, List.mem_append] at hx ⊢; rcases hx with hx | hx; exact .inl hx; exact .inr (.inr hx))
    · obtain ⟨u, hu, _⟩ := q.there _ x (by simp only [List.append_assoc, List.mem_append] at hx ⊢; rcases hx with hx | hx; exact .inl hx; exact .inr (.inr hx))
      rw [y.1] at hu
      cases hu
  rw [← st_self e1]
  have cellF : ∀ x, x ∈ bs' → F x = none := fun x hx => by
    rcases hs x hx with y | y | y
    · exact (fr0 x (by simp [y])).1
    · exact (fcs x y).1
    · exact S.fle.none y.1
  have fle' : FLe F H' := fun x u hu => by
    refine hk x (fun z => ?_) u (S.fle x u hu)
    rw [(fr0 x (by simp [z])).1] at hu
    cases hu
  refine (mk (e := .ot b (t.put p n')) (o := some v0) (as := c1 ++ bs' ++ c2) (.refl F) fle' S.fnt (fun x h _ => .inl h) (fun x hx => ?_) (fun x hx => (S.nf x hx).2) (fun x h1 h2 u hu _ => hk x (fun z => h1 (by simp [z])) u hu) (fun x hx => ?_) ht ⟨v0, rfl, f2 (.refl F) (fun x hx u hu _ => hk x (off x hx) u hu) h', fun hb x hx => ?_, ob.2⟩ ?_ fun x hx => ?_).1
  · simp only [List.append_assoc, List.mem_append] at hx
    rcases hx with hx | hx | hx
    · exact (fr0 x (by simp [hx])).1
    · exact cellF x hx
    · exact (fr0 x (by simp [hx])).1
  · by_cases z : x ∈ bs
    · exact hd x z
    · cases e : H x with
      | none => exact absurd e hx
      | some u => rw [hk x z u e]; exact fun z => nomatch z
  · simp only [List.append_assoc, List.mem_append] at hx
    rcases hx with hx | hx | hx
    · exact ob.1 hb x (by simp [hx])
    · rcases hs x hx with y | y | y
      · exact ob.1 hb x (by simp [y])
      · exact hc hb x hx y
      · exact fun z => (S.nf x z).1 y.1
    · exact ob.1 hb x (by simp [hx])
  · rw [List.append_assoc]
    refine List.nodup_append.mpr ⟨m1, List.nodup_append.mpr ⟨hn, m5, fun x hx y hy e => nin y (List.mem_append_right _ hy) (by rw [← e]; exact hx)⟩, fun x hx y hy e => ?_⟩
    rcases List.mem_append.mp hy with z | z
    · exact nin x (List.mem_append_left _ hx) (by rw [e]; exact z)
    · exact m3 x hx y (List.mem_append_right _ z) e
  · simp only [List.append_assoc, List.mem_append] at hx
    rcases hx with hx | hx | hx
    · exact .inl (by simp [hx])
    · rcases hs x hx with y | y | y
      · exact .inl (by simp [y])
      · exact .inr (.inl y)
      · exact .inr (.inr y)
    · exact .inl (by simp [hx])
end
end Fw

set_option Elab.async false
set_option maxRecDepth 100000
set_option maxHeartbeats 4000000
/-! Fw2: the judgements: expressions, tests, arguments, statements over data. -/
namespace Fw
open PySem PySem.Spec PyProof.Rows L2

/-- where one stands: all that the readings need -/
structure CD where
  z : Zd
  N : List Str
  sc : Scope
  fn : Str → Bool
  k : Nat
  E : XK
  kp : Addr → Obj → Prop
  mkr : Option (Str × Addr)
abbrev CD.P (c : CD) := c.z.P
abbrev CD.w (c : CD) := c.z.w
abbrev CD.K (c : CD) := c.z.K
abbrev CD.mg (c : CD) := c.z.mg
abbrev CD.base (c : CD) := c.z.base
structure CD.Ok (c : CD) (X : Cx) : Prop where
  P : X.prog = c.P
  w : X.w = c.w
  K : X.K = c.K
  mg : X.mg = c.mg
  base : X.base = c.base
  N : X.N = c.N
  sc : X.env.scope = c.sc
  fn : X.fn = c.fn
  calm : X.calm = true
  po : PassesOwn (model X.prog X.w) X.A X.env X.xe
  tk : Takes X fun cls d _ H => c.E cls d H
  room : Rm c.k X.A
  kept : ∀ b o, c.kp b o → X.s_0.heap.get? b = some o ∧ X.H_0 b = none ∧ b ∉ X.fs ∧ b ∉ X.ex
  maker : ∀ p, c.mkr = some p → X.env.qual = p.1 ∧ X.env.code = .ref p.2

section
variable (c : CD)
/-- the weakest readings -/
def tE (e : Expr) : TE := fun σ H Q => ∃ t, (∀ X, c.Ok X → PE X e t) ∧ t σ H Q
def tT (e : Expr) : TT := fun σ H Q => ∃ t, (∀ X, c.Ok X → PT X e t) ∧ t σ H Q
def tA (es : List Expr) : TA := fun σ H Q => ∃ t, (∀ X, c.Ok X → PA X es t) ∧ t σ H Q
def tS (st : Stmt) : TS := fun D σ H => ∃ t, (∀ X, c.Ok X → PS X st t) ∧ t D σ H
def tSs (st : List Stmt) : TS := fun D σ H => ∃ t, (∀ X, c.Ok X → PSs X st t) ∧ t D σ H
def tI (tg e : Expr) : TI := fun σ H R => ∃ t, (∀ X, c.Ok X → PI X tg e t) ∧ t σ H R
def tG (tg : Expr) : TG := fun v σ H Q => ∃ t, (∀ X, c.Ok X → PG X tg t) ∧ t v σ H Q
end
section
variable {c : CD} {X : Cx} (ok : c.Ok X)
include ok
theorem pe_tE (e : Expr) : PE X e (tE c e) := ⟨fun pins s σ H Q I ⟨_, h, q⟩ => (h X ok).run pins s σ H Q I q⟩
theorem pt_tT (e : Expr) : PT X e (tT c e) := ⟨fun pins s σ H Q I ⟨_, h, q⟩ => (h X ok).run pins s σ H Q I q⟩
theorem pa_tA (e : List Expr) : PA X e (tA c e) := ⟨fun pos pins s σ H Q I ⟨_, h, q⟩ => (h X ok).run pos pins s σ H Q I q⟩
theorem ps_tS (e : Stmt) : PS X e (tS c e) := ⟨fun pins s σ H Q I ⟨_, h, q⟩ => (h X ok).run pins s σ H Q I q⟩
theorem pss_tSs (e : List Stmt) : PSs X e (tSs c e) := ⟨fun pins s σ H Q I ⟨_, h, q⟩ => (h X ok).run pins s σ H Q I q⟩
theorem pi_tI (tg e : Expr) : PI X tg e (tI c tg e) := ⟨fun pins s σ H Q I ⟨_, h, q⟩ => (h X ok).run pins s σ H Q I q⟩
theorem pg_tG (tg : Expr) : PG X tg (tG c tg) := ⟨fun pins s σ H v u Q I r ⟨_, h, q⟩ => (h X ok).run pins s σ H v u Q I r q⟩
end

/-- a step: what is frozen grows; no address is lost -/
structure FStep (F H F' H' : Hp) : Prop where
  fle : FLe F F'
  dom : ∀ a, H a ≠ none → H' a ≠ none
theorem FStep.refl (F H : Hp) : FStep F H F H := ⟨.refl F, fun _ h => h⟩
theorem FStep.trans {F H F1 H1 F2 H2 : Hp} (a : FStep F H F1 H1) (b : FStep F1 H1 F2 H2) : FStep F H F2 H2 := ⟨a.fle.trans b.fle, fun x h => b.dom x (a.dom x h)⟩
theorem Grow.step {Z : Zd} {F H F' H' : Hp} (g : Grow Z F H F' H') : FStep F H F' H' := ⟨g.fle, g.dom⟩
theorem FStep.upd {F H : Hp} {a : Addr} {o : HO} : FStep F H F (upd H a o) := ⟨.refl F, fun b h => upd_dom h⟩

/-- what an expression yields: frozen data, a node of a slot's own thing, a new thing that is nobody's -/
inductive Res where
  | d (x : D) | sub (i : Nat) (p : List Pst) | fr (t : Tr)
/-- it stays what it is whatever else is asked -/
def Res.st : Res → Bool
  | .d _ => true
  | .sub _ [] => true
  | _ => false
def ResOk (Z : Zd) (G : Gd) (F : Hp) (σ : L2.St) (H : Hp) (ρ : Env') (v : V) : Res → Prop
  | .d x => Den Z.K F x v
  | .sub i p => ∃ v0, σ[i]? = some (some v0) ∧ fol H v0 p = some v
  | .fr t => Stt Z G F (σ ++ [some v]) H (ρ ++ [.ot none t])
def Ev (Z : Zd) (t : TE) (ρ : Env') (r : Res) (ρ' : Env') : Prop := ∀ G F σ H Q, Stt Z G F σ H ρ →
  (∀ v F' H', Stt Z G F' σ H' ρ' → FStep F H F' H' → ResOk Z G F' σ H' ρ' v r → Q v H') → t σ H Q
def EvX (c : CD) (e : Expr) (ρ : Env') (r : Res) (ρ' : Env') : Prop := Ev c.z (tE c e) ρ r ρ'
def Et (Z : Zd) (t : TT) (ρ : Env') (b : Bool) (ρ' : Env') : Prop := ∀ G F σ H Q, Stt Z G F σ H ρ →
  (∀ F' H', Stt Z G F' σ H' ρ' → FStep F H F' H' → Q b H') → t σ H Q
def EtX (c : CD) (e : Expr) (ρ : Env') (b : Bool) (ρ' : Env') : Prop := Et c.z (tT c e) ρ b ρ'
def Ea (Z : Zd) (t : TA) (ρ : Env') (rs : List Res) (ρ' : Env') : Prop := ∀ G F σ H Q, Stt Z G F σ H ρ →
  (∀ (vs : List V) F' H', Stt Z G F' σ H' ρ' → FStep F H F' H' → vs.length = rs.length → (∀ (i : Nat) (v : V) (r : Res), vs[i]? = some v → rs[i]? = some r → ResOk Z G F' σ H' ρ' v r) → Q vs H') → t σ H Q
def EaX (c : CD) (es : List Expr) (ρ : Env') (rs : List Res) (ρ' : Env') : Prop := Ea c.z (tA c es) ρ rs ρ'

theorem Stt.nil {Z : Zd} {G : Gd} {F H : Hp} {σ : L2.St} {ρ : Env'} (S : Stt Z G F σ H ρ) : Stt Z G F (σ ++ []) H (ρ ++ []) := by rw [List.append_nil, List.append_nil]; exact S
/-- a node of an own thing -/
theorem Stt.node0 {Z : Zd} {G : Gd} {F H : Hp} {σ : L2.St} {ρ : Env'} (S : Stt Z G F σ H ρ) {i : Nat} {b : Option Addr} {t n : Tr} {p : List Pst} (hi : ρ[i]? = some (.ot b t)) (hp : t.get p = some n) :
    ∃ v0 w bs, σ[i]? = some (some v0) ∧ fol H v0 p = some w ∧ OwnT Z.K F H n w bs ∧ bs.Nodup ∧ (b = b → ∀ a ∈ bs, ¬ G.nf a) ∧
    ∀ {n' : Tr} {H' : Hp} {bs' : List Addr}, (∀ x, x ∉ bs → ∀ u, H x = some u → H' x = some u) → (∀ x ∈ bs, H' x ≠ none) → Z.Tb H' → OwnT Z.K F H' n' w bs' → bs'.Nodup → (∀ x ∈ bs', x ∈ bs ∨ (H x = none ∧ G.H0 x = none)) →
      Stt Z G F σ H' (ρ.set i (.ot b (t.put p n'))) := by
  obtain ⟨v0, w, bs, cs, h1, h2, h3, h4, ⟨bss, h5, h6⟩, h7, h8, h9, mk⟩ := S.nil.node S.len hi hp
  have e : cs = [] := by rw [h6, h5.2]; rfl
  subst e
  exact ⟨v0, w, bs, h1, h2, h3, h4, h9, fun {n' H' bs'} k1 k2 k3 k4 k5 k6 => mk k1 k2 k3 k4 k5 (fun x hx => by
    rcases k6 x hx with z | z
    · exact .inl z
    · exact .inr (.inr z)) fun _ x _ hx => by cases hx⟩
/-- a result as data, where the slots are as ρ tells -/
inductive Lk (ρ : Env') : Res → D → Prop
  | d (x : D) : Lk ρ (.d x) x
  | fl {i : Nat} {p : List Pst} {b : Option Addr} {t : Tr} {ds : List D} : ρ[i]? = some (.ot b t) → t.get p = some (.fl ds) → Lk ρ (.sub i p) (.lst ds)
  | fm {i : Nat} {p : List Pst} {b : Option Addr} {t : Tr} {kvs : List (Key × D)} : ρ[i]? = some (.ot b t) → t.get p = some (.fm kvs) → Lk ρ (.sub i p) (.dic false kvs)
/-- data as it can be read now -/
def Vw (K : PySem.W.Frag) (F H : Hp) : D → V → Prop
  | .lst ds, v => ∃ a vs, v = .ref a ∧ H a = some (.lst vs) ∧ DenAll K F ds vs
  | .dic _ kvs, v => ∃ a kws, v = .ref a ∧ Rd H a (.dK kws) ∧ DenKv K F kvs kws
  | x, v => Den K F x v
theorem Vw.of_den {K : PySem.W.Frag} {F H : Hp} (l : FLe F H) : ∀ {x : D} {v : V}, Den K F x v → Vw K F H x v
  | .lst ds, v, h => by
    obtain ⟨a, vs, e, q, r⟩ := h
    exact ⟨a, vs, e, l.eq q, r⟩
  | .dic lk ds, v, h => by
    obtain ⟨a, vs, e, q, r⟩ := h
    exact ⟨a, vs, e, (q.mono l).rd, r⟩
  | .non, _, h => h
  | .bl _, _, h => h
  | .int _, _, h => h
  | .str _, _, h => h
  | .ty _, _, h => h
  | .cls _, _, h => h
  | .ptr _, _, h => h
  | .tun _, _, h => h
  | .tup _, _, h => h
  | .scr _, _, h => h
  | .obj _ _ _, _, h => h
  | .exc _ _, _, h => h
theorem ResOk.mono {Z : Zd} {G : Gd} {F F' : Hp} {σ : L2.St} {H H' : Hp} {ρ ρ' : Env'} {v : V} (l : FLe F F') : ∀ {r : Res}, r.st = true → ResOk Z G F σ H ρ v r → ResOk Z G F' σ H' ρ' v r
  | .d x, _, h => Den.mono l x v h
  | .sub i [], _, h => h
  | .sub i (_ :: _), e, _ => by cases e
  | .fr t, e, _ => by cases e
theorem Lk.vw {Z : Zd} {G : Gd} {F H : Hp} {σ : L2.St} {ρ : Env'} {r : Res} {x : D} {v : V} (S : Stt Z G F σ H ρ) (h : ResOk Z G F σ H ρ v r) (l : Lk ρ r x) : Vw Z.K F H x v := by
  cases l with
  | d x => exact .of_den S.fle h
  | fl hi hp =>
    obtain ⟨v0, e0, h⟩ := h
    obtain ⟨v1, w, bs, e1, e2, ⟨a, vs, rfl, _, ha, hd⟩, _⟩ := S.node0 hi hp
    rw [e0] at e1
    cases e1
    rw [h] at e2
    cases e2
    exact ⟨a, vs, rfl, ha, hd⟩
  | fm hi hp =>
    obtain ⟨v0, e0, h⟩ := h
    obtain ⟨v1, w, bs, e1, e2, ⟨a, vs, rfl, _, ha, hd⟩, _⟩ := S.node0 hi hp
    rw [e0] at e1
    cases e1
    rw [h] at e2
    cases e2
    exact ⟨a, vs, rfl, .inl ha, hd⟩

/-! ### how a statement ends -/
inductive Out where
  | nx (ρ : Env') | rt (r : Res) (ρ : Env') | bk (ρ : Env') | ct (ρ : Env') | rz (C : Value) (fs : List (Str × D)) (ρ : Env')
/-- an exception's dict -/
def XdOk (K : PySem.W.Frag) (F H : Hp) (fs : List (Str × D)) : Option Addr → Prop
  | none => fs = []
  | some dx => ∃ gs, H dx = some (.xd gs) ∧ DenFs K F fs gs
def Sat (Z : Zd) (G : Gd) (E : XK) (F H : Hp) (D : Ends) : Out → Prop
  | .nx ρ => ∀ F' σ' H', Stt Z G F' σ' H' ρ → FStep F H F' H' → D.nx σ' H'
  | .rt r ρ => ∀ F' σ' H' v, Stt Z G F' σ' H' ρ → FStep F H F' H' → ResOk Z G F' σ' H' ρ v r → D.rt v H'
  | .rz C fs ρ => ∀ F' σ' H' d, Stt Z G F' σ' H' ρ → FStep F H F' H' → XdOk Z.K F' H' fs d → E C d H'
  | .bk ρ => ∀ F' σ' H', Stt Z G F' σ' H' ρ → FStep F H F' H' → D.bk σ' H'
  | .ct ρ => ∀ F' σ' H', Stt Z G F' σ' H' ρ → FStep F H F' H' → D.ct σ' H'
theorem Sat.step {Z : Zd} {G : Gd} {F H F1 H1 : Hp} {E : XK} {D : Ends} (a : FStep F H F1 H1) : ∀ {o : Out}, Sat Z G E F H D o → Sat Z G E F1 H1 D o
  | .nx ρ, h => fun F' σ' H' S b => h F' σ' H' S (a.trans b)
  | .rt r ρ, h => fun F' σ' H' v S b q => h F' σ' H' v S (a.trans b) q
  | .rz C fs ρ, h => fun F' σ' H' d S b q => h F' σ' H' d S (a.trans b) q
  | .bk ρ, h => fun F' σ' H' S b => h F' σ' H' S (a.trans b)
  | .ct ρ, h => fun F' σ' H' S b => h F' σ' H' S (a.trans b)
def Es (Z : Zd) (E : XK) (t : TS) (ρ : Env') (P : Out → Prop) : Prop := ∀ G F σ H D, Stt Z G F σ H ρ → (∀ o, P o → Sat Z G E F H D o) → t D σ H
def EsX (c : CD) (st : List Stmt) (ρ : Env') (P : Out → Prop) : Prop := Es c.z c.E (tSs c st) ρ P
def EsX1 (c : CD) (st : Stmt) (ρ : Env') (P : Out → Prop) : Prop := Es c.z c.E (tS c st) ρ P
theorem EsX1.imp {c : CD} {st : Stmt} {ρ : Env'} {P P' : Out → Prop} (h : EsX1 c st ρ P) (hp : ∀ o, P o → P' o) : EsX1 c st ρ P' := fun G F σ H D S k => h G F σ H D S fun o p => k o (hp o p)
theorem EsX.imp {c : CD} {st : List Stmt} {ρ : Env'} {P P' : Out → Prop} (h : EsX c st ρ P) (hp : ∀ o, P o → P' o) : EsX c st ρ P' := fun G F σ H D S k => h G F σ H D S fun o p => k o (hp o p)
/-- the next statement's wish, then the rest's -/
def ThenP (c : CD) (rest : List Stmt) (P : Out → Prop) : Out → Prop
  | .nx ρ => EsX c rest ρ P
  | o => P o
section
variable {c : CD} {ρ ρ1 ρ2 : Env'} {P : Out → Prop}
theorem S_nil (h : P (.nx ρ)) : EsX c [] ρ P := fun G F σ H D S k => ⟨tNext, fun X _ => pss_nil, k _ h F σ H S (.refl F H)⟩
theorem S_seq {st : Stmt} {rest : List Stmt} (h : EsX1 c st ρ (ThenP c rest P)) : EsX c (st :: rest) ρ P := fun G F σ H D S k => by
  refine ⟨tSeq (tS c st) (tSs c rest), fun X ok => pss_cons (ps_tS ok st) (pss_tSs ok rest), h G F σ H _ S fun o p => ?_⟩
  cases o with
  | nx ρ' => exact fun F' σ' H' S' b => p G F' σ' H' D S' fun o q => (k o q).step b
  | rt r ρ' => exact k _ p
  | rz C fs ρ' => exact k _ p
  | bk ρ' => exact k _ p
  | ct ρ' => exact k _ p
theorem S_ret {e : Expr} {r : Res} {pos : Pos} (h : EvX c e ρ r ρ1) (hp : P (.rt r ρ1)) : EsX1 c (.Return (some e) pos) ρ P := fun G F σ H D S k =>
  ⟨tRet (tE c e), fun X ok => ps_ret (pe_tE ok e), h G F σ H _ S fun v F' H' S' b q => k _ hp F' σ H' v S' b q⟩
theorem S_retN {pos : Pos} (hp : P (.rt (.d .non) ρ)) : EsX1 c (.Return none pos) ρ P := fun G F σ H D S k => ⟨tRetN, fun X ok => ps_retN, k _ hp F σ H _ S (.refl F H) rfl⟩
theorem S_pass {pos : Pos} (hp : P (.nx ρ)) : EsX1 c (.Pass pos) ρ P := fun G F σ H D S k => ⟨tNext, fun X ok => ps_pass, k _ hp F σ H S (.refl F H)⟩
theorem S_brk {pos : Pos} (hp : P (.bk ρ)) : EsX1 c (.Break pos) ρ P := fun G F σ H D S k => ⟨tBreak, fun X ok => ps_break, k _ hp F σ H S (.refl F H)⟩
theorem S_cont {pos : Pos} (hp : P (.ct ρ)) : EsX1 c (.Continue pos) ρ P := fun G F σ H D S k => ⟨tCont, fun X ok => ps_continue, k _ hp F σ H S (.refl F H)⟩
theorem S_if {e : Expr} {a b : List Stmt} {pos : Pos} {t : Bool} (h : EtX c e ρ t ρ1) (h1 : t = true → EsX c a ρ1 P) (h2 : t = false → EsX c b ρ1 P) : EsX1 c (.If e a b pos) ρ P := fun G F σ H D S k => by
  refine ⟨tIfS (tT c e) (tSs c a) (tSs c b), fun X ok => ps_if (pt_tT ok e) (pss_tSs ok a) (pss_tSs ok b), h G F σ H _ S fun F' H' S' st => ?_⟩
  cases t with
  | true => rw [if_pos rfl]; exact h1 rfl G F' σ H' D S' fun o q => (k o q).step st
  | false => rw [if_neg Bool.false_ne_true]; exact h2 rfl G F' σ H' D S' fun o q => (k o q).step st
end

/-! ### names -/
/-- what is checked of a scope at once: slots that are seen, slots that are stored, global names -/
def scB (c : CD) (vis loc : List Nat) (gl : List Str) : Bool :=
  (vis.all fun i => match c.N[i]? with
    | some x => (match c.sc.names.lookup x with
      | some .local => true
      | some .cell => true
      | some .free => true
      | _ => false) && (!(x == ("__debug__" : Str)) && !(x == ("__classdict__" : Str)))
    | none => false) &&
  (loc.all fun i => match c.N[i]? with
    | some x => (match c.sc.names.lookup x with
      | some .local => true
      | some .cell => c.fn x
      | _ => false)
    | none => false) &&
  gl.all fun x => decide (c.sc.names.lookup x = some .globalImplicit) && (!(x == ("__debug__" : Str)) && decide (x ≠ "__name__"))
structure ScOk (c : CD) (vis loc : List Nat) (gl : List Str) : Prop where
  nd : c.N.Nodup
  kind : c.sc.kind = .function
  ok : scB c vis loc gl = true
section
variable {c : CD} {vis loc : List Nat} {gl : List Str} (S : ScOk c vis loc gl)
include S
theorem ScOk.visOf {i : Nat} {x : Str} (hi : vis.contains i = true) (hx : c.N[i]? = some x) : Vis c.sc x ∧ (x == ("__debug__" : Str)) = false ∧ (x == ("__classdict__" : Str)) = false := by
  have h := S.ok
  unfold scB at h
  simp only [Bool.and_eq_true] at h
  have h1 := List.all_eq_true.mp h.1.1 i (by simpa using hi)
  rw [hx] at h1
  simp only [Bool.and_eq_true, Bool.not_eq_true'] at h1
  refine ⟨?_, h1.2.1, h1.2.2⟩
  have h2 := h1.1
  unfold Vis
  cases e : c.sc.names.lookup x with
  | none => rw [e] at h2; cases h2
  | some k => rw [e] at h2; cases k <;> simp at h2 <;> simp
theorem ScOk.locOf {i : Nat} {x : Str} (hi : loc.contains i = true) (hx : c.N[i]? = some x) : L2.Loc c.sc x ∧ (c.fn x = true ∨ c.sc.names.lookup x = some .local) := by
  have h := S.ok
  unfold scB at h
  simp only [Bool.and_eq_true] at h
  have h2 := List.all_eq_true.mp h.1.2 i (by simpa using hi)
  rw [hx] at h2
  have h2 : (match c.sc.names.lookup x with
      | some .local => true
      | some .cell => c.fn x
      | _ => false) = true := h2
  unfold L2.Loc
  cases e : c.sc.names.lookup x with
  | none => rw [e] at h2; cases h2
  | some k => rw [e] at h2; cases k <;> simp at h2 <;> simp [h2]
theorem ScOk.glOf {x : Str} (hx : x ∈ gl) : c.sc.names.lookup x = some .globalImplicit ∧ (x == ("__debug__" : Str)) = false ∧ x ≠ "__name__" := by
  have h := S.ok
  unfold scB at h
  simp only [Bool.and_eq_true] at h
  have h1 := List.all_eq_true.mp h.2 x hx
  simp only [Bool.and_eq_true, Bool.not_eq_true', decide_eq_true_eq] at h1
  exact ⟨h1.1, h1.2.1, h1.2.2⟩
end
section
variable {c : CD} {vis loc : List Nat} {gl : List Str} {ρ ρ1 ρ2 : Env'}
theorem CD.Ok.glOf {X : Cx} (ok : c.Ok X) (S : ScOk c vis loc gl) {x : Str} (hx : x ∈ gl) : Gl X x := by
  show X.env.scope.names.lookup x = _
  rw [ok.sc]
  exact (S.glOf hx).1
/-- a name's frozen data -/
theorem E_var (S : ScOk c vis loc gl) {x : Str} {pos : Pos} {d : D} (i : Nat) (hr : ρ[i]? = some (.d d)) (hN : c.N[i]? = some x) (hi : vis.contains i = true) : EvX c (.Name x pos) ρ (.d d) ρ := fun G F σ H Q T k => by
  obtain ⟨h1, h2, h3⟩ := S.visOf hi hN
  obtain ⟨v, e, q⟩ := T.at hr
  exact ⟨tVar i, fun X ok => pe_var (by rw [ok.N]; exact hN) (by rw [ok.sc]; exact h1) h2 h3, v, e, k v F H T (.refl F H) q⟩
/-- a name's own thing -/
theorem E_own (S : ScOk c vis loc gl) {x : Str} {pos : Pos} (i : Nat) {b : Option Addr} {t : Tr} (hr : ρ[i]? = some (.ot b t)) (hN : c.N[i]? = some x) (hi : vis.contains i = true) : EvX c (.Name x pos) ρ (.sub i []) ρ := fun G F σ H Q T k => by
  obtain ⟨h1, h2, h3⟩ := S.visOf hi hN
  obtain ⟨v0, w, bs, e, ew, _⟩ := T.node0 hr (p := []) rfl
  exact ⟨tVar i, fun X ok => pe_var (by rw [ok.N]; exact hN) (by rw [ok.sc]; exact h1) h2 h3, v0, e, k v0 F H T (.refl F H) ⟨v0, e, rfl⟩⟩
theorem E_const {e : Expr} {v : V} {d : D} (h : ∀ X, c.Ok X → PE X e (tC v)) (hd : ∀ F, Den c.K F d v) : EvX c e ρ (.d d) ρ := fun G F σ H Q T k => ⟨tC v, h, k v F H T (.refl F H) (hd F)⟩
theorem E_int {i : Int} {j : Nat} {pos : Pos} : EvX c (.Constant (.int i) j pos) ρ (.d (.int i)) ρ := E_const (fun X _ => pe_int) fun _ => rfl
theorem E_str {x : Str} {j : Nat} {pos : Pos} : EvX c (.Constant (.str x) j pos) ρ (.d (.str x)) ρ := E_const (fun X _ => pe_str) fun _ => rfl
theorem E_bl {b : Bool} {j : Nat} {pos : Pos} : EvX c (.Constant (.bool b) j pos) ρ (.d (.bl b)) ρ := E_const (fun X _ => pe_bl) fun _ => rfl
theorem E_non {j : Nat} {pos : Pos} : EvX c (.Constant .none j pos) ρ (.d .non) ρ := E_const (fun X _ => pe_non) fun _ => rfl
/-- a module's constant -/
theorem E_globI (S : ScOk c vis loc gl) {x : Str} {pos : Pos} {i : Int} (hx : x ∈ gl) (hm : ∃ t, c.mg x = some (.int i t)) : EvX c (.Name x pos) ρ (.d (.int i)) ρ := by
  obtain ⟨t, hm⟩ := hm
  exact E_const (v := .int i) (fun X ok => pe_glob (ok.glOf S hx) (by rw [ok.mg]; exact hm) ⟨t, rfl⟩ (S.glOf hx).2.1) fun _ => rfl
theorem E_globS (S : ScOk c vis loc gl) {x : Str} {pos : Pos} {z : Str} (hx : x ∈ gl) (hm : ∃ t, c.mg x = some (.str z t)) : EvX c (.Name x pos) ρ (.d (.str z)) ρ := by
  obtain ⟨t, hm⟩ := hm
  exact E_const (v := .str z) (fun X ok => pe_glob (ok.glOf S hx) (by rw [ok.mg]; exact hm) ⟨t, rfl⟩ (S.glOf hx).2.1) fun _ => rfl

/-! ### operations -/
/-- a pure operation of two things -/
def Op2 (c : CD) (f : Value → Value → Sem Value) (x y z : D) : Prop := ∀ F H vx vy Q, FLe F H → Vw c.K F H x vx → Vw c.K F H y vy →
  (∀ v F' H', Grow c.z F H F' H' → Den c.K F' z v → Q v H') → ∃ r : R2, (∀ X, c.Ok X → OpR X f r) ∧ r vx vy H Q
theorem E_op {a b : Expr} {op : Operator} {pos : Pos} {ra rb : Res} {x y z : D} (ha : EvX c a ρ ra ρ1) (hb : EvX c b ρ1 rb ρ2) (la : Lk ρ2 ra x) (lb : Lk ρ2 rb y) (h : Op2 c (binaryOp op) x y z) (st : ra.st = true := by rfl) : EvX c (.BinOp a op b pos) ρ (.d z) ρ2 := fun G F σ H Q T k => by
  refine ⟨tOp (fun vx vy H Q => ∃ r : R2, (∀ X, c.Ok X → OpR X (binaryOp op) r) ∧ r vx vy H Q) (tE c a) (tE c b), fun X ok => pe_op (fun pins s σ H x y u v Q I rx ry ⟨r, hr, q⟩ => hr X ok pins s σ H x y u v Q I rx ry q) (pe_tE ok a) (pe_tE ok b), ?_⟩
  refine ha G F σ H _ T fun vx F1 H1 T1 s1 q1 => hb G F1 σ H1 _ T1 fun vy F2 H2 T2 s2 q2 => ?_
  exact h F2 H2 vx vy Q T2.fle (la.vw T2 (ResOk.mono s2.fle st q1)) (lb.vw T2 q2) fun v F3 H3 g q => k v F3 H3 (T2.grow g) ((s1.trans s2).trans g.step) q
theorem E_cmp {a b : Expr} {op : CmpOp} {pos : Pos} {ra rb : Res} {x y z : D} (ha : EvX c a ρ ra ρ1) (hb : EvX c b ρ1 rb ρ2) (la : Lk ρ2 ra x) (lb : Lk ρ2 rb y) (h : Op2 c (compareOp op) x y z) (hm : behindInMarks op b = false) (st : ra.st = true := by rfl) : EvX c (.Compare a [op] [b] pos) ρ (.d z) ρ2 := fun G F σ H Q T k => by
  refine ⟨tOp (fun vx vy H Q => ∃ r : R2, (∀ X, c.Ok X → OpR X (compareOp op) r) ∧ r vx vy H Q) (tE c a) (tE c b), fun X ok => pe_cmpR (fun pins s σ H x y u v Q I rx ry ⟨r, hr, q⟩ => hr X ok pins s σ H x y u v Q I rx ry q) (pe_tE ok a) (pe_tE ok b) hm, ?_⟩
  refine ha G F σ H _ T fun vx F1 H1 T1 s1 q1 => hb G F1 σ H1 _ T1 fun vy F2 H2 T2 s2 q2 => ?_
  exact h F2 H2 vx vy Q T2.fle (la.vw T2 (ResOk.mono s2.fle st q1)) (lb.vw T2 q2) fun v F3 H3 g q => k v F3 H3 (T2.grow g) ((s1.trans s2).trans g.step) q
theorem T_cmp {a b : Expr} {op : CmpOp} {pos : Pos} {ra rb : Res} {x y : D} {z : Bool} (ha : EvX c a ρ ra ρ1) (hb : EvX c b ρ1 rb ρ2) (la : Lk ρ2 ra x) (lb : Lk ρ2 rb y) (h : Op2 c (compareOp op) x y (.bl z)) (hm : behindInMarks op b = false) (st : ra.st = true := by rfl) : EtX c (.Compare a [op] [b] pos) ρ z ρ2 := fun G F σ H Q T k => by
  refine ⟨tTest (tOp (fun vx vy H Q => ∃ r : R2, (∀ X, c.Ok X → OpR X (compareOp op) r) ∧ r vx vy H Q) (tE c a) (tE c b)), fun X ok => pt_cmpR (fun pins s σ H x y u v Q I rx ry ⟨r, hr, q⟩ => hr X ok pins s σ H x y u v Q I rx ry q) (pe_tE ok a) (pe_tE ok b) hm, ?_⟩
  refine ha G F σ H _ T fun vx F1 H1 T1 s1 q1 => hb G F1 σ H1 _ T1 fun vy F2 H2 T2 s2 q2 => ?_
  exact h F2 H2 vx vy _ T2.fle (la.vw T2 (ResOk.mono s2.fle st q1)) (lb.vw T2 q2) fun v F3 H3 g q => ⟨z, q, k F3 H3 (T2.grow g) ((s1.trans s2).trans g.step)⟩
/-- a pure operation's reading -/
def rP (c : CD) (f : Value → Value → Sem Value) : R2 := fun vx vy H Q => ∃ r : R2, (∀ X, c.Ok X → OpR X f r) ∧ r vx vy H Q
theorem rP_ok {f : Value → Value → Sem Value} {X : Cx} (ok : c.Ok X) : OpR X f (rP c f) := fun pins s σ H x y u v Q I rx ry ⟨_, hr, q⟩ => hr X ok pins s σ H x y u v Q I rx ry q
/-- a < b < c -/
theorem chain_run {a b d : Expr} {op op' : CmpOp} {ra rb rd : Res} {x y z : D} {u u' : Bool} (ha : EvX c a ρ ra ρ1) (hb : EvX c b ρ1 rb ρ2) (la : Lk ρ2 ra x) (lb : Lk ρ2 rb y) (h : Op2 c (compareOp op) x y (.bl u))
    (hd : u = true → EvX c d ρ2 rd ρ2) (ld : Lk ρ2 rd z) (h' : u = true → Op2 c (compareOp op') y z (.bl u')) (st : ra.st = true) (st2 : rb.st = true) {G : Gd} {F : Hp} {σ : L2.St} {H : Hp} {Q : VK} (T : Stt c.z G F σ H ρ)
    (k : ∀ F' H', Stt c.z G F' σ H' ρ2 → FStep F H F' H' → Q (.bl (u && u')) H') : tChain (rP c (compareOp op)) (rP c (compareOp op')) (tE c a) (tE c b) (tE c d) σ H Q := by
  refine ha G F σ H _ T fun vx F1 H1 T1 s1 q1 => hb G F1 σ H1 _ T1 fun vy F2 H2 T2 s2 q2 => ?_
  refine h F2 H2 vx vy _ T2.fle (la.vw T2 (ResOk.mono s2.fle st q1)) (lb.vw T2 q2) fun v F3 H3 g q => ⟨u, q, ?_⟩
  have T3 := T2.grow g
  have s3 := (s1.trans s2).trans g.step
  cases u with
  | false => rw [if_neg Bool.false_ne_true]; exact k F3 H3 T3 s3
  | true =>
    rw [if_pos rfl]
    refine hd rfl G F3 σ H3 _ T3 fun vz F4 H4 T4 s4 q4 => ?_
    exact h' rfl F4 H4 vy vz _ T4.fle (lb.vw T4 (ResOk.mono (H' := H4) (g.fle.trans s4.fle) st2 q2)) (ld.vw T4 q4) fun v F5 H5 g5 q5 => by
      have q5 : v = .bl u' := q5
      subst q5
      exact k F5 H5 (T4.grow g5) ((s3.trans s4).trans g5.step)
theorem T_chain {a b d : Expr} {op op' : CmpOp} {pos : Pos} {ra rb rd : Res} {x y z : D} {u u' : Bool} (ha : EvX c a ρ ra ρ1) (hb : EvX c b ρ1 rb ρ2) (la : Lk ρ2 ra x) (lb : Lk ρ2 rb y) (h : Op2 c (compareOp op) x y (.bl u))
    (hd : u = true → EvX c d ρ2 rd ρ2) (ld : Lk ρ2 rd z) (h' : u = true → Op2 c (compareOp op') y z (.bl u')) (m : lastMarks [op, op'] [b, d] = false) (st : ra.st = true := by rfl) (st2 : rb.st = true := by rfl) : EtX c (.Compare a [op, op'] [b, d] pos) ρ (u && u') ρ2 := fun G F σ H Q T k =>
  ⟨tTest (tChain (rP c (compareOp op)) (rP c (compareOp op')) (tE c a) (tE c b) (tE c d)), fun X ok => pt_chain (rP_ok ok) (rP_ok ok) (pe_tE ok a) (pe_tE ok b) (pe_tE ok d) m,
    chain_run ha hb la lb h hd ld h' st st2 T fun F' H' T' s => ⟨_, rfl, k F' H' T' s⟩⟩
theorem E_chain {a b d : Expr} {op op' : CmpOp} {pos : Pos} {ra rb rd : Res} {x y z : D} {u u' : Bool} (ha : EvX c a ρ ra ρ1) (hb : EvX c b ρ1 rb ρ2) (la : Lk ρ2 ra x) (lb : Lk ρ2 rb y) (h : Op2 c (compareOp op) x y (.bl u))
    (hd : u = true → EvX c d ρ2 rd ρ2) (ld : Lk ρ2 rd z) (h' : u = true → Op2 c (compareOp op') y z (.bl u')) (m : lastMarks [op, op'] [b, d] = false) (st : ra.st = true := by rfl) (st2 : rb.st = true := by rfl) : EvX c (.Compare a [op, op'] [b, d] pos) ρ (.d (.bl (u && u'))) ρ2 := fun G F σ H Q T k =>
  ⟨tChain (rP c (compareOp op)) (rP c (compareOp op')) (tE c a) (tE c b) (tE c d), fun X ok => pe_chain (rP_ok ok) (rP_ok ok) (pe_tE ok a) (pe_tE ok b) (pe_tE ok d) m,
    chain_run ha hb la lb h hd ld h' st st2 T fun F' H' T' s => k _ F' H' T' s rfl⟩

/-! ### and, or, not, if-else -/
theorem T_not {a : Expr} {pos : Pos} {b : Bool} (h : EtX c a ρ b ρ1) : EtX c (.UnaryOp .Not a pos) ρ (!b) ρ1 := fun G F σ H Q T k => ⟨tNot (tT c a), fun X ok => pt_not (pt_tT ok a), h G F σ H _ T k⟩
/-- and, or as tests: the weakest reading of a test whatever its whole is -/
def tW (c : CD) (e : Expr) : TT := fun σ H Q => ∃ t, (∀ X, c.Ok X → PW X e t) ∧ t σ H Q
theorem pw_tW {X : Cx} (ok : c.Ok X) (e : Expr) : PW X e (tW c e) := ⟨fun w pins s σ H Q I ⟨_, h, q⟩ => (h X ok).run w pins s σ H Q I q⟩
def EwX (c : CD) (e : Expr) (ρ : Env') (b : Bool) (ρ' : Env') : Prop := Et c.z (tW c e) ρ b ρ'
theorem T_w {e : Expr} {b : Bool} (h : EwX c e ρ b ρ1) : EtX c e ρ b ρ1 := fun G F σ H Q T k => ⟨tW c e, fun X ok => (pw_tW ok e).pt, h G F σ H _ T k⟩
theorem W_and1 {a : Expr} {pos : Pos} {b : Bool} (h : EtX c a ρ b ρ1) : EwX c (.BoolOp .And [a] pos) ρ b ρ1 := fun G F σ H Q T k => ⟨tT c a, fun X ok => pw_and1 (pt_tT ok a), h G F σ H _ T k⟩
theorem W_or1 {a : Expr} {pos : Pos} {b : Bool} (h : EtX c a ρ b ρ1) : EwX c (.BoolOp .Or [a] pos) ρ b ρ1 := fun G F σ H Q T k => ⟨tT c a, fun X ok => pw_or1 (pt_tT ok a), h G F σ H _ T k⟩
theorem W_and {a b : Expr} {rest : List Expr} {pos : Pos} {u v : Bool} (h : EtX c a ρ u ρ) (h' : u = true → EwX c (.BoolOp .And (b :: rest) pos) ρ v ρ) : EwX c (.BoolOp .And (a :: b :: rest) pos) ρ (u && v) ρ := fun G F σ H Q T k => by
  refine ⟨tAnd (tT c a) (tW c (.BoolOp .And (b :: rest) pos)), fun X ok => pw_and (pt_tT ok a) (pw_tW ok _), h G F σ H _ T fun F1 H1 T1 s1 => ?_⟩
  cases u with
  | true => rw [if_pos rfl]; exact h' rfl G F1 σ H1 _ T1 fun F2 H2 T2 s2 => k F2 H2 T2 (s1.trans s2)
  | false => rw [if_neg Bool.false_ne_true]; exact k F1 H1 T1 s1
theorem W_or {a b : Expr} {rest : List Expr} {pos : Pos} {u v : Bool} (h : EtX c a ρ u ρ) (h' : u = false → EwX c (.BoolOp .Or (b :: rest) pos) ρ v ρ) : EwX c (.BoolOp .Or (a :: b :: rest) pos) ρ (u || v) ρ := fun G F σ H Q T k => by
  refine ⟨tOr (tT c a) (tW c (.BoolOp .Or (b :: rest) pos)), fun X ok => pw_or (pt_tT ok a) (pw_tW ok _), h G F σ H _ T fun F1 H1 T1 s1 => ?_⟩
  cases u with
  | true => rw [if_pos rfl]; exact k F1 H1 T1 s1
  | false => rw [if_neg Bool.false_ne_true]; exact h' rfl G F1 σ H1 _ T1 fun F2 H2 T2 s2 => k F2 H2 T2 (s1.trans s2)
theorem E_one {op : BoolOp} {a : Expr} {pos : Pos} {r : Res} (h : EvX c a ρ r ρ1) : EvX c (.BoolOp op [a] pos) ρ r ρ1 := fun G F σ H Q T k => ⟨tE c a, fun X ok => pe_one (pe_tE ok a), h G F σ H _ T k⟩
theorem E_and {a b : Expr} {rest : List Expr} {pos : Pos} {u v : Bool} (h : EvX c a ρ (.d (.bl u)) ρ) (h' : u = true → EvX c (.BoolOp .And (b :: rest) pos) ρ (.d (.bl v)) ρ) : EvX c (.BoolOp .And (a :: b :: rest) pos) ρ (.d (.bl (u && v))) ρ := fun G F σ H Q T k => by
  refine ⟨tAndV (tE c a) (tE c (.BoolOp .And (b :: rest) pos)), fun X ok => pe_and (pe_tE ok a) (pe_tE ok _), h G F σ H _ T fun w F1 H1 T1 s1 q => ⟨u, q, ?_⟩⟩
  cases u with
  | true => rw [if_pos rfl]; exact h' rfl G F1 σ H1 _ T1 fun w F2 H2 T2 s2 q => k w F2 H2 T2 (s1.trans s2) q
  | false => rw [if_neg Bool.false_ne_true]; exact k _ F1 H1 T1 s1 rfl
theorem E_or {a b : Expr} {rest : List Expr} {pos : Pos} {u v : Bool} (h : EvX c a ρ (.d (.bl u)) ρ) (h' : u = false → EvX c (.BoolOp .Or (b :: rest) pos) ρ (.d (.bl v)) ρ) : EvX c (.BoolOp .Or (a :: b :: rest) pos) ρ (.d (.bl (u || v))) ρ := fun G F σ H Q T k => by
  refine ⟨tOrV (tE c a) (tE c (.BoolOp .Or (b :: rest) pos)), fun X ok => pe_or (pe_tE ok a) (pe_tE ok _), h G F σ H _ T fun w F1 H1 T1 s1 q => ⟨u, q, ?_⟩⟩
  cases u with
  | true => rw [if_pos rfl]; exact k _ F1 H1 T1 s1 rfl
  | false => rw [if_neg Bool.false_ne_true]; exact h' rfl G F1 σ H1 _ T1 fun w F2 H2 T2 s2 q => k w F2 H2 T2 (s1.trans s2) q
theorem E_not {a : Expr} {pos : Pos} {u : Bool} (h : EvX c a ρ (.d (.bl u)) ρ1) : EvX c (.UnaryOp .Not a pos) ρ (.d (.bl (!u))) ρ1 := fun G F σ H Q T k =>
  ⟨tNotV (tE c a), fun X ok => pe_not (pe_tE ok a), h G F σ H _ T fun w F1 H1 T1 s1 q => ⟨u, q, k _ F1 H1 T1 s1 rfl⟩⟩
theorem E_if {t a b : Expr} {pos : Pos} {u : Bool} {r : Res} (h : EtX c t ρ u ρ1) (h1 : u = true → EvX c a ρ1 r ρ2) (h2 : u = false → EvX c b ρ1 r ρ2) : EvX c (.IfExp t a b pos) ρ r ρ2 := fun G F σ H Q T k => by
  refine ⟨tIf (tT c t) (tE c a) (tE c b), fun X ok => pe_ifExp (pt_tT ok t) (pe_tE ok a) (pe_tE ok b), h G F σ H _ T fun F1 H1 T1 s1 => ?_⟩
  cases u with
  | true => rw [if_pos rfl]; exact h1 rfl G F1 σ H1 _ T1 fun w F2 H2 T2 s2 q => k w F2 H2 T2 (s1.trans s2) q
  | false => rw [if_neg Bool.false_ne_true]; exact h2 rfl G F1 σ H1 _ T1 fun w F2 H2 T2 s2 q => k w F2 H2 T2 (s1.trans s2) q
/-- an expression that yields a bool, as a test -/
theorem T_val {e : Expr} {u : Bool} (h : EvX c e ρ (.d (.bl u)) ρ1) (he : ∀ (X : Cx) whole, isTrue e X.env whole = (do let v ← whole; standAt e.pos; holding [v] (truthy v))) : EtX c e ρ u ρ1 := fun G F σ H Q T k =>
  ⟨tB (tE c e), fun X ok => pt_val (pe_tE ok e) (he X), h G F σ H _ T fun w F1 H1 T1 s1 q => ⟨u, q, k F1 H1 T1 s1⟩⟩

/-! ### arguments, displays -/
theorem A_nil : EaX c [] ρ [] ρ := fun G F σ H Q T k => ⟨tNil, fun X ok => pa_nil, k [] F H T (.refl F H) rfl fun i v r h => by simp at h⟩
theorem A_cons {e : Expr} {es : List Expr} {r : Res} {rs : List Res} (h : EvX c e ρ r ρ1) (h' : EaX c es ρ1 rs ρ2) (hs : ∀ X : Cx, starEach (e :: es) X.env = (false, eval e X.env) :: starEach es X.env) (st : r.st = true := by rfl) : EaX c (e :: es) ρ (r :: rs) ρ2 := fun G F σ H Q T k =>
  ⟨tCons (tE c e) (tA c es), fun X ok => pa_cons (pe_tE ok e) (pa_tA ok es) (hs X), h G F σ H _ T fun v F1 H1 T1 s1 q1 => h' G F1 σ H1 _ T1 fun vs F2 H2 T2 s2 l q2 => k (v :: vs) F2 H2 T2 (s1.trans s2) (by simp [l]) fun i w r' e1 e2 => by
    cases i with
    | zero =>
      simp at e1 e2
      subst e1 e2
      exact ResOk.mono s2.fle st q1
    | succ i =>
      simp at e1 e2
      exact q2 i w r' e1 e2⟩
theorem denAll_of {Z : Zd} {G : Gd} {F H : Hp} {σ : L2.St} {ρ : Env'} : ∀ {ds : List D} {vs : List V}, vs.length = (ds.map Res.d).length → (∀ (i : Nat) (v : V) (r : Res), vs[i]? = some v → (ds.map Res.d)[i]? = some r → ResOk Z G F σ H ρ v r) → DenAll Z.K F ds vs
  | [], vs, l, h => by
    cases vs with
    | nil => rfl
    | cons v vs => simp at l
  | d :: ds, vs, l, h => by
    cases vs with
    | nil => simp at l
    | cons v vs => exact ⟨v, vs, rfl, h 0 v (.d d) rfl rfl, denAll_of (by simpa using l) fun i w r e1 e2 => h (i + 1) w r (by simpa using e1) (by simpa using e2)⟩
theorem E_tup {es : List Expr} {x1 : _} {pos : Pos} {ds : List D} (h : EaX c es ρ (ds.map Res.d) ρ1) (hl : ds.length ≤ 1000) : EvX c (.Tuple es x1 pos) ρ (.d (.tup ds)) ρ1 := fun G F σ H Q T k =>
  ⟨tTup (tA c es), fun X ok => pe_tup (pa_tA ok es), h G F σ H _ T fun vs F1 H1 T1 s1 l q => by
    have hd := denAll_of l q
    refine ⟨by rw [l, List.length_map]; exact Nat.le_of_lt (small1000 hl), fun p n => ?_⟩
    have g := Grow.alloc (Z := c.z) (o := .tup vs) T1.fle n
    exact k _ _ _ (T1.grow g) (s1.trans g.step) (den_tup (T1.fle.none n) hd)⟩
theorem E_lst {es : List Expr} {pos : Pos} {ds : List D} (h : EaX c es ρ (ds.map Res.d) ρ1) (hl : ds.length ≤ 1000) : EvX c (.List es pos) ρ (.d (.lst ds)) ρ1 := fun G F σ H Q T k =>
  ⟨tLst (tA c es), fun X ok => pe_lst (pa_tA ok es), h G F σ H _ T fun vs F1 H1 T1 s1 l q => by
    have hd := denAll_of l q
    refine ⟨by rw [l, List.length_map]; exact Nat.le_of_lt (small1000 hl), fun p n => ?_⟩
    have g := Grow.alloc (Z := c.z) (o := .lst vs) T1.fle n
    exact k _ _ _ (T1.grow g) (s1.trans g.step) (den_lst (T1.fle.none n) hd)⟩
end
end Fw

set_option Elab.async false
set_option maxRecDepth 100000
set_option maxHeartbeats 4000000
/-! Fw3: defs that keep a promise where no repr is under way (guards empty); calls of them. -/
namespace Fw
open PySem PySem.Spec PyProof.Rows L2

/-- the def at f keeps the promise sp, where nothing is under way -/
structure FnK (P : Program) (w : World) (K : PySem.W.Frag) (mg : Str → Option Value) (base : Heap) (CX : CXT) (k : Nat) (f : Addr) (fd : FuncData) (ps : List Str) (sp : Sp) : Prop where
  len : ∀ vs H Q E, sp vs H Q E → vs.length = ps.length
  run : ∀ (A : Around) (outer : List Env) (s : Shared) (H : Hp) (args : Args) (us : List Value) (vs : List V) (Q : VK) (E : XK), Rm k A → Env0 P w K mg base A outer s H →
    BindsTo s fd args (ps.zip us) → Vals vs us → sp vs H Q E → codeAny (model P w) A (.call (.ref f) args) (CR CX outer P w H s Q E) s
theorem FnK.mono {P : Program} {w : World} {K : PySem.W.Frag} {mg : Str → Option Value} {base : Heap} {CX : CXT} {j k : Nat} {f : Addr} {fd : FuncData} {ps : List Str} {sp : Sp} (F : FnK P w K mg base CX j f fd ps sp) (h : j ≤ k) : FnK P w K mg base CX k f fd ps sp :=
  ⟨F.len, fun A outer s H args us vs Q E hr => F.run A outer s H args us vs Q E (hr.mono h)⟩
/-- the answer of a call as it comes back -/
theorem back_of {X : Cx} {CX : CXT} {E : XK} {pins : List (Addr × Obj)} {σ : L2.St} {H : Hp} {s s' : Shared} {Q : VK} (I : Inv X pins σ H s) (hx : Passes CX X E) : ∀ {r : Result}, CR CX X.stack X.prog X.w H s Q E r s' →
    (match r with
      | .ok (.ret u) => EP X pins σ Q u s'
      | .ok _ => False
      | .error e => X.xe e s')
  | .error e, h => hx pins σ H s e s' I h
  | .ok (.ret u), h => I.after h
  | .ok .next, h => h
  | .ok .brk, h => h
  | .ok .cont, h => h
section
variable {X : Cx} {CX : CXT} {k : Nat} {f C : Addr} {fd : FuncData} {ps : List Str} {sp : Sp} {ds : List Value} {dvs : List V} {E : XK} {x m : Str} {p pos apos : Pos} {e o : Expr} {es : List Expr} {ta : TE} {t : TA}
theorem goK {pins : List (Addr × Obj)} {σ : L2.St} {H : Hp} {s : Shared} {Q : VK} {us : List Value} {vs : List V} (F : FnK X.prog X.w X.K X.mg X.base CX k f fd ps sp) (hr : Rm k X.A) (hb : Binds X.K fd ps ds) (hd : Vals dvs ds)
    (hx : Passes CX X E) (I : Inv X pins σ H s) (r : Vals vs us) (h : sp (vs ++ dvs) H Q E) : wpAny (model X.prog X.w) X.A (call (.ref f) us) (EP X pins σ Q) X.xe s := by
  have rr := Vals.append r hd
  have hl : (us ++ ds).length = ps.length := rr.length.symm.trans (F.len _ _ _ _ h)
  refine wpAny_call (codeAny_mono (F.run X.A X.stack s H ⟨us, []⟩ _ _ Q E hr I.env0 (hb s us I.kIn hl) rr h) fun r s' q => ?_)
  have z := back_of I hx q
  cases r with
  | error e => exact z
  | ok fl => cases fl <;> first | exact z | exact z.elim
theorem pk_call (F : FnK X.prog X.w X.K X.mg X.base CX k f fd ps sp) (hr : Rm k X.A) (hg : Gl X x) (hm : X.mg x = some (.ref f)) (hk : PySem.W.keepIn X.K (.ref f) = true) (hb : Binds X.K fd ps ds) (hd : Vals dvs ds) (hx : Passes CX X E)
    (ha : PA X (e :: es) t) (hdb : (x == ("__debug__" : Str)) = false) (he : starEach (e :: es) X.env = (false, eval e X.env) :: starEach es X.env) (hpl : (backTo pos (starEach es X.env)).any (·.1) = false) :
    PE X (.Call (.Name x p) (e :: es) [] pos) (tCall sp dvs E t) :=
  ⟨fun pins s σ H Q I h => wpAny_Call_Name_kw (ld_glob I hg hm (PySem.W.callWith_K (h₀ := X.base) I.ok.mod.kin hk
    (thn (ha.run pos pins s σ H _ I h) fun us s1 hs => by
      obtain ⟨vs, H1, I1, r, q⟩ := hs
      exact ⟨I1.kIn, goK F hr hb hd hx I1 r q⟩) he hpl) hdb)⟩
theorem pk_call0 (F : FnK X.prog X.w X.K X.mg X.base CX k f fd ps sp) (hr : Rm k X.A) (hg : Gl X x) (hm : X.mg x = some (.ref f)) (hk : PySem.W.keepIn X.K (.ref f) = true) (hb : Binds X.K fd ps ds) (hd : Vals dvs ds) (hx : Passes CX X E)
    (hdb : (x == ("__debug__" : Str)) = false) : PE X (.Call (.Name x p) [] [] pos) (tCall sp dvs E tNil) :=
  ⟨fun pins s σ H Q I h => wpAny_Call_Name_kw (ld_glob I hg hm (PySem.W.callWith_K0 I.kIn hk (goK (us := []) F hr hb hd hx I .nil h)) hdb)⟩
theorem pk_meth {pl : Sem Bool} (he : PE X o ta) (c : Cls X.K C) (hm : Meth X.K C m f) (F : FnK X.prog X.w X.K X.mg X.base CX k f fd ps sp) (hr : Rm k X.A) (hb : Binds X.K fd ps ds) (hd : Vals dvs ds) (hx : Passes CX X E) (ha : PA X (e :: es) t)
    (hst : starEach (e :: es) X.env = (false, eval e X.env) :: starEach es X.env) (hpl : (backTo pos (starEach es X.env)).any (·.1) = false)
    (ht : eval (.Call (.Attribute o m apos) (e :: es) [] pos) X.env = (eval o X.env >>= fun ov => standAt apos.atName >>= fun _ => holding [ov] (getMethod ov m pl) >>= fun q => callWith pos q.1 q.2 (backTo pos (starEach (e :: es) X.env)) (backToKw pos (keywordEach [] X.env)))) :
    PE X (.Call (.Attribute o m apos) (e :: es) [] pos) (tMeth C m sp dvs E ta t) := by
  refine ⟨fun pins s σ H Q I h => PySem.W.methodCall_KW (pl := pl) (thn (he.run pins s σ H _ I h) fun u s1 hs => ?_) ht⟩
  obtain ⟨x, H1, I1, rx, a, dx, fs, ex, ea, l, q⟩ := hs
  subst ex
  obtain rfl : u = Value.ref a := rx
  refine getmeth_ok I1 ea c hm l (PySem.W.callWith_K (first := [.ref a]) (h₀ := X.base) I.ok.mod.kin hm.kp (thn (ha.run pos pins s1 σ H1 _ I1 q) fun us s2 hs2 => ?_) hst hpl)
  obtain ⟨vs, H2, I2, r, q2⟩ := hs2
  exact ⟨I2.kIn, goK (us := .ref a :: us) (vs := .ref a :: vs) F hr hb hd hx I2 (.cons rfl r) q2⟩
theorem pk_meth0 {pl : Sem Bool} (he : PE X o ta) (c : Cls X.K C) (hm : Meth X.K C m f) (F : FnK X.prog X.w X.K X.mg X.base CX k f fd ps sp) (hr : Rm k X.A) (hb : Binds X.K fd ps ds) (hd : Vals dvs ds) (hx : Passes CX X E)
    (ht : eval (.Call (.Attribute o m apos) [] [] pos) X.env = (eval o X.env >>= fun ov => standAt apos.atName >>= fun _ => holding [ov] (getMethod ov m pl) >>= fun q => callWith pos q.1 q.2 (backTo pos (starEach [] X.env)) (backToKw pos (keywordEach [] X.env)))) :
    PE X (.Call (.Attribute o m apos) [] [] pos) (tMeth C m sp dvs E ta tNil) := by
  refine ⟨fun pins s σ H Q I h => PySem.W.methodCall_KW (pl := pl) (thn (he.run pins s σ H _ I h) fun u s1 hs => ?_) ht⟩
  obtain ⟨x, H1, I1, rx, a, dx, fs, ex, ea, l, q⟩ := hs
  subst ex
  obtain rfl : u = Value.ref a := rx
  exact getmeth_ok I1 ea c hm l (PySem.W.callWith_K0 (first := [.ref a]) I1.kIn hm.kp (goK (us := [.ref a]) (vs := [.ref a]) F hr hb hd hx I1 (.cons rfl .nil) q))
theorem goMake {pins : List (Addr × Obj)} {σ : L2.St} {H : Hp} {s : Shared} {Q : VK} {us : List Value} {vs : List V} (M : Mk X.K C f) (F : FnK X.prog X.w X.K X.mg X.base CX k f fd ps sp) (hr : Rm (k + 1) X.A) (hb : Binds X.K fd ps ds) (hd : Vals dvs ds)
    (hx : Passes CX X E) (I : Inv X pins σ H s) (r : Vals vs us)
    (h : ∀ x dx, H x = none → H dx = none → dx ≠ x → sp (.ref x :: (vs ++ dvs)) (upd (upd H dx (.own x)) x (.ins C dx [])) (fun v H2 => v = .non ∧ Q (.ref x) H2) E) : wpAny (model X.prog X.w) X.A (call (.ref C) us) (EP X pins σ Q) X.xe s := by
  have q0 := h (s.heap.objs.size + 1) s.heap.objs.size (I.hok.fresh (Nat.le_succ _)) (I.hok.fresh (Nat.le_refl _)) (Nat.ne_of_lt (Nat.lt_succ_self _))
  have J := Inv.made (C := C) I
  have rr : Vals (V.ref (s.heap.objs.size + 1) :: (vs ++ dvs)) (Value.ref (s.heap.objs.size + 1) :: (us ++ ds)) := .cons rfl (Vals.append r hd)
  have hl : (Value.ref (s.heap.objs.size + 1) :: us ++ ds).length = ps.length := rr.length.symm.trans (F.len _ _ _ _ q0)
  have go := F.run _ X.stack _ _ ⟨Value.ref (s.heap.objs.size + 1) :: us, []⟩ _ _ _ E (hr.make C us []) (J.env0.make C us []) (hb _ (Value.ref (s.heap.objs.size + 1) :: us) J.kIn hl) rr q0
  refine wpAny_call (make_map (f := f) I.kIn M.makes M.init (beq_iff_eq.mp M.fn) (codeAny_mono go fun r s' q => ?_))
  have z := back_of J hx q
  cases r with
  | error e => exact z
  | ok fl =>
    cases fl with
    | ret u =>
      obtain ⟨v, H', I3, rv, ev, q3⟩ := z
      subst ev
      exact ⟨rv, V.ref (s.heap.objs.size + 1), H', I3, rfl, q3⟩
    | next => exact z.elim
    | brk => exact z.elim
    | cont => exact z.elim
theorem pk_make (M : Mk X.K C f) (F : FnK X.prog X.w X.K X.mg X.base CX k f fd ps sp) (hr : Rm (k + 1) X.A) (hg : Gl X x) (hm : X.mg x = some (.ref C)) (hb : Binds X.K fd ps ds) (hd : Vals dvs ds) (hx : Passes CX X E)
    (ha : PA X (e :: es) t) (hdb : (x == ("__debug__" : Str)) = false) (he : starEach (e :: es) X.env = (false, eval e X.env) :: starEach es X.env) (hpl : (backTo pos (starEach es X.env)).any (·.1) = false) :
    PE X (.Call (.Name x p) (e :: es) [] pos) (tMake C sp dvs E t) :=
  ⟨fun pins s σ H Q I h => wpAny_Call_Name_kw (ld_glob I hg hm (PySem.W.callWith_K (h₀ := X.base) I.ok.mod.kin M.kp
    (thn (ha.run pos pins s σ H _ I h) fun us s1 hs => by
      obtain ⟨vs, H1, I1, r, q⟩ := hs
      exact ⟨I1.kIn, goMake M F hr hb hd hx I1 r q⟩) he hpl) hdb)⟩
end
/-- a def of the text run at a state, by its body -/
theorem body_run {CX : CXT} {P : Program} {w : World} {K : PySem.W.Frag} {mg : Str → Option Value} {base : Heap} {x qual : Str} {params : Arguments} {body : List Stmt} {scope : Scope} {dvs : List V} {kws : List (Str × V)} {f : Addr} {fd : FuncData} {N ps : List Str} {k : Nat}
    (F : FunD K x qual params body scope dvs kws f fd) (S : FnScope N ps scope) {A : Around} {outer : List Env} {s : Shared} {H : Hp} {args : Args} {us : List Value} {vs : List V} {Q : VK} {E : XK} (hr : Rm (k + 1) A) (e0 : Env0 P w K mg base A outer s H) (hb : BindsTo s fd args (ps.zip us)) (r : Vals vs us) (hl : vs.length = ps.length)
    (hbody : ∀ cdv : Value, fd.code = cdv → Rm k (A.deeper (envOfC qual scope s.heap.objs.size f cdv)) → ∃ t, PSs (cxOf CX P w K mg base N qual scope f cdv A outer s H E) body t ∧ t { nx := fun _ H' => Q .non H', rt := Q } (start N vs) H) : codeAny (model P w) A (.call (.ref f) args) (CR CX outer P w H s Q E) s := by
  obtain ⟨oc, od, dV, kV, doc, pm, an, cdv, ct, osl, rfl, lk, hcd, _, _⟩ := F.ex
  have KX : K.In s.heap := e0.mod.kin.keeps fun b o e => (e0.bs b o e).1
  have lim := e0.mod.nolimit.keeps fun b o e => (e0.bs b o e).1
  have hkind : ∀ y ∈ ps.zip us, scope.names.lookup y.1 = some .local ∨ (scope.names.lookup y.1 = some .cell ∧ ((cellsFrom (s.heap.objs.size + 1) scope.names []).lookup y.1).isSome = true) := by
    intro y hy
    rcases S.par y.1 (List.of_mem_zip hy).1 with q | q
    · exact .inl q
    · exact .inr ⟨q, PySem.W.cellsFrom_some _ _ _ (.inl q)⟩
  refine codeAny_call_function hr.room.depth (KX _ _ lk) rfl S.co S.gen rfl (PySem.W.codeRec_of KX hcd) (hb _ _ _ _ ?_)
  refine wpAny_newFunctionEnv_cells S.kind hkind fun env he s1 y => ?_
  subst he
  obtain ⟨t, ht, hq⟩ := hbody cdv rfl (hr.deeper _)
  have I := inv_start (CX := CX) (E := E) S hr.room.hd e0 hl r y
  refine ⟨lim.keeps y.toInCall.keep, codeAny_func (wpAny_mono (ht.run [] s1 (start N vs) H _ I hq) (fun fl s' hs => ?_) fun e s' hs => hs)⟩
  cases fl with
  | ret u =>
    obtain ⟨v, σ', H', J, rv, q⟩ := hs
    exact ⟨v, H', J.os, J.bare, J.base, J.hok, rv, q⟩
  | next =>
    obtain ⟨σ', H', J, q⟩ := hs
    exact ⟨.non, H', J.os, J.bare, J.base, J.hok, rfl, q⟩
  | brk =>
    obtain ⟨_, _, _, q⟩ := hs
    exact q.elim
  | cont =>
    obtain ⟨_, _, _, q⟩ := hs
    exact q.elim
/-- a def of the text by its body -/
theorem fnK_of {CX : CXT} {P : Program} {w : World} {K : PySem.W.Frag} {mg : Str → Option Value} {base : Heap} {x qual : Str} {params : Arguments} {body : List Stmt} {scope : Scope} {dvs : List V} {kws : List (Str × V)} {f : Addr} {fd : FuncData} {N ps : List Str} {k : Nat} {sp : Sp}
    (F : FunD K x qual params body scope dvs kws f fd) (S : FnScope N ps scope) (len : ∀ vs H Q E, sp vs H Q E → vs.length = ps.length)
    (hbody : ∀ (cdv : Value) (A : Around) (outer : List Env) (s : Shared) (H : Hp) (vs : List V) (Q : VK) (E : XK), fd.code = cdv → Rm k (A.deeper (envOfC qual scope s.heap.objs.size f cdv)) → sp vs H Q E →
      ∃ t, PSs (cxOf CX P w K mg base N qual scope f cdv A outer s H E) body t ∧ t { nx := fun _ H' => Q .non H', rt := Q } (start N vs) H) : FnK P w K mg base CX (k + 1) f fd ps sp :=
  ⟨len, fun A outer s H args us vs Q E hr e0 hb r hsp => body_run F S hr e0 hb r (len _ _ _ _ hsp) fun cdv hc hr' => hbody cdv A outer s H vs Q E hc hr' hsp⟩
end Fw

set_option Elab.async false
set_option maxRecDepth 100000
set_option maxHeartbeats 4000000
/-! Fw4: operations over data. -/
namespace Fw
open PySem PySem.Spec PyProof.Rows L2

section
variable {c : CD}
theorem CD.Ok.room1 {X : Cx} (ok : c.Ok X) : Room c.k X.A := ok.room.room
/-- ints in, one thing out that takes no room -/
theorem op_ii {f : Value → Value → Sem Value} {C : Int → Int → Prop} {g : Int → Int → V} {i j : Int} {z : D} (h : ∀ X, c.Ok X → OpR X f (rI C g)) (hc : C i j) (hz : ∀ F, Den c.K F z (g i j)) : Op2 c f (.int i) (.int j) z := by
  intro F H vx vy Q l hx hy k
  exact ⟨_, h, i, j, hx, hy, hc, k _ F H (.refl l) (hz F)⟩
theorem op_ii0 {f : Value → Value → Sem Value} {g : Int → Int → V} {i j : Int} {z : D} (h : ∀ X, c.Ok X → OpR X f (rI0 g)) (hz : ∀ F, Den c.K F z (g i j)) : Op2 c f (.int i) (.int j) z := by
  intro F H vx vy Q l hx hy k
  exact ⟨_, h, i, j, hx, hy, k _ F H (.refl l) (hz F)⟩
theorem o_add {i j : Int} : Op2 c (binaryOp .Add) (.int i) (.int j) (.int (i + j)) := op_ii0 (fun X _ => op_add) fun _ => rfl
theorem o_sub {i j : Int} : Op2 c (binaryOp .Sub) (.int i) (.int j) (.int (i - j)) := op_ii0 (fun X _ => op_sub) fun _ => rfl
theorem o_mul {i j : Int} (h : CMul i j) : Op2 c (binaryOp .Mult) (.int i) (.int j) (.int (i * j)) := op_ii (fun X _ => op_mul) h fun _ => rfl
theorem o_div {i j : Int} (h : 0 < j ∧ j < 1073741824) : Op2 c (binaryOp .FloorDiv) (.int i) (.int j) (.int (i / j)) := op_ii (fun X _ => op_fdiv) h fun _ => rfl
theorem o_mod {i j : Int} (h : 0 < j) : Op2 c (binaryOp .Mod) (.int i) (.int j) (.int (i % j)) := op_ii (fun X _ => op_mod) h fun _ => rfl
theorem o_pow {i j : Int} (h : 0 ≤ j ∧ j ≤ 1000000 ∧ i.natAbs < 2 ^ 64) : Op2 c (binaryOp .Pow) (.int i) (.int j) (.int (i ^ j.toNat)) := op_ii (fun X _ => op_pow) h fun _ => rfl
theorem o_lt {i j : Int} : Op2 c (compareOp .Lt) (.int i) (.int j) (.bl (decide (i < j))) := op_ii0 (fun X _ => op_lt) fun _ => rfl
theorem o_le {i j : Int} : Op2 c (compareOp .LtE) (.int i) (.int j) (.bl (decide (i ≤ j))) := op_ii0 (fun X _ => op_le) fun _ => rfl
theorem o_gt {i j : Int} : Op2 c (compareOp .Gt) (.int i) (.int j) (.bl (decide (j < i))) := op_ii0 (fun X _ => op_gt) fun _ => rfl
theorem o_ge {i j : Int} : Op2 c (compareOp .GtE) (.int i) (.int j) (.bl (decide (j ≤ i))) := op_ii0 (fun X _ => op_ge) fun _ => rfl
theorem o_ltS {x y : Str} : Op2 c (compareOp .Lt) (.str x) (.str y) (.bl (decide (x.cps.toList < y.cps.toList))) := by
  intro F H vx vy Q l hx hy k
  exact ⟨_, fun X _ => op_lt_str, x, y, hx, hy, k _ F H (.refl l) rfl⟩
theorem o_addS {x y : Str} (h : x.length + y.length ≤ sizeLine) : Op2 c (binaryOp .Add) (.str x) (.str y) (.str (x ++ y)) := by
  intro F H vx vy Q l hx hy k
  exact ⟨_, fun X _ => op_add_str, x, y, hx, hy, h, k _ F H (.refl l) rfl⟩
theorem o_addT {xs ys : List D} (h : xs.length + ys.length ≤ sizeLine) : Op2 c (binaryOp .Add) (.tup xs) (.tup ys) (.tup (xs ++ ys)) := by
  intro F H vx vy Q l hx hy k
  obtain ⟨a, vs, rfl, ha, hd⟩ := hx
  obtain ⟨b, ws, rfl, hb, he⟩ := hy
  refine ⟨rCatA c.K, fun X ok => by have := op_catA (X := X); rw [ok.K] at this; exact this, a, b, vs, ws, rfl, rfl, l.tup ha, l.tup hb, by rw [hd.length, he.length]; exact h, fun e => ?_, fun _ e => ?_, fun _ _ p n => ?_⟩
  · subst e
    have ex : xs = [] := List.eq_nil_of_length_eq_zero hd.length.symm
    subst ex
    exact k _ F H (.refl l) ⟨b, ws, rfl, hb, he⟩
  · subst e
    have ex : ys = [] := List.eq_nil_of_length_eq_zero he.length.symm
    subst ex
    exact k _ F H (.refl l) (by rw [List.append_nil]; exact ⟨a, vs, rfl, ha, hd⟩)
  · exact k _ _ _ (Grow.alloc l n) (den_tup (l.none n) (hd.append he))
theorem o_addL {xs ys : List D} (h : xs.length + ys.length ≤ sizeLine) : Op2 c (binaryOp .Add) (.lst xs) (.lst ys) (.lst (xs ++ ys)) := by
  intro F H vx vy Q l hx hy k
  obtain ⟨a, vs, rfl, ha, hd⟩ := hx
  obtain ⟨b, ws, rfl, hb, he⟩ := hy
  exact ⟨_, fun X ok => op_cat, a, b, vs, ws, rfl, rfl, ha, hb, by rw [hd.length, he.length]; exact h, fun p n => k _ _ _ (Grow.alloc l n) (den_lst (l.none n) (hd.append he))⟩
theorem den_rep {K : PySem.W.Frag} {F : Hp} {xs : List D} {vs : List V} (h : DenAll K F xs vs) : ∀ n : Nat, DenAll K F (List.replicate n xs).flatten (List.replicate n vs).flatten
  | 0 => by simp [DenAll]
  | n + 1 => by
    rw [List.replicate_succ, List.replicate_succ, List.flatten_cons, List.flatten_cons]
    exact h.append (den_rep h n)
/-- is None, is not None -/
def isNon : D → Bool
  | .non => true
  | _ => false
theorem isNon_eq {K : PySem.W.Frag} {F : Hp} : ∀ {x : D} {v : V}, Den K F x v → decide (v = .non) = isNon x
  | .non, v, h => by rw [show v = .non from h]; rfl
  | .bl _, v, h => by rw [show v = .bl _ from h]; rfl
  | .int _, v, h => by rw [show v = .int _ from h]; rfl
  | .str _, v, h => by rw [show v = .str _ from h]; rfl
  | .ty _, v, h => by rw [show v = .ty _ from h]; rfl
  | .cls _, v, h => by rw [show v = .ref _ from h]; rfl
  | .ptr _, v, h => by rw [show v = .ref _ from h]; rfl
  | .tun _, v, h => by obtain ⟨a, _, rfl, _⟩ := h; rfl
  | .tup _, v, h => by obtain ⟨a, _, rfl, _⟩ := h; rfl
  | .lst _, v, h => by obtain ⟨a, _, rfl, _⟩ := h; rfl
  | .scr _, v, h => by obtain ⟨a, rfl, _⟩ := h; rfl
  | .dic _ _, v, h => by obtain ⟨a, _, rfl, _⟩ := h; rfl
  | .obj _ _ _, v, h => by obtain ⟨a, _, _, rfl, _⟩ := h; rfl
  | .exc _ _, v, h => by obtain ⟨a, _, _, rfl, _⟩ := h; rfl
theorem isNon_vw {K : PySem.W.Frag} {F H : Hp} : ∀ {x : D} {v : V}, Vw K F H x v → decide (v = .non) = isNon x
  | .lst _, v, h => by obtain ⟨a, _, rfl, _⟩ := h; rfl
  | .dic _ _, v, h => by obtain ⟨a, _, rfl, _⟩ := h; rfl
  | .non, v, h => isNon_eq (K := K) (F := F) h
  | .bl _, v, h => isNon_eq (K := K) (F := F) h
  | .int _, v, h => isNon_eq (K := K) (F := F) h
  | .str _, v, h => isNon_eq (K := K) (F := F) h
  | .ty _, v, h => isNon_eq (K := K) (F := F) h
  | .cls _, v, h => isNon_eq (K := K) (F := F) h
  | .ptr _, v, h => isNon_eq (K := K) (F := F) h
  | .tun _, v, h => isNon_eq (K := K) (F := F) h
  | .tup _, v, h => isNon_eq (K := K) (F := F) h
  | .scr _, v, h => isNon_eq (K := K) (F := F) h
  | .obj _ _ _, v, h => isNon_eq (K := K) (F := F) h
  | .exc _ _, v, h => isNon_eq (K := K) (F := F) h
theorem o_isN {x : D} : Op2 c (compareOp .Is) x .non (.bl (isNon x)) := by
  intro F H vx vy Q l hx hy k
  exact ⟨_, fun X _ => op_isN, hy, k _ F H (.refl l) (by rw [isNon_vw hx]; rfl)⟩
theorem o_notN {x : D} : Op2 c (compareOp .IsNot) x .non (.bl (!isNon x)) := by
  intro F H vx vy Q l hx hy k
  exact ⟨_, fun X _ => op_notN, hy, k _ F H (.refl l) (by rw [isNon_vw hx]; rfl)⟩

/-! ### data that can be compared, shown -/
mutual
def toPy : D → PyData
  | .non => .none
  | .bl b => .bool b
  | .int i => .int i
  | .str x => .str x
  | .tup ds => .tuple (toPys ds)
  | .lst ds => .list (toPys ds)
  | .scr ns => .list (ns.map PyData.int)
  | .dic _ _ => .none
  | .obj _ _ _ => .none
  | .exc _ _ => .none
  | .ty _ => .none
  | .cls _ => .none
  | .ptr _ => .none
  | .tun ds => .tuple (toPys ds)
def toPys : List D → List PyData
  | [] => []
  | d :: ds => toPy d :: toPys ds
end
mutual
def isPy : D → Bool
  | .tup ds => isPys ds
  | .lst ds => isPys ds
  | .dic _ _ => false
  | .obj _ _ _ => false
  | .exc _ _ => false
  | .ty _ => false
  | .cls _ => false
  | .ptr _ => false
  | .tun ds => isPys ds
  | _ => true
def isPys : List D → Bool
  | [] => true
  | d :: ds => isPy d && isPys ds
end
theorem dpInts {K : PySem.W.Frag} {H : Hp} : ∀ ns : List Int, DpAll K H (ns.map V.int) (ns.map PyData.int)
  | [] => .nil
  | n :: ns => .cons (.int n) (dpInts ns)
mutual
theorem dp_of {K : PySem.W.Frag} {F H : Hp} (l : FLe F H) : ∀ (x : D) (v : V), isPy x = true → Den K F x v → Dp K H v (toPy x)
  | .non, v, _, h => by rw [show v = .non from h]; exact .non
  | .bl b, v, _, h => by rw [show v = .bl b from h]; exact .bl b
  | .int i, v, _, h => by rw [show v = .int i from h]; exact .int i
  | .str s, v, _, h => by rw [show v = .str s from h]; exact .str s
  | .tup ds, v, p, h => by
    obtain ⟨a, vs, rfl, q, r⟩ := h
    exact .tup (l.tup q) (dps_of l ds vs p r)
  | .lst ds, v, p, h => by
    obtain ⟨a, vs, rfl, q, r⟩ := h
    exact .lst (SqL.of (l.eq q)) (dps_of l ds vs p r)
  | .scr ns, v, p, h => by
    obtain ⟨a, rfl, q⟩ := h
    exact .lst (l.seq q) (dpInts ns)
  | .dic _ _, _, p, _ => by cases p
  | .obj _ _ _, _, p, _ => by cases p
  | .exc _ _, _, p, _ => by cases p
  | .ty _, _, p, _ => by cases p
  | .cls _, _, p, _ => by cases p
  | .ptr _, _, p, _ => by cases p
  | .tun ds, v, p, h => by
    obtain ⟨a, vs, rfl, q, r⟩ := h
    exact .tup (q.mono l).sq (dps_of l ds vs p r)
theorem dps_of {K : PySem.W.Frag} {F H : Hp} (l : FLe F H) : ∀ (xs : List D) (vs : List V), isPys xs = true → DenAll K F xs vs → DpAll K H vs (toPys xs)
  | [], vs, _, h => by rw [show vs = [] from h]; exact .nil
  | x :: xs, vs, p, h => by
    obtain ⟨v, vs', rfl, q, r⟩ := h
    have p : (isPy x && isPys xs) = true := p
    rw [Bool.and_eq_true] at p
    exact .cons (dp_of l x v p.1 q) (dps_of l xs vs' p.2 r)
end
theorem dp_vw {K : PySem.W.Frag} {F H : Hp} (l : FLe F H) : ∀ {x : D} {v : V}, isPy x = true → Vw K F H x v → Dp K H v (toPy x)
  | .lst ds, v, p, h => by
    obtain ⟨a, vs, rfl, q, r⟩ := h
    exact .lst (SqL.of q) (dps_of l ds vs p r)
  | .non, v, p, h => dp_of (K := K) (F := F) l .non v p h
  | .bl b, v, p, h => dp_of (K := K) (F := F) l (.bl b) v p h
  | .int i, v, p, h => dp_of (K := K) (F := F) l (.int i) v p h
  | .str s, v, p, h => dp_of (K := K) (F := F) l (.str s) v p h
  | .tup ds, v, p, h => dp_of (K := K) (F := F) l (.tup ds) v p h
  | .scr ns, v, p, h => dp_of (K := K) (F := F) l (.scr ns) v p h
  | .dic _ _, _, p, _ => by cases p
  | .obj _ _ _, _, p, _ => by cases p
  | .exc _ _, _, p, _ => by cases p
  | .ty _, _, p, _ => by cases p
  | .cls _, _, p, _ => by cases p
  | .ptr _, _, p, _ => by cases p
  | .tun ds, v, p, h => dp_of (K := K) (F := F) l (.tun ds) v p h
/-- fit to be compared -/
def Shp (x : D) : Prop := isPy x = true ∧ SeqAt.shaped (toPy x) = true
theorem o_eq {x y : D} (hx : Shp x) (hy : Shp y) : Op2 c (compareOp .Eq) x y (.bl (PyData.eqv (toPy x) (toPy y))) := by
  intro F H vx vy Q l vwx vwy k
  exact ⟨rEqD c.K, fun X ok => by have := op_eqD (X := X) ok.room1.units; rw [ok.K] at this; exact this, _, _, dp_vw l hx.1 vwx, dp_vw l hy.1 vwy, hx.2, hy.2, k _ F H (.refl l) rfl⟩
theorem o_ne {x y : D} (hx : Shp x) (hy : Shp y) : Op2 c (compareOp .NotEq) x y (.bl (!PyData.eqv (toPy x) (toPy y))) := by
  intro F H vx vy Q l vwx vwy k
  exact ⟨rNeD c.K, fun X ok => by have := op_neD (X := X) ok.room1.units; rw [ok.K] at this; exact this, _, _, dp_vw l hx.1 vwx, dp_vw l hy.1 vwy, hx.2, hy.2, k _ F H (.refl l) rfl⟩
theorem o_eqI {i j : Int} : Op2 c (compareOp .Eq) (.int i) (.int j) (.bl (decide (i = j))) := by
  intro F H vx vy Q l hx hy k
  have hx : vx = .int i := hx
  have hy : vy = .int j := hy
  subst hx hy
  refine ⟨_, fun X _ => op_eq, rfl, k _ F H (.refl l) ?_⟩
  show V.bl (decide (V.int i = V.int j)) = V.bl (decide (i = j))
  by_cases e : i = j
  · rw [e]; simp
  · simp [e]
theorem o_neI {i j : Int} : Op2 c (compareOp .NotEq) (.int i) (.int j) (.bl (!decide (i = j))) := by
  intro F H vx vy Q l hx hy k
  have hx : vx = .int i := hx
  have hy : vy = .int j := hy
  subst hx hy
  refine ⟨_, fun X _ => op_ne, rfl, k _ F H (.refl l) ?_⟩
  show V.bl (!decide (V.int i = V.int j)) = V.bl (!decide (i = j))
  by_cases e : i = j
  · rw [e]; simp
  · simp [e]
theorem o_eqS {i j : Str} : Op2 c (compareOp .Eq) (.str i) (.str j) (.bl (decide (i = j))) := by
  intro F H vx vy Q l hx hy k
  have hx : vx = .str i := hx
  have hy : vy = .str j := hy
  subst hx hy
  refine ⟨_, fun X _ => op_eq, rfl, k _ F H (.refl l) ?_⟩
  show V.bl (decide (V.str i = V.str j)) = V.bl (decide (i = j))
  by_cases e : i = j
  · rw [e]; simp
  · simp [e]
theorem o_neS {i j : Str} : Op2 c (compareOp .NotEq) (.str i) (.str j) (.bl (!decide (i = j))) := by
  intro F H vx vy Q l hx hy k
  have hx : vx = .str i := hx
  have hy : vy = .str j := hy
  subst hx hy
  refine ⟨_, fun X _ => op_ne, rfl, k _ F H (.refl l) ?_⟩
  show V.bl (!decide (V.str i = V.str j)) = V.bl (!decide (i = j))
  by_cases e : i = j
  · rw [e]; simp
  · simp [e]
/-- x in a tuple, a list of flat things -/
def seqD : D → Option (List D)
  | .tup ds => some ds
  | .tun ds => some ds
  | .lst ds => some ds
  | .scr ns => some (ns.map D.int)
  | _ => none
theorem seq_vw {K : PySem.W.Frag} {F H : Hp} (l : FLe F H) : ∀ {x : D} {v : V} {ds : List D}, seqD x = some ds → Vw K F H x v → ∃ p vs, v = .ref p ∧ (SqL K H p vs ∨ SqT K H p vs) ∧ DenAll K F ds vs
  | .tup ds, v, _, e, h => by
    cases e
    obtain ⟨a, vs, rfl, q, r⟩ := h
    exact ⟨a, vs, rfl, .inr (l.tup q), r⟩
  | .lst ds, v, _, e, h => by
    cases e
    obtain ⟨a, vs, rfl, q, r⟩ := h
    exact ⟨a, vs, rfl, .inl (SqL.of q), r⟩
  | .scr ns, v, _, e, h => by
    cases e
    obtain ⟨a, rfl, q⟩ := h
    exact ⟨a, _, rfl, .inl (l.seq q), DenAll.ints.mpr rfl⟩
  | .non, _, _, e, _ => by cases e
  | .bl _, _, _, e, _ => by cases e
  | .int _, _, _, e, _ => by cases e
  | .str _, _, _, e, _ => by cases e
  | .ty _, _, _, e, _ => by cases e
  | .cls _, _, _, e, _ => by cases e
  | .ptr _, _, _, e, _ => by cases e
  | .tun ds, v, _, e, h => by
    cases e
    obtain ⟨a, vs, rfl, q, r⟩ := h
    exact ⟨a, vs, rfl, .inr (q.mono l).sq, r⟩
  | .dic _ _, _, _, e, _ => by cases e
  | .obj _ _ _, _, _, e, _ => by cases e
  | .exc _ _, _, _, e, _ => by cases e
theorem inV_str {y : Str} : ∀ {xs : List Str}, inV (.str y) (xs.map V.str) = decide (y ∈ xs)
  | [] => by simp [inV]
  | x :: xs => by
    have ih := inV_str (y := y) (xs := xs)
    unfold inV at ih ⊢
    rw [List.map_cons, List.any_cons, ih]
    show ((x == y) || decide (y ∈ xs)) = decide (y ∈ x :: xs)
    by_cases e : x = y
    · subst e; simp
    · have e' : ¬ y = x := fun z => e z.symm
      simp [e, e']
theorem inV_int {y : Int} : ∀ {xs : List Int}, inV (.int y) (xs.map V.int) = decide (y ∈ xs)
  | [] => by simp [inV]
  | x :: xs => by
    have ih := inV_int (y := y) (xs := xs)
    unfold inV at ih ⊢
    rw [List.map_cons, List.any_cons, ih]
    show ((x == y) || decide (y ∈ xs)) = decide (y ∈ x :: xs)
    by_cases e : x = y
    · subst e; simp
    · have e' : ¬ y = x := fun z => e z.symm
      simp [e, e']
theorem o_inS {y : Str} {s : D} {xs : List Str} (hs : seqD s = some (xs.map D.str)) : Op2 c (compareOp .In) (.str y) s (.bl (decide (y ∈ xs))) := by
  intro F H vx vy Q l hx hy k
  have hx : vx = .str y := hx
  subst hx
  obtain ⟨p, vs, rfl, q, r⟩ := seq_vw l hs hy
  rw [DenAll.strs.mp r] at q
  exact ⟨rIn c.K false, fun X ok => by have := op_in_seq (X := X); rw [ok.K] at this; exact this, p, _, rfl, q, rfl, by simp [List.all_map, Function.comp_def, flatV], k _ F H (.refl l) (by show V.bl (inV (.str y) (xs.map V.str)) = _; rw [inV_str])⟩
theorem o_notInS {y : Str} {s : D} {xs : List Str} (hs : seqD s = some (xs.map D.str)) : Op2 c (compareOp .NotIn) (.str y) s (.bl (!decide (y ∈ xs))) := by
  intro F H vx vy Q l hx hy k
  have hx : vx = .str y := hx
  subst hx
  obtain ⟨p, vs, rfl, q, r⟩ := seq_vw l hs hy
  rw [DenAll.strs.mp r] at q
  exact ⟨rIn c.K true, fun X ok => by have := op_notIn_seq (X := X); rw [ok.K] at this; exact this, p, _, rfl, q, rfl, by simp [List.all_map, Function.comp_def, flatV], k _ F H (.refl l) (by show V.bl (!inV (.str y) (xs.map V.str)) = _; rw [inV_str])⟩
theorem o_inI {y : Int} {s : D} {xs : List Int} (hs : seqD s = some (xs.map D.int)) : Op2 c (compareOp .In) (.int y) s (.bl (decide (y ∈ xs))) := by
  intro F H vx vy Q l hx hy k
  have hx : vx = .int y := hx
  subst hx
  obtain ⟨p, vs, rfl, q, r⟩ := seq_vw l hs hy
  rw [DenAll.ints.mp r] at q
  exact ⟨rIn c.K false, fun X ok => by have := op_in_seq (X := X); rw [ok.K] at this; exact this, p, _, rfl, q, rfl, by simp [List.all_map, Function.comp_def, flatV], k _ F H (.refl l) (by show V.bl (inV (.int y) (xs.map V.int)) = _; rw [inV_int])⟩
theorem o_notInI {y : Int} {s : D} {xs : List Int} (hs : seqD s = some (xs.map D.int)) : Op2 c (compareOp .NotIn) (.int y) s (.bl (!decide (y ∈ xs))) := by
  intro F H vx vy Q l hx hy k
  have hx : vx = .int y := hx
  subst hx
  obtain ⟨p, vs, rfl, q, r⟩ := seq_vw l hs hy
  rw [DenAll.ints.mp r] at q
  exact ⟨rIn c.K true, fun X ok => by have := op_notIn_seq (X := X); rw [ok.K] at this; exact this, p, _, rfl, q, rfl, by simp [List.all_map, Function.comp_def, flatV], k _ F H (.refl l) (by show V.bl (!inV (.int y) (xs.map V.int)) = _; rw [inV_int])⟩

/-! ### subscripts -/
def Ix2 (c : CD) (x y z : D) : Prop := ∀ F H vx vy Q, FLe F H → Vw c.K F H x vx → Vw c.K F H y vy → (∀ v F' H', Grow c.z F H F' H' → Den c.K F' z v → Q v H') → ∃ r : R2, (∀ X, c.Ok X → IxR X r) ∧ r vx vy H Q
theorem i_seq {x z : D} {ds : List D} {i : Int} (hs : seqD x = some ds) (h : atI ds i = some z) : Ix2 c x (.int i) z := by
  intro F H vx vy Q l hx hy k
  have hy : vy = .int i := hy
  subst hy
  obtain ⟨p, vs, rfl, q, r⟩ := seq_vw l hs hx
  have hat : ∃ v, atI vs i = some v ∧ Den c.K F z v := by
    unfold atI at h ⊢
    rw [← r.length] at h
    cases e : ixN vs.length i with
    | none => rw [e] at h; cases h
    | some j =>
      rw [e] at h
      exact r.get' h
  obtain ⟨v, e, hd⟩ := hat
  refine ⟨rIx c.K, fun X ok => by have := ix_seq (X := X); rw [ok.K] at this; exact this, ?_⟩
  rcases q with q | q
  · exact .inl ⟨p, vs, i, v, rfl, rfl, q, e, k v F H (.refl l) hd⟩
  · exact .inr (.inl ⟨p, vs, i, v, rfl, rfl, q, e, k v F H (.refl l) hd⟩)
theorem i_str {x : Str} {i : Int} {n : Nat} (hl : x.length ≤ sizeLine) (h : atI x.cps.toList i = some n) : Ix2 c (.str x) (.int i) (.str ⟨#[n]⟩) := by
  intro F H vx vy Q l hx hy k
  refine ⟨rIx c.K, fun X ok => by have := ix_seq (X := X); rw [ok.K] at this; exact this, .inr (.inr ⟨x, i, n, hx, hy, hl, h, k _ F H (.refl l) rfl⟩)⟩
section
variable {ρ ρ1 ρ2 ρ3 : Env'}
def rJ (c : CD) : R2 := fun vx vy H Q => ∃ r : R2, (∀ X, c.Ok X → IxR X r) ∧ r vx vy H Q
theorem rJ_ok {X : Cx} (ok : c.Ok X) : IxR X (rJ c) := by
  intro value slice pins s σ H x y u v Q I rx ry h hs
  obtain ⟨r, hr, q⟩ := h
  exact hr X ok value slice pins s σ H x y u v Q I rx ry q hs
theorem E_ix {a b : Expr} {pos : Pos} {ra rb : Res} {x y z : D} (ha : EvX c a ρ ra ρ1) (hb : EvX c b ρ1 rb ρ2) (la : Lk ρ2 ra x) (lb : Lk ρ2 rb y) (h : Ix2 c x y z) (hs : PlainIx b) (st : ra.st = true := by rfl) : EvX c (.Subscript a b pos) ρ (.d z) ρ2 := fun G F σ H Q T k => by
  refine ⟨tOp (rJ c) (tE c a) (tE c b), fun X ok => pe_ix (rJ_ok ok) (pe_tE ok a) (pe_tE ok b) hs, ?_⟩
  · refine ha G F σ H _ T fun vx F1 H1 T1 s1 q1 => hb G F1 σ H1 _ T1 fun vy F2 H2 T2 s2 q2 => ?_
    exact h F2 H2 vx vy Q T2.fle (la.vw T2 (ResOk.mono s2.fle st q1)) (lb.vw T2 q2) fun v F3 H3 g q => k v F3 H3 (T2.grow g) ((s1.trans s2).trans g.step) q
/-- slices -/
theorem cut_len {α β : Type} {xs : List α} {ys : List β} (e : xs.length = ys.length) (lo hi : Option Int) : HT.sIx xs.length 0 lo = HT.sIx ys.length 0 lo ∧ HT.sIx xs.length xs.length hi = HT.sIx ys.length ys.length hi := by rw [e]; exact ⟨rfl, rfl⟩
def cutD (xs : List D) (lo hi : Option Int) : List D := (xs.drop (HT.sIx xs.length 0 lo)).take (HT.sIx xs.length xs.length hi - HT.sIx xs.length 0 lo)
theorem DenAll.cut {K : PySem.W.Frag} {F : Hp} {ds : List D} {vs : List V} (h : DenAll K F ds vs) (lo hi : Option Int) : DenAll K F (cutD ds lo hi) (cutV vs lo hi) := by
  unfold cutD cutV
  rw [h.length]
  exact (h.drop _).take _
def Sl2 (c : CD) (x : D) (lo hi : Option Int) (z : D) : Prop := ∀ F H vx Q, FLe F H → Vw c.K F H x vx → (∀ v F' H', Grow c.z F H F' H' → Den c.K F' z v → Q v H') → ∃ r, (∀ X, c.Ok X → SlR X r) ∧ r vx lo hi H Q
theorem s_tup {ds : List D} {lo hi : Option Int} : Sl2 c (.tup ds) lo hi (.tup (cutD ds lo hi)) := by
  intro F H vx Q l hx k
  obtain ⟨a, vs, rfl, q, r⟩ := hx
  refine ⟨rSlA c.K, fun X ok => by have := sl_tupA (X := X); rw [ok.K] at this; exact this, a, vs, rfl, l.tup q, fun e => ?_, fun _ p n => ?_⟩
  · have ec : cutV vs lo hi = vs := by
      unfold cutV
      rw [e.1, e.2]
      simp
    refine k _ F H (.refl l) ⟨a, vs, rfl, q, ?_⟩
    have := r.cut lo hi
    rw [ec] at this
    exact this
  · exact k _ _ _ (Grow.alloc l n) (den_tup (l.none n) (r.cut lo hi))
theorem s_lst {x : D} {ds : List D} {lo hi : Option Int} (hs : (match x with | .lst ds => some ds | .scr ns => some (ns.map D.int) | _ => none) = some ds) : Sl2 c x lo hi (.lst (cutD ds lo hi)) := by
  intro F H vx Q l hx k
  have h2 : ∃ a vs, vx = .ref a ∧ SqL c.K H a vs ∧ DenAll c.K F ds vs := by
    cases x with
    | lst es =>
      cases hs
      obtain ⟨a, vs, rfl, q, r⟩ := hx
      exact ⟨a, vs, rfl, SqL.of q, r⟩
    | scr ns =>
      cases hs
      obtain ⟨a, rfl, q⟩ := hx
      exact ⟨a, _, rfl, l.seq q, DenAll.ints.mpr rfl⟩
    | _ => cases hs
  obtain ⟨a, vs, rfl, q, r⟩ := h2
  exact ⟨rSlL c.K, fun X ok => by have := sl_list (X := X); rw [ok.K] at this; exact this, a, vs, rfl, q, fun p n => k _ _ _ (Grow.alloc l n) (den_lst (l.none n) (r.cut lo hi))⟩
/-- a part of a slice -/
inductive Pt (c : CD) (ρ : Env') : Option Expr → Option Int → Prop
  | no : Pt c ρ none none
  | yes {e : Expr} {i : Int} : EvX c e ρ (.d (.int i)) ρ → Pt c ρ (some e) (some i)
def tO (c : CD) (o : Option Expr) : TO := match o with
  | none => tNoPart
  | some e => tPart (tE c e)
theorem po_tO {X : Cx} (ok : c.Ok X) : ∀ o : Option Expr, PO X o (tO c o)
  | none => po_none
  | some e => po_some (pe_tE ok e)
theorem Pt.run {o : Option Expr} {i : Option Int} (h : Pt c ρ o i) {G : Gd} {F : Hp} {σ : L2.St} {H : Hp} {Q : Option Int → Hp → Prop} (T : Stt c.z G F σ H ρ) (k : ∀ F' H', Stt c.z G F' σ H' ρ → FStep F H F' H' → Q i H') : tO c o σ H Q := by
  cases h with
  | no => exact k F H T (.refl F H)
  | yes h => exact h G F σ H _ T fun v F' H' T' s q => ⟨_, q, k F' H' T' s⟩
def rS (c : CD) : V → Option Int → Option Int → Hp → VK → Prop := fun x l u H Q => ∃ r, (∀ X, c.Ok X → SlR X r) ∧ r x l u H Q
theorem rS_ok {X : Cx} (ok : c.Ok X) : SlR X (rS c) := by
  intro pins s σ H x v vl vu lo hi sl Q I rx hs pl pu h
  obtain ⟨r, hr, q⟩ := h
  exact hr X ok pins s σ H x v vl vu lo hi sl Q I rx hs pl pu q
theorem E_slice {a : Expr} {lo hi : Option Expr} {p2 pos : Pos} {ra : Res} {x z : D} {i j : Option Int} (ha : EvX c a ρ ra ρ1) (hl : Pt c ρ1 lo i) (hu : Pt c ρ1 hi j) (la : Lk ρ1 ra x) (h : Sl2 c x i j z) (st : ra.st = true := by rfl) : EvX c (.Subscript a (.Slice lo hi none p2) pos) ρ (.d z) ρ1 := fun G F σ H Q T k => by
  refine ⟨tSl (rS c) (tE c a) (tO c lo) (tO c hi), fun X ok => pe_slice (rS_ok ok) (pe_tE ok a) (po_tO ok lo) (po_tO ok hi), ?_⟩
  · refine ha G F σ H _ T fun vx F1 H1 T1 s1 q1 => hl.run T1 fun F2 H2 T2 s2 => hu.run T2 fun F3 H3 T3 s3 => ?_
    exact h F3 H3 vx Q T3.fle (la.vw T3 (ResOk.mono (s2.trans s3).fle st q1)) fun v F4 H4 g q => k v F4 H4 (T3.grow g) (((s1.trans s2).trans s3).trans g.step) q
/-- a field of an object -/
theorem E_attr {a : Expr} {f : Str} {pos : Pos} {C : Addr} {nm : List Str} {fs : List (Str × D)} {x : D} (ha : EvX c a ρ (.d (.obj C nm fs)) ρ1) (hc : Cls c.K C) (hn : NoAttr c.K C f) (hx : fs.lookup f = some x) (hb : ∀ X : Cx, attributeBase a f X.env (eval a X.env) = eval a X.env) : EvX c (.Attribute a f pos) ρ (.d x) ρ1 := fun G F σ H Q T k => by
  refine ⟨tFld c.K (tE c a) f, fun X ok => by have := pe_fld (pos := pos) (pe_tE ok a) (hb X); rw [ok.K] at this; exact this, ha G F σ H _ T fun v F1 H1 T1 s1 q => ?_⟩
  obtain ⟨p, dx, gs, rfl, e, _, hf⟩ := q
  obtain ⟨w, e2, hd⟩ := hf.look hx
  exact ⟨p, C, dx, gs, w, rfl, T1.fle.eq e, hc, hn, e2, k w F1 H1 T1 s1 hd⟩
end
end
end Fw

set_option Elab.async false
set_option maxRecDepth 100000
set_option maxHeartbeats 4000000
/-! Fw5: targets, walks, comprehensions, loops over data. -/
namespace Fw
open PySem PySem.Spec PyProof.Rows L2

/-! ### another entry for the same state -/
structure Anch (G : Gd) (io : List Addr) (H : Hp) : Prop where
  keep : ∀ b o, G.H0 b = some o → b ∉ G.io → NT o → H b = some o
  dom : ∀ b, G.H0 b ≠ none → H b ≠ none
  io : ∀ a ∈ io, G.H0 a = none ∨ a ∈ G.io
section
variable {Z : Zd} {G : Gd} {F H F' H' : Hp} {σ σ' : L2.St} {ρ ρ' : Env'}
theorem Stt.less {nf nf' : Addr → Prop} {H0 : Hp} {io : List Addr} (S : Stt Z ⟨H0, io, nf'⟩ F σ H ρ) (k : ∀ a, nf a → nf' a) : Stt Z ⟨H0, io, nf⟩ F σ H ρ := by
  obtain ⟨ass, q, nd, fr⟩ := S.ents
  exact ⟨S.fle, S.fnt, S.keep, fun a ha => S.nf a (k a ha), S.dom, S.tabs, ass, q.less fun a _ => k a, nd, fr⟩
theorem Stt.anchor (S : Stt Z G F σ H ρ) : ∃ io, Stt Z ⟨H, io, G.nf⟩ F σ H ρ ∧ Anch G io H ∧ ∀ a ∈ io, H a ≠ none := by
  obtain ⟨ass, q, nd, fr⟩ := S.ents
  refine ⟨ass.flatten, ⟨S.fle, S.fnt, fun b o e _ _ => e, S.nf, fun a h => h, S.tabs, ass, q, nd, fun a ha => ⟨(fr a ha).1, .inr ha⟩⟩, ⟨S.keep, S.dom, fun a ha => (fr a ha).2⟩, fun a ha => ?_⟩
  obtain ⟨u, e, _⟩ := q.there a ha
  rw [e]
  exact fun z => nomatch z
theorem Stt.back {io : List Addr} (A : Anch G io H) (S : Stt Z ⟨H, io, G.nf⟩ F' σ' H' ρ') : Stt Z G F' σ' H' ρ' := by
  obtain ⟨ass, q, nd, fr⟩ := S.ents
  refine ⟨S.fle, S.fnt, fun b o e n m => S.keep b o (A.keep b o e n m) (fun z => ?_) m, S.nf, fun a h => S.dom a (A.dom a h), S.tabs, ass, q, nd, fun a ha => ⟨(fr a ha).1, ?_⟩⟩
  · rcases A.io b z with w | w
    · rw [w] at e; cases e
    · exact n w
  · rcases (fr a ha).2 with w | w
    · cases e : G.H0 a with
      | none => exact .inl rfl
      | some o => exact absurd w (A.dom a (by rw [e]; exact fun z => nomatch z))
    · exact A.io a w
/-- a thing that is nobody's is written, and kept from being frozen -/
theorem Stt.other {D : Addr} {o : HO} (S : Stt Z G F σ H ρ) (hD : H D = none ∨ (G.H0 D ≠ none ∧ D ∉ G.io)) (fD : F D = none) (hL : H D = none ∨ ∃ xs, H D = some (.lst xs)) :
    ∃ io, Stt Z ⟨upd H D o, io, fun a => a = D ∨ G.nf a⟩ F σ (upd H D o) ρ ∧ D ∉ io ∧ (∀ a ∈ io, upd H D o a ≠ none) ∧ ∀ a ∈ io, G.H0 a = none ∨ a ∈ G.io := by
  obtain ⟨ass, q, nd, fr⟩ := S.ents
  have dn : D ∉ ass.flatten := fun z => by
    rcases hD with hD | ⟨hD, nD⟩
    · obtain ⟨u, e, _⟩ := q.there D z
      rw [hD] at e
      cases e
    · rcases (fr D z).2 with w | w
      · exact hD w
      · exact nD w
  have ne : ∀ b ∈ ass.flatten, b ≠ D := fun b hb z => dn (by rw [← z]; exact hb)
  refine ⟨ass.flatten, ⟨fun b u e => ?_, S.fnt, fun b u e _ _ => e, fun a ha => ?_, fun a h => h, ?_, ass, (q.grow (.refl F) fun b hb u e _ => by rw [upd_ne (ne b hb)]; exact e).less fun a ha w => ?_, nd, fun a ha => ⟨(fr a ha).1, .inr ha⟩⟩, dn, fun a ha => ?_, fun a ha => (fr a ha).2⟩
  · have hb : b ≠ D := fun z => by rw [z, fD] at e; cases e
    rw [upd_ne hb]
    exact S.fle b u e
  · rcases ha with rfl | ha
    · exact ⟨(by rw [upd_same]; exact fun z => nomatch z), fD⟩
    · exact ⟨upd_dom (S.nf a ha).1, (S.nf a ha).2⟩
  · rcases hL with n | ⟨xs, e⟩
    · exact S.tabs.ext fun b u e => by rw [upd_ne (ne_of_none e n)]; exact e
    · exact tabs_upd S.tabs e (fun _ z => nomatch z) fun _ z => nomatch z
  · rcases w with w | w
    · exact absurd w (ne a ha)
    · exact w
  · obtain ⟨u, e, _⟩ := q.there a ha
    rw [upd_ne (ne a ha), e]
    exact fun z => nomatch z
/-- slots of which nothing is known may hold anything -/
theorem EntsOk.swap {nf : Addr → Prop} : ∀ {ρ : Env'} {σ σ' : L2.St} {ass : List (List Addr)}, EntsOk Z nf F H ρ σ ass → σ'.length = σ.length → (∀ (j : Nat) (e : Ent), ρ[j]? = some e → e ≠ Ent.un → σ'[j]? = σ[j]?) → EntsOk Z nf F H ρ σ' ass
  | [], σ, σ', ass, h, l, _ => by
    rw [h.1] at l
    exact ⟨List.eq_nil_of_length_eq_zero l, h.2⟩
  | e :: ρ, σ, σ', ass, h, l, k => by
    obtain ⟨o, τ, as, ass', rfl, rfl, q, r⟩ := h
    cases σ' with
    | nil => simp at l
    | cons o' τ' =>
      refine ⟨o', τ', as, ass', rfl, rfl, ?_, r.swap (by simpa using l) fun j e' h1 h2 => by simpa using k (j + 1) e' (by simpa using h1) h2⟩
      cases e with
      | un => exact q
      | fn m kp x => have z := k 0 (.fn m kp x) rfl (fun z => nomatch z); simp at z; rw [z]; exact q
      | d x => have z := k 0 (.d x) rfl (fun z => nomatch z); simp at z; rw [z]; exact q
      | ot b x => have z := k 0 (.ot b x) rfl (fun z => nomatch z); simp at z; rw [z]; exact q
theorem Stt.swap (S : Stt Z G F σ H ρ) (l : σ'.length = σ.length) (k : ∀ (j : Nat) (e : Ent), ρ[j]? = some e → e ≠ Ent.un → σ'[j]? = σ[j]?) : Stt Z G F σ' H ρ := by
  obtain ⟨ass, q, nd, fr⟩ := S.ents
  exact ⟨S.fle, S.fnt, S.keep, S.nf, S.dom, S.tabs, ass, q.swap l k, nd, fr⟩
def wipeE (ρ : Env') : List Nat → Env'
  | [] => ρ
  | v :: vs => (wipeE ρ vs).set v .un
theorem Stt.wipe (S : Stt Z G F σ H ρ) : ∀ vs : List Nat, Stt Z G F (wipe σ vs) H (wipeE ρ vs)
  | [] => S
  | v :: vs => (Stt.wipe S vs).drop
theorem wipeE_get {ρ : Env'} {j : Nat} {e : Ent} : ∀ {vs : List Nat}, (wipeE ρ vs)[j]? = some e → e ≠ .un → ρ[j]? = some e ∧ j ∉ vs
  | [], h, _ => ⟨h, by simp⟩
  | v :: vs, h, n => by
    unfold wipeE at h
    by_cases hj : v = j
    · subst hj
      by_cases hl : v < (wipeE ρ vs).length
      · rw [List.getElem?_set_self hl] at h
        cases h
        exact absurd rfl n
      · rw [List.getElem?_eq_none (by simpa using hl)] at h
        cases h
    · rw [List.getElem?_set_ne hj] at h
      obtain ⟨h1, h2⟩ := wipeE_get h n
      exact ⟨h1, by simp only [List.mem_cons, not_or]; exact ⟨fun z => hj z.symm, h2⟩⟩
/-- two frames alike but for the slots vs -/
theorem Stt.unwipe {vs : List Nat} (S : Stt Z G F σ H ρ) (e : L2.wipe σ vs = L2.wipe σ' vs) : Stt Z G F (L2.wipe σ' vs) H (wipeE ρ vs) := by
  rw [← e]
  exact S.wipe vs
end

theorem wipeE_set {ρ : Env'} {i : Nat} {e : Ent} : ∀ {vs : List Nat}, i ∉ vs → wipeE (ρ.set i e) vs = (wipeE ρ vs).set i e
  | [], _ => rfl
  | v :: vs, h => by
    simp only [List.mem_cons, not_or] at h
    show (wipeE (ρ.set i e) vs).set v .un = ((wipeE ρ vs).set v .un).set i e
    rw [wipeE_set h.2, List.set_comm _ _ h.1]
theorem wipeE_un {ρ : Env'} {i : Nat} : ∀ {vs : List Nat}, wipeE (ρ.set i .un) vs = (wipeE ρ vs).set i .un
  | [] => rfl
  | v :: vs => by
    show (wipeE (ρ.set i .un) vs).set v .un = ((wipeE ρ vs).set v .un).set i .un
    rw [wipeE_un]
    by_cases e : i = v
    · rw [e]
    · rw [List.set_comm _ _ e]
theorem wipeE_idem (ρ : Env') : ∀ vs : List Nat, wipeE (wipeE ρ vs) vs = wipeE ρ vs
  | [] => rfl
  | v :: vs => by
    show (wipeE ((wipeE ρ vs).set v .un) vs).set v .un = (wipeE ρ vs).set v .un
    rw [wipeE_un, wipeE_idem ρ vs, List.set_set]
theorem wipe_non {σ : L2.St} {i : Nat} : ∀ {vs : List Nat}, L2.wipe (σ.set i none) vs = (L2.wipe σ vs).set i none
  | [] => rfl
  | v :: vs => by
    show (L2.wipe (σ.set i none) vs).set v none = ((L2.wipe σ vs).set v none).set i none
    rw [wipe_non]
    by_cases e : i = v
    · rw [e]
    · rw [List.set_comm _ _ e]
theorem wipe_idem (σ : L2.St) : ∀ vs : List Nat, L2.wipe (L2.wipe σ vs) vs = L2.wipe σ vs
  | [] => rfl
  | v :: vs => by
    show (L2.wipe ((L2.wipe σ vs).set v none) vs).set v none = (L2.wipe σ vs).set v none
    rw [wipe_non, wipe_idem σ vs, List.set_set]
theorem upd_self {H : Hp} {a : Addr} {o : HO} (h : H a = some o) : upd H a o = H := by
  funext b
  by_cases e : b = a
  · rw [e, upd_same, h]
  · rw [upd_ne e]

/-! ### targets -/
theorem wipe_in {σ : L2.St} {i : Nat} {o : Option V} : ∀ {vs : List Nat}, i ∈ vs → L2.wipe (σ.set i o) vs = L2.wipe σ vs
  | v :: vs, h => by
    show (L2.wipe (σ.set i o) vs).set v none = (L2.wipe σ vs).set v none
    rcases List.mem_cons.mp h with e | h
    · subst e
      refine List.ext_getElem? fun j => ?_
      by_cases hj : i = j
      · subst hj
        by_cases hl : i < σ.length
        · rw [List.getElem?_set_self (by rw [wipe_length]; simpa using hl), List.getElem?_set_self (by rw [wipe_length]; exact hl)]
        · rw [List.getElem?_eq_none (by simp [wipe_length]; omega), List.getElem?_eq_none (by simp [wipe_length]; omega)]
      · rw [List.getElem?_set_ne hj, List.getElem?_set_ne hj]
        by_cases hm : j ∈ vs
        · have z : ∀ τ : L2.St, (L2.wipe τ vs)[j]? = if j < τ.length then some none else none := fun τ => by
            by_cases hl : j < τ.length
            · rw [if_pos hl]
              have hl2 : j < (L2.wipe τ vs).length := by rw [wipe_length]; exact hl
              cases e : (L2.wipe τ vs)[j]? with
              | none => rw [List.getElem?_eq_none_iff] at e; omega
              | some o =>
                cases o with
                | none => rfl
                | some x => exact absurd hm (wipe_some e).2
            · rw [if_neg hl, List.getElem?_eq_none (by rw [wipe_length]; omega)]
          rw [z, z, List.length_set]
        · rw [wipe_out hm, wipe_out hm, List.getElem?_set_ne hj]
    · rw [wipe_in h]
/-- a target stores d; only the slots vs change -/
def Eg (Z : Zd) (vs : List Nat) (t : TG) (ρ : Env') (x : D) (ρ' : Env') : Prop := ∀ G F σ H v (Q : L2.St → Hp → Prop), Stt Z G F σ H ρ → Den Z.K F x v → (∀ F' σ' H', Stt Z G F' σ' H' ρ' → FStep F H F' H' → L2.wipe σ' vs = L2.wipe σ vs → Q σ' H') → t v σ H Q
def EgX (c : CD) (vs : List Nat) (tg : Expr) (ρ : Env') (x : D) (ρ' : Env') : Prop := Eg c.z vs (tG c tg) ρ x ρ'
section
variable {c : CD} {vis loc : List Nat} {gl : List Str} {ρ ρ1 ρ2 : Env'}
theorem G_name (S : ScOk c vis loc gl) {vs : List Nat} {x : Str} {pos : Pos} {d : D} (i : Nat) (hN : c.N[i]? = some x) (hi : loc.contains i = true) (hv : vs.contains i = true) : EgX c vs (.Name x pos) ρ d (ρ.set i (.d d)) := fun G F σ H v Q T hd k => by
  obtain ⟨h1, h2⟩ := S.locOf hi hN
  exact ⟨gName i, fun X ok => pg_name (by rw [ok.N]; exact S.nd) (by rw [ok.N]; exact hN) (by rw [ok.sc]; exact h1) (by rw [ok.fn, ok.sc]; exact h2), k F _ H (T.put hd) (.refl F H) (wipe_in (by simpa using hv))⟩
def tGs (c : CD) (ts : List Expr) : TGs := fun vs σ H Q => ∃ t, (∀ X, c.Ok X → PGs X ts t) ∧ t vs σ H Q
theorem pgs_tGs {X : Cx} (ok : c.Ok X) (ts : List Expr) : PGs X ts (tGs c ts) := ⟨fun pins s σ H vs us Q I r ⟨_, h, q⟩ => (h X ok).run pins s σ H vs us Q I r q⟩
/-- several targets, one after another -/
def EgsX (c : CD) (vs : List Nat) (ts : List Expr) (ρ : Env') (xs : List D) (ρ' : Env') : Prop := ∀ G F σ H ws (Q : L2.St → Hp → Prop), Stt c.z G F σ H ρ → DenAll c.K F xs ws →
  (∀ F' σ' H', Stt c.z G F' σ' H' ρ' → FStep F H F' H' → L2.wipe σ' vs = L2.wipe σ vs → Q σ' H') → tGs c ts ws σ H Q
theorem Gs_nil {vs : List Nat} : EgsX c vs [] ρ [] ρ := fun G F σ H ws Q T hd k => by
  rw [show ws = [] from hd]
  exact ⟨gNil, fun X ok => pgs_nil, rfl, k F σ H T (.refl F H) rfl⟩
theorem Gs_cons {vs : List Nat} {e : Expr} {es : List Expr} {x : D} {xs : List D} (h1 : EgX c vs e ρ x ρ1) (h2 : EgsX c vs es ρ1 xs ρ2) (hs : ∀ X : Cx, (assignEach (e :: es) X.env).map (·.2) = assign e X.env :: (assignEach es X.env).map (·.2)) : EgsX c vs (e :: es) ρ (x :: xs) ρ2 := fun G F σ H ws Q T hd k => by
  obtain ⟨v, vs', rfl, d1, d2⟩ := hd
  refine ⟨gCons (tG c e) (tGs c es), fun X ok => pgs_cons (pg_tG ok e) (pgs_tGs ok es) (hs X), v, vs', rfl, h1 G F σ H v _ T d1 fun F1 σ1 H1 T1 s1 w1 => ?_⟩
  exact h2 G F1 σ1 H1 _ Q T1 (DenAll.mono s1.fle _ _ d2) fun F2 σ2 H2 T2 s2 w2 => k F2 σ2 H2 T2 (s1.trans s2) (w2.trans w1)
theorem G_tup {vs : List Nat} {es : List Expr} {kk : _} {pos : Pos} {xs : List D} (h : EgsX c vs es ρ xs ρ1) (hp : ∀ X : Cx, ∀ (u : TGs), X.calm = true → PGs X es u → PG X (.Tuple es kk pos) (gTup X.K xs.length u)) : EgX c vs (.Tuple es kk pos) ρ (.tup xs) ρ1 := fun G F σ H v Q T hd k => by
  obtain ⟨a, ws, rfl, q, r⟩ := hd
  exact ⟨gTup c.K xs.length (tGs c es), fun X ok => by have := hp X (tGs c es) ok.calm (pgs_tGs ok es); rw [ok.K] at this; exact this, a, ws, rfl, T.fle.tup q, r.length, h G F σ H ws Q T r k⟩
end

/-! ### walks -/
/-- J walks the data ds, where Gp holds -/
structure WalkD (Z : Zd) (J : It) (ds : List D) (F : Hp) : Prop where
  w : ∃ Gp Y, Walk J ds.length Gp Y ∧ (∀ H, FLe F H → Gp H) ∧ ∀ i H x H' Fc, i < ds.length → FLe F Fc → FLe Fc H → Y i H x H' → ∃ F' d, Grow Z Fc H F' H' ∧ ds[i]? = some d ∧ Den Z.K F' d x
def Ei (Z : Zd) (t : TI) (ρ : Env') (ds : List D) (ρ' : Env') : Prop := ∀ G F σ H R, Stt Z G F σ H ρ → (∀ J F' H', Stt Z G F' σ H' ρ' → FStep F H F' H' → WalkD Z J ds F' → R J H') → t σ H R
def EiX (c : CD) (tg e : Expr) (ρ : Env') (ds : List D) (ρ' : Env') : Prop := Ei c.z (tI c tg e) ρ ds ρ'
section
variable {c : CD} {vis loc : List Nat} {gl : List Str} {ρ ρ1 ρ2 : Env'}
theorem I_tup {tg e : Expr} {ds : List D} (h : EvX c e ρ (.d (.tup ds)) ρ1) : EiX c tg e ρ ds ρ1 := fun G F σ H R T k => by
  refine ⟨iTup c.K (tE c e), fun X ok => by have := pi_tup (tg := tg) (pe_tE ok e); rw [ok.K] at this; exact this, h G F σ H _ T fun v F1 H1 T1 s1 q => ?_⟩
  obtain ⟨a, vs, rfl, q, r⟩ := q
  refine ⟨a, rfl, ⟨vs, T1.fle.tup q⟩, k _ F1 H1 T1 s1 ⟨⟨_, _, by rw [← r.length]; exact walk_tup (K := c.K) (a := a) (xs := vs), fun H l => l.tup q, fun i H x H' Fc hi l1 l2 y => ?_⟩⟩⟩
  obtain ⟨rfl, y⟩ := y
  obtain ⟨d, e1, e2⟩ := r.get y
  exact ⟨Fc, d, .refl l2, e1, Den.mono l1 d x e2⟩
theorem I_lst {tg e : Expr} {x : D} {ds : List D} (h : EvX c e ρ (.d x) ρ1) (hs : (match x with | .lst ds => some ds | .scr ns => some (ns.map D.int) | _ => none) = some ds) : EiX c tg e ρ ds ρ1 := fun G F σ H R T k => by
  refine ⟨iList c.K (tE c e), fun X ok => by have := pi_list (tg := tg) (pe_tE ok e); rw [ok.K] at this; exact this, h G F σ H _ T fun v F1 H1 T1 s1 q => ?_⟩
  have h2 : ∃ a vs, v = .ref a ∧ SqL c.K F1 a vs ∧ DenAll c.K F1 ds vs := by
    cases x with
    | lst es =>
      cases hs
      obtain ⟨a, vs, rfl, q, r⟩ := q
      exact ⟨a, vs, rfl, SqL.of q, r⟩
    | scr ns =>
      cases hs
      obtain ⟨a, rfl, q⟩ := q
      exact ⟨a, _, rfl, q, DenAll.ints.mpr rfl⟩
    | _ => cases hs
  obtain ⟨a, vs, rfl, q, r⟩ := h2
  refine ⟨a, rfl, ⟨vs, T1.fle.seq q⟩, k _ F1 H1 T1 s1 ⟨⟨_, _, by rw [← r.length]; exact walk_list (K := c.K) (a := a) (xs := vs), fun H l => l.seq q, fun i H x H' Fc hi l1 l2 y => ?_⟩⟩⟩
  obtain ⟨rfl, y⟩ := y
  obtain ⟨d, e1, e2⟩ := r.get y
  exact ⟨Fc, d, .refl l2, e1, Den.mono l1 d x e2⟩
def rangeD (lo : Int) (n : Nat) : List D := (List.range n).map fun (i : Nat) => D.int (lo + i)
theorem walkD_range {Z : Zd} {F : Hp} {lo : Int} {n : Nat} : WalkD Z (Itr lo n) (rangeD lo n) F := by
  have hl : (rangeD lo n).length = n := by simp [rangeD]
  refine ⟨⟨_, _, by rw [hl]; exact walk_range, fun _ _ => trivial, fun i H x H' Fc hi l1 l2 y => ?_⟩⟩
  obtain ⟨rfl, y⟩ := y
  subst y
  rw [hl] at hi
  exact ⟨Fc, .int (lo + i), .refl l2, by simp [rangeD, hi], rfl⟩
theorem I_range1 (S : ScOk c vis loc gl) {tg a : Expr} {p pos : Pos} {j : Int} (h : EvX c a ρ (.d (.int j)) ρ1) (hx : ("range" : Str) ∈ gl) (hm : c.mg "range" = none) (hj : -(2 ^ 62) ≤ j ∧ j < 2 ^ 62) (hs : ∀ X : Cx, starEach [a] X.env = [(false, eval a X.env)]) : EiX c tg (.Call (.Name "range" p) [a] [] pos) ρ (rangeD 0 j.toNat) ρ1 := fun G F σ H R T k =>
  ⟨iRng1 (tCons (tE c a) tNil), fun X ok => pi_range1 (ok.glOf S hx) (by rw [ok.mg]; exact hm) (pa_cons (pe_tE ok a) pa_nil (hs X)) (hs X), h G F σ H _ T fun v F1 H1 T1 s1 q => by
    have q : v = .int j := q
    subst q
    exact ⟨j, rfl, hj.1, hj.2, k _ F1 H1 T1 s1 walkD_range⟩⟩
theorem I_range2 (S : ScOk c vis loc gl) {tg a b : Expr} {p pos : Pos} {i j : Int} (ha : EvX c a ρ (.d (.int i)) ρ1) (hb : EvX c b ρ1 (.d (.int j)) ρ2) (hx : ("range" : Str) ∈ gl) (hm : c.mg "range" = none) (hj : -(2 ^ 62) ≤ i ∧ i < 2 ^ 62 ∧ -(2 ^ 62) ≤ j ∧ j < 2 ^ 62)
    (hs : ∀ X : Cx, starEach [a, b] X.env = [(false, eval a X.env), (false, eval b X.env)]) (hs2 : ∀ X : Cx, starEach [b] X.env = [(false, eval b X.env)]) : EiX c tg (.Call (.Name "range" p) [a, b] [] pos) ρ (rangeD i (j - i).toNat) ρ2 := fun G F σ H R T k =>
  ⟨iRng2 (tCons (tE c a) (tCons (tE c b) tNil)), fun X ok => pi_range2 (ok.glOf S hx) (by rw [ok.mg]; exact hm) (pa_cons (pe_tE ok a) (pa_cons (pe_tE ok b) pa_nil (hs2 X)) (by rw [hs X, hs2 X])) (hs X) (hs2 X), ha G F σ H _ T fun v F1 H1 T1 s1 q => hb G F1 σ H1 _ T1 fun w F2 H2 T2 s2 q2 => by
    have q : v = .int i := q
    subst q
    have q2 : w = .int j := q2
    subst q2
    exact ⟨i, j, rfl, hj, k _ F2 H2 T2 (s1.trans s2) walkD_range⟩⟩

/-! ### for -/
/-- a loop: I by the turn and the frame -/
theorem S_for {vs : List Nat} {tg iter : Expr} {body : List Stmt} {pos : Pos} {ds : List D} {P : Out → Prop} (I : Nat → Env' → Prop) (hi : EiX c tg iter ρ ds ρ1) (h0 : I 0 ρ1)
    (turn : ∀ j d ρ, ds[j]? = some d → I j ρ → ∃ ρ', EgX c vs tg ρ d ρ' ∧ EsX c body ρ' (fun o => match o with
      | .nx ρ'' => I (j + 1) ρ''
      | .ct ρ'' => I (j + 1) ρ''
      | .bk ρ'' => P (.nx ρ'')
      | .rt r ρ'' => P (.rt r ρ'')
      | .rz C fs ρ'' => P (.rz C fs ρ'')))
    (hd : ∀ ρ, I ds.length ρ → P (.nx ρ)) (hf : ∀ (X : Cx) x, foldedSetIterable iter X.env x = pure x) : EsX1 c (.For tg iter body [] pos) ρ P := fun G F σ H D S k => by
  refine ⟨tFor (tI c tg iter) (tG c tg) (tSs c body), fun X ok => ps_for ok.po ok.calm (pi_tI ok tg iter) (pg_tG ok tg) (pss_tSs ok body) (hf X), ?_⟩
  refine hi G F σ H _ S fun J F1 H1 S1 s1 W => ?_
  obtain ⟨Gp, Y, w, hG, hY⟩ := W.w
  refine for_it w (fun j σ' H' => ∃ F' ρ', Stt c.z G F' σ' H' ρ' ∧ FStep F1 H1 F' H' ∧ I j ρ') ⟨F1, ρ1, S1, .refl F1 H1, h0⟩ (fun j σ' H' _ h => ?_) (fun j x σ' H' H'' hj h y => ?_) fun σ' H' h => ?_
  · obtain ⟨F', ρ', S', s', _⟩ := h
    exact hG H' (s'.fle.trans S'.fle)
  · obtain ⟨F', ρ', S', s', hI⟩ := h
    obtain ⟨F2, d, g, e, hd'⟩ := hY j H' x H'' F' hj s'.fle S'.fle y
    obtain ⟨ρ2, hg, hb⟩ := turn j d ρ' e hI
    refine hg G F2 σ' H'' x _ (S'.grow g) hd' fun F3 σ3 H3 S3 s3 _ => hb G F3 σ3 H3 _ S3 fun o p => ?_
    have st := (s'.trans g.step).trans s3
    cases o with
    | nx ρ'' => exact fun F4 σ4 H4 S4 s4 => ⟨F4, ρ'', S4, st.trans s4, p⟩
    | ct ρ'' => exact fun F4 σ4 H4 S4 s4 => ⟨F4, ρ'', S4, st.trans s4, p⟩
    | bk ρ'' => exact fun F4 σ4 H4 S4 s4 => k _ p F4 σ4 H4 S4 ((s1.trans st).trans s4)
    | rt r ρ'' => exact fun F4 σ4 H4 v S4 s4 q => k _ p F4 σ4 H4 v S4 ((s1.trans st).trans s4) q
    | rz C fs ρ'' => exact fun F4 σ4 H4 d S4 s4 q => k _ p F4 σ4 H4 d S4 ((s1.trans st).trans s4) q
  · obtain ⟨F', ρ', S', s', hI⟩ := h
    exact k _ (hd ρ' hI) F' σ' H' S' (s1.trans s')

/-! ### comprehensions -/
def CD.blk (c : CD) (scope : Scope) : CD := { c with sc := relS scope c.sc, fn := fun x => scope.names.lookup x == some .cell, E := fun _ _ _ => False, kp := fun _ _ => False, mkr := none }
theorem CD.Ok.blk {X : Cx} (ok : c.Ok X) (scope : Scope) (s : Shared) (H : Hp) (C : Addr) (cl : List (Str × Addr)) (fp : List Addr) : (c.blk scope).Ok (X.blk s H scope (compEnvC scope cl C X.env) fp) :=
  ⟨ok.P, ok.w, ok.K, ok.mg, ok.base, ok.N, by show relS scope X.env.scope = relS scope c.sc; rw [ok.sc], rfl, ok.calm, PassesOwn.never, takes0, ok.room, (fun _ _ h => h.elim), fun _ z => nomatch z⟩
/-- the tests of a comprehension -/
def tTs (c : CD) (ifs : List Expr) : TT := fun σ H Q => ∃ t, (∀ X, c.Ok X → PTs X ifs t) ∧ t σ H Q
theorem pts_tTs {X : Cx} (ok : c.Ok X) (ifs : List Expr) : PTs X ifs (tTs c ifs) := ⟨fun pins s σ H Q I ⟨_, h, q⟩ => (h X ok).run pins s σ H Q I q⟩
def EtsX (c : CD) (ifs : List Expr) (ρ : Env') (b : Bool) (ρ' : Env') : Prop := Et c.z (tTs c ifs) ρ b ρ'
theorem Ts_nil : EtsX c [] ρ true ρ := fun G F σ H Q T k => ⟨tYes, fun X ok => pts_nil, k F H T (.refl F H)⟩
theorem Ts_one {e : Expr} {b : Bool} (h : EtX c e ρ b ρ1) : EtsX c [e] ρ b ρ1 := fun G F σ H Q T k => ⟨tT c e, fun X ok => pts_one (pt_tT ok e), h G F σ H _ T k⟩
/-- one turn of a comprehension: from the frame ρ, the item d: the tests, the element -/
inductive LcTurn (c : CD) (tg elt : Expr) (ifs : List Expr) (own : List Nat) (ρ : Env') (d : D) : Option D → Env' → Prop
  | yes {ρa ρb ρc ρ' : Env'} {x : D} : EgX c own tg ρ d ρa → EtsX c ifs ρa true ρb → EvX c elt ρb (.d x) ρc → ρ' = wipeE ρc own → LcTurn c tg elt ifs own ρ d (some x) ρ'
  | no {ρa ρb ρ' : Env'} : EgX c own tg ρ d ρa → EtsX c ifs ρa false ρb → ρ' = wipeE ρb own → LcTurn c tg elt ifs own ρ d none ρ'
theorem DenAll.snoc {K : PySem.W.Frag} {F : Hp} {ds : List D} {vs : List V} {d : D} {v : V} (h : DenAll K F ds vs) (q : Den K F d v) : DenAll K F (ds ++ [d]) (vs ++ [v]) := h.append (.single q)
/-- a comprehension's own reading -/
abbrev tLcX (c : CD) (tg iter : Expr) (ifs : List Expr) (elt : Expr) (scope : Scope) (own : List (Str × Nat)) : TE := tLc (tI c tg iter) (tG (c.blk scope) tg) (tTs (c.blk scope) ifs) (tE (c.blk scope) elt) (own.map (·.2))
theorem Ev_lcG {tg elt iter : Expr} {ifs : List Expr} {scope : Scope} (own : List (Str × Nat)) {ds : List D} (ρs : Nat → Env') (accs : Nat → List D) (hi : EiX c tg iter ρ ds (ρs 0))
    (hw : wipeE (ρs 0) (own.map (·.2)) = ρs 0) (h0 : accs 0 = [])
    (turn : ∀ j d, ds[j]? = some d → ∃ o, LcTurn (c.blk scope) tg elt ifs (own.map (·.2)) (ρs j) d o (ρs (j + 1)) ∧ accs (j + 1) = accs j ++ o.toList)
    (hl : ds.length ≤ 1000000) : Ev c.z (tLcX c tg iter ifs elt scope own) ρ (.fr (.fl (accs ds.length))) (ρs ds.length) := fun G F σ H Q T k => by
  refine hi G F σ H _ T fun J F1 H1 T1 s1 W => ?_
  obtain ⟨Gp, Y, w, hG, hY⟩ := W.w
  intro D nD
  obtain ⟨io, A1, an1, th1⟩ := T1.anchor
  have fD1 : F1 D = none := T1.fle.none nD
  have gD : ∀ b, G.H0 b ≠ none → b ≠ D := fun b e z => T1.dom b e (by rw [z]; exact nD)
  obtain ⟨io0, B0, nD0, _, hio0⟩ := A1.other (o := .lst []) (.inl nD) fD1 (.inl nD)
  refine lc_it w (fun i H' => ∃ F' acc io, Stt c.z ⟨H', io, fun a => a = D ∨ G.nf a⟩ F' (L2.wipe σ (own.map (·.2))) H' (ρs i) ∧ D ∉ io ∧ (∀ b o, G.H0 b = some o → b ∉ G.io → NT o → H' b = some o) ∧ (∀ b, G.H0 b ≠ none → H' b ≠ none) ∧ (∀ a ∈ io, G.H0 a = none ∨ a ∈ G.io) ∧
      FStep F1 H1 F' H' ∧ F' D = none ∧ H' D = some (.lst acc) ∧ DenAll c.K F' (accs i) acc ∧ wipeE (ρs i) (own.map (·.2)) = ρs i ∧ (accs i).length ≤ i) ?_ (fun i H' _ h => ?_) (fun i x H' H'' hj h y => ?_) fun H' h => ?_
  · refine ⟨F1, [], io0, by rw [← hw]; exact B0.wipe _, nD0, fun b o e n m => by rw [upd_ne (gD b (by rw [e]; exact fun z => nomatch z))]; exact T1.keep b o e n m, fun b h => upd_dom (T1.dom b h), fun a ha => ?_, .upd, fD1, upd_same, by rw [h0]; rfl, hw, by rw [h0]; exact Nat.le_refl 0⟩
    rcases hio0 a ha with z | z
    · cases e : G.H0 a with
      | none => exact .inl rfl
      | some o => exact absurd z (T1.dom a (by rw [e]; exact fun z => nomatch z))
    · exact an1.io a z
  · obtain ⟨F', acc, io, S', _, _, _, _, s', _⟩ := h
    exact hG H' (s'.fle.trans S'.fle)
  · obtain ⟨F', acc, io, S', nDi, hk, hdm, hio, s', fD, hD, hd, hwi, hlen⟩ := h
    obtain ⟨F2, d, g, e, hd'⟩ := hY i H' x H'' F' hj s'.fle S'.fle y
    obtain ⟨o, ht, ha⟩ := turn i d e
    have finish : ∀ {F5 H5 : Hp} {σ3 : L2.St} {ρc : Env'} {acc' : List V} {H6 : Hp}, Stt c.z ⟨H', io, fun a => a = D ∨ G.nf a⟩ F5 σ3 H5 ρc → FStep F' H' F5 H5 → L2.wipe σ3 (own.map (·.2)) = L2.wipe σ (own.map (·.2)) → ρs (i + 1) = wipeE ρc (own.map (·.2)) →
        DenAll c.K F5 (accs (i + 1)) acc' → H6 = upd H5 D (.lst acc') → (accs (i + 1)).length ≤ i + 1 → ∃ F' acc io, Stt c.z ⟨H6, io, fun a => a = D ∨ G.nf a⟩ F' (L2.wipe σ (own.map (·.2))) H6 (ρs (i + 1)) ∧ D ∉ io ∧ (∀ b o, G.H0 b = some o → b ∉ G.io → NT o → H6 b = some o) ∧ (∀ b, G.H0 b ≠ none → H6 b ≠ none) ∧ (∀ a ∈ io, G.H0 a = none ∨ a ∈ G.io) ∧
          FStep F1 H1 F' H6 ∧ F' D = none ∧ H6 D = some (.lst acc) ∧ DenAll c.K F' (accs (i + 1)) acc ∧ wipeE (ρs (i + 1)) (own.map (·.2)) = ρs (i + 1) ∧ (accs (i + 1)).length ≤ i + 1 := by
      intro F5 H5 σ3 ρc acc' H6 S5 s5 ew er hd5 e6 hl6
      subst e6
      have fD5 : F5 D = none := (S5.nf D (.inl rfl)).2
      obtain ⟨io', B, nD', _, hio'⟩ := S5.other (o := .lst acc') (.inr ⟨(by show H' D ≠ none; rw [hD]; exact fun z => nomatch z), nDi⟩) fD5 (.inr ⟨acc, S5.keep D _ hD nDi fun _ z => nomatch z⟩)
      refine ⟨F5, acc', io', by rw [er]; exact (B.less (nf := fun a => a = D ∨ G.nf a) fun a h => .inr h).unwipe ew, nD', fun b o e n m => ?_, fun b h => upd_dom (S5.dom b (hdm b h)), fun a ha => ?_, (s'.trans s5).trans .upd, fD5, upd_same, hd5, by rw [er]; exact wipeE_idem _ _, hl6⟩
      · rw [upd_ne (gD b (by rw [e]; exact fun z => nomatch z))]
        refine S5.keep b o (hk b o e n m) (fun z => ?_) m
        rcases hio b z with w | w
        · rw [w] at e; cases e
        · exact n w
      · rcases hio' a ha with z | z
        · cases e : G.H0 a with
          | none => exact .inl rfl
          | some o => exact absurd z (hdm a (by rw [e]; exact fun z => nomatch z))
        · exact hio a z
    cases ht with
    | yes hg htt he hρ =>
      refine hg ⟨H', io, fun a => a = D ∨ G.nf a⟩ F2 _ H'' x _ (S'.grow g) hd' fun F3 σ3 H3 S3 s3 w3 => ?_
      have w3' : L2.wipe σ3 (own.map (·.2)) = L2.wipe σ (own.map (·.2)) := w3.trans (wipe_idem _ _)
      refine ⟨w3', htt _ F3 σ3 H3 _ S3 fun F4 H4 S4 s4 => ?_⟩
      rw [if_pos rfl]
      refine he _ F4 σ3 H4 _ S4 fun v F5 H5 S5 s5 q5 => ?_
      have st : FStep F' H' F5 H5 := ((g.step.trans s3).trans s4).trans s5
      have hD5 : H5 D = some (.lst acc) := S5.keep D _ hD nDi (fun _ z => nomatch z)
      have lacc : acc.length < sizeLine := by
        rw [hd.length]
        have : sizeLine = 16777216 := sizeLine_eq
        omega
      refine ⟨acc, hD5, lacc, finish S5 st w3' hρ (by rw [ha]; exact (DenAll.mono st.fle _ _ hd).snoc q5) rfl (by rw [ha]; simp; omega)⟩
    | no hg htt hρ =>
      refine hg ⟨H', io, fun a => a = D ∨ G.nf a⟩ F2 _ H'' x _ (S'.grow g) hd' fun F3 σ3 H3 S3 s3 w3 => ?_
      have w3' : L2.wipe σ3 (own.map (·.2)) = L2.wipe σ (own.map (·.2)) := w3.trans (wipe_idem _ _)
      refine ⟨w3', htt _ F3 σ3 H3 _ S3 fun F4 H4 S4 s4 => ?_⟩
      rw [if_neg Bool.false_ne_true]
      have st : FStep F' H' F4 H4 := (g.step.trans s3).trans s4
      have hD5 : H4 D = some (.lst acc) := S4.keep D _ hD nDi (fun _ z => nomatch z)
      exact finish S4 st w3' hρ (by rw [ha]; simpa using DenAll.mono st.fle _ _ hd) (upd_self hD5).symm (by rw [ha]; simp; omega)
  · obtain ⟨F', acc, io, S', nDi, hk, hdm, hio, s', fD, hD, hd, hwi, hlen⟩ := h
    have nfD : ¬ G.nf D := fun z => (T1.nf D z).1 nD
    have S2 := S'.less (nf := G.nf) fun a h => .inr h
    have S3 : Stt c.z ⟨H', io, G.nf⟩ F' σ H' (ρs ds.length) := S2.swap (wipe_length _ _).symm fun j e h n => by
      rw [← hwi] at h
      rw [wipe_out (wipeE_get h n).2]
    have S4 := S3.back ⟨hk, hdm, hio⟩
    have gD' : G.H0 D = none := by
      cases e : G.H0 D with
      | none => rfl
      | some o => exact absurd rfl (gD D (by rw [e]; exact fun z => nomatch z))
    obtain ⟨ass, q, nd, fr⟩ := S3.ents
    have hin : ∀ a ∈ ass.flatten, a ∈ io := fun a ha => by
      rcases (fr a ha).2 with z | z
      · obtain ⟨u, hu, _⟩ := q.there a ha
        rw [show H' a = none from z] at hu
        cases hu
      · exact z
    refine k (.ref D) F' H' S4 (s1.trans s') ?_
    refine S4.snoc (ass := ass) q nd (fun a ha => ⟨(fr a ha).1, hio a (hin a ha)⟩) (e := .ot none (.fl (accs ds.length))) (o := some (.ref D)) (as := [D]) ⟨.ref D, rfl, ⟨D, acc, rfl, rfl, hD, hd⟩, fun _ a ha z => nfD (by rw [← List.mem_singleton.mp ha]; exact z), fun _ z => nomatch z⟩ (by simp) (fun a ha => ?_) fun a ha z => ?_
    · rw [List.mem_singleton.mp ha]; exact ⟨fD, .inl gD'⟩
    · rw [List.mem_singleton.mp ha] at z; exact nDi (hin D z)
theorem E_lcX {tg elt iter : Expr} {ifs : List Expr} {scope : Scope} {pos : Pos} {own : List (Str × Nat)} {r : Res} (hN : c.N.Nodup) (hok : BlkOk c.N c.sc scope own) (h : Ev c.z (tLcX c tg iter ifs elt scope own) ρ r ρ1) (hf : ∀ (X : Cx) x, foldedSetIterable iter X.env x = pure x) :
    EvX c (.ListComp elt [⟨tg, iter, ifs, 0⟩] scope pos) ρ r ρ1 := fun G F σ H Q T k =>
  ⟨tLcX c tg iter ifs elt scope own, fun X ok => pe_lc (own := own) ok.calm (by rw [ok.N]; exact hN) (pi_tI ok tg iter) (by rw [ok.N, ok.sc]; exact hok)
    (fun s H C cl fp => pg_tG (ok.blk scope s H C cl fp) tg) (fun s H C cl fp => pts_tTs (ok.blk scope s H C cl fp) ifs) (fun s H C cl fp => pe_tE (ok.blk scope s H C cl fp) elt) (hf X), h G F σ H Q T k⟩
/-- [elt for tg in iter if ..]: the frames ρs and the lists accs by the turn -/
theorem E_lcG {tg elt iter : Expr} {ifs : List Expr} {scope : Scope} {pos : Pos} (own : List (Str × Nat)) {ds : List D} (ρs : Nat → Env') (accs : Nat → List D) (hN : c.N.Nodup) (hok : BlkOk c.N c.sc scope own) (hi : EiX c tg iter ρ ds (ρs 0))
    (hw : wipeE (ρs 0) (own.map (·.2)) = ρs 0) (h0 : accs 0 = [])
    (turn : ∀ j d, ds[j]? = some d → ∃ o, LcTurn (c.blk scope) tg elt ifs (own.map (·.2)) (ρs j) d o (ρs (j + 1)) ∧ accs (j + 1) = accs j ++ o.toList)
    (hl : ds.length ≤ 1000000) (hf : ∀ (X : Cx) x, foldedSetIterable iter X.env x = pure x) : EvX c (.ListComp elt [⟨tg, iter, ifs, 0⟩] scope pos) ρ (.fr (.fl (accs ds.length))) (ρs ds.length) :=
  E_lcX hN hok (Ev_lcG own ρs accs hi hw h0 turn hl) hf
end
end Fw

set_option Elab.async false
set_option maxRecDepth 100000
set_option maxHeartbeats 4000000
/-! Fw6: calls of built-ins and of defs; statements that store. -/
namespace Fw
open PySem PySem.Spec PyProof.Rows L2

/-! ### arguments as data -/
inductive LkAll (ρ : Env') : List Res → List D → Prop
  | nil : LkAll ρ [] []
  | cons {r : Res} {rs : List Res} {x : D} {xs : List D} : Lk ρ r x → LkAll ρ rs xs → LkAll ρ (r :: rs) (x :: xs)
theorem LkAll.ds (ρ : Env') : ∀ xs : List D, LkAll ρ (xs.map Res.d) xs
  | [] => .nil
  | x :: xs => .cons (.d x) (LkAll.ds ρ xs)
def VwAll (K : PySem.W.Frag) (F H : Hp) : List D → List V → Prop
  | [], vs => vs = []
  | x :: xs, vs => ∃ v vs', vs = v :: vs' ∧ Vw K F H x v ∧ VwAll K F H xs vs'
theorem LkAll.vw {Z : Zd} {G : Gd} {F H : Hp} {σ : L2.St} {ρ : Env'} (S : Stt Z G F σ H ρ) : ∀ {rs : List Res} {xs : List D} {vs : List V}, LkAll ρ rs xs → vs.length = rs.length →
    (∀ (i : Nat) (v : V) (r : Res), vs[i]? = some v → rs[i]? = some r → ResOk Z G F σ H ρ v r) → VwAll Z.K F H xs vs
  | _, _, vs, .nil, l, _ => by
    cases vs with
    | nil => rfl
    | cons v vs => simp at l
  | _, _, vs, .cons h hs, l, q => by
    cases vs with
    | nil => simp at l
    | cons v vs => exact ⟨v, vs, rfl, h.vw S (q 0 v _ rfl rfl), hs.vw S (by simpa using l) fun i w r e1 e2 => q (i + 1) w r (by simpa using e1) (by simpa using e2)⟩
/-- a pure call of the value f -/
def Cb (c : CD) (f : Value) (xs : List D) (z : D) : Prop := ∀ F H vs Q, FLe F H → VwAll c.K F H xs vs → (∀ v F' H', Grow c.z F H F' H' → Den c.K F' z v → Q v H') → ∃ r, (∀ X, c.Ok X → CallR X f r) ∧ r vs H Q
def rC (c : CD) (f : Value) : List V → Hp → VK → Prop := fun vs H Q => ∃ r, (∀ X, c.Ok X → CallR X f r) ∧ r vs H Q
theorem rC_ok {c : CD} {f : Value} {X : Cx} (ok : c.Ok X) : CallR X f (rC c f) := by
  intro pins s σ H vs us Q I rv h
  obtain ⟨r, hr, q⟩ := h
  exact hr X ok pins s σ H vs us Q I rv q
section
variable {c : CD} {vis loc : List Nat} {gl : List Str} {ρ ρ1 ρ2 : Env'}
theorem E_cb (S : ScOk c vis loc gl) {x : Str} {p pos : Pos} {e : Expr} {es : List Expr} {rs : List Res} {xs : List D} {z : D} {id : String} (ha : EaX c (e :: es) ρ rs ρ1) (la : LkAll ρ1 rs xs) (h : Cb c (.builtin id) xs z)
    (hx : x ∈ gl) (hm : c.mg x = none) (hv : bootBuiltins x = some (.builtin id)) (he : ∀ X : Cx, starEach (e :: es) X.env = (false, eval e X.env) :: starEach es X.env) (hpl : ∀ X : Cx, (backTo pos (starEach es X.env)).any (·.1) = false) :
    EvX c (.Call (.Name x p) (e :: es) [] pos) ρ (.d z) ρ1 := fun G F σ H Q T k =>
  ⟨tCB (rC c (.builtin id)) (tA c (e :: es)), fun X ok => pe_callB (rC_ok ok) (ok.glOf S hx) (by rw [ok.mg]; exact hm) hv (pa_tA ok _) (S.glOf hx).2.2 (S.glOf hx).2.1 (he X) (hpl X), ha G F σ H _ T fun vs F1 H1 T1 s1 l q =>
    h F1 H1 vs Q T1.fle (la.vw T1 l q) fun v F2 H2 g q2 => k v F2 H2 (T1.grow g) (s1.trans g.step) q2⟩
theorem E_cty (S : ScOk c vis loc gl) {x : Str} {p pos : Pos} {e : Expr} {es : List Expr} {rs : List Res} {xs : List D} {z : D} {id : String} (ha : EaX c (e :: es) ρ rs ρ1) (la : LkAll ρ1 rs xs) (h : Cb c (.type id) xs z)
    (hx : x ∈ gl) (hm : c.mg x = none) (hv : bootBuiltins x = some (.type id)) (he : ∀ X : Cx, starEach (e :: es) X.env = (false, eval e X.env) :: starEach es X.env) (hpl : ∀ X : Cx, (backTo pos (starEach es X.env)).any (·.1) = false) :
    EvX c (.Call (.Name x p) (e :: es) [] pos) ρ (.d z) ρ1 := fun G F σ H Q T k =>
  ⟨tCB (rC c (.type id)) (tA c (e :: es)), fun X ok => pe_callTy (rC_ok ok) (ok.glOf S hx) (by rw [ok.mg]; exact hm) hv (pa_tA ok _) (S.glOf hx).2.2 (S.glOf hx).2.1 (he X) (hpl X), ha G F σ H _ T fun vs F1 H1 T1 s1 l q =>
    h F1 H1 vs Q T1.fle (la.vw T1 l q) fun v F2 H2 g q2 => k v F2 H2 (T1.grow g) (s1.trans g.step) q2⟩

/-! ### built-ins -/
theorem b_len {x : D} {ds : List D} (hs : seqD x = some ds) : Cb c (.builtin "len") [x] (.int ds.length) := by
  intro F H vs Q l h k
  obtain ⟨v, _, rfl, hv, rfl⟩ := h
  obtain ⟨p, ws, rfl, q, r⟩ := seq_vw l hs hv
  refine ⟨?r, fun X ok => ?h, ?q⟩
  case h => have := call_len_seq (X := X); rw [ok.K] at this; exact this
  exact ⟨p, ws, rfl, q, k _ F H (.refl l) (by rw [r.length]; rfl)⟩
theorem b_lenS {z : Str} (hz : z.length ≤ sizeLine) : Cb c (.builtin "len") [.str z] (.int z.length) := by
  intro F H vs Q l h k
  obtain ⟨v, _, rfl, hv, rfl⟩ := h
  have hv : v = .str z := hv
  subst hv
  exact ⟨_, fun X ok => call_len_str, z, rfl, hz, k _ F H (.refl l) rfl⟩
theorem b_abs {i : Int} : Cb c (.builtin "abs") [.int i] (.int (if i < 0 then -i else i)) := by
  intro F H vs Q l h k
  obtain ⟨v, _, rfl, hv, rfl⟩ := h
  have hv : v = .int i := hv
  subst hv
  exact ⟨_, fun X ok => call_abs, i, rfl, k _ F H (.refl l) rfl⟩
theorem b_int {i : Int} : Cb c (.type "int") [.int i] (.int i) := by
  intro F H vs Q l h k
  obtain ⟨v, _, rfl, hv, rfl⟩ := h
  have hv : v = .int i := hv
  subst hv
  exact ⟨_, fun X ok => call_int1, .inl ⟨i, rfl, k _ F H (.refl l) rfl⟩⟩
theorem b_max2 {i j : Int} : Cb c (.builtin "max") [.int i, .int j] (.int (if j > i then j else i)) := by
  intro F H vs Q l h k
  obtain ⟨v, _, rfl, hv, w, _, rfl, hw, rfl⟩ := h
  have hv : v = .int i := hv
  have hw : w = .int j := hw
  subst hv hw
  exact ⟨_, fun X ok => call_max2 ok.calm, i, j, rfl, k _ F H (.refl l) rfl⟩
theorem b_min2 {i j : Int} : Cb c (.builtin "min") [.int i, .int j] (.int (if j < i then j else i)) := by
  intro F H vs Q l h k
  obtain ⟨v, _, rfl, hv, w, _, rfl, hw, rfl⟩ := h
  have hv : v = .int i := hv
  have hw : w = .int j := hw
  subst hv hw
  exact ⟨_, fun X ok => call_min2 ok.calm, i, j, rfl, k _ F H (.refl l) rfl⟩
/-- a list, frozen or seen now -/
theorem lst_vw {K : PySem.W.Frag} {F H : Hp} {ds : List D} {v : V} (h : Vw K F H (.lst ds) v) : ∃ a vs, v = .ref a ∧ SqL K H a vs ∧ DenAll K F ds vs := by
  obtain ⟨a, vs, e, q, r⟩ := h
  exact ⟨a, vs, e, SqL.of q, r⟩
theorem b_sum {ns : List Int} : Cb c (.builtin "sum") [.lst (ns.map D.int)] (.int ns.sum) := by
  intro F H vs Q l h k
  obtain ⟨v, _, rfl, hv, rfl⟩ := h
  obtain ⟨a, ws, rfl, q, r⟩ := lst_vw hv
  rw [DenAll.ints.mp r] at q
  refine ⟨?r, fun X ok => ?h, ?q⟩
  case h => have := cr_sum (X := X) ok.calm; rw [ok.K] at this; exact this
  exact ⟨a, ns, rfl, q, k _ F H (.refl l) rfl⟩
theorem b_all {bs : List Bool} : Cb c (.builtin "all") [.lst (bs.map D.bl)] (.bl (bs.all id)) := by
  intro F H vs Q l h k
  obtain ⟨v, _, rfl, hv, rfl⟩ := h
  obtain ⟨a, ws, rfl, q, r⟩ := lst_vw hv
  rw [DenAll.bools.mp r] at q
  refine ⟨?r, fun X ok => ?h, ?q⟩
  case h => have := cr_all (X := X) ok.calm; rw [ok.K] at this; exact this
  exact ⟨a, bs, rfl, q, k _ F H (.refl l) rfl⟩
theorem b_any {bs : List Bool} : Cb c (.builtin "any") [.lst (bs.map D.bl)] (.bl (bs.any id)) := by
  intro F H vs Q l h k
  obtain ⟨v, _, rfl, hv, rfl⟩ := h
  obtain ⟨a, ws, rfl, q, r⟩ := lst_vw hv
  rw [DenAll.bools.mp r] at q
  refine ⟨?r, fun X ok => ?h, ?q⟩
  case h => have := cr_any (X := X) ok.calm; rw [ok.K] at this; exact this
  exact ⟨a, bs, rfl, q, k _ F H (.refl l) rfl⟩
/-- the least, the greatest of some ints -/
def IsMin (ns : List Int) (m : Int) : Prop := m ∈ ns ∧ ∀ y ∈ ns, m ≤ y
def IsMax (ns : List Int) (m : Int) : Prop := m ∈ ns ∧ ∀ y ∈ ns, y ≤ m
theorem IsMin.uniq {ns : List Int} {m k : Int} (h : IsMin ns m) (h' : IsMin ns k) : m = k := Int.le_antisymm (h.2 k h'.1) (h'.2 m h.1)
theorem IsMax.uniq {ns : List Int} {m k : Int} (h : IsMax ns m) (h' : IsMax ns k) : m = k := Int.le_antisymm (h'.2 m h.1) (h.2 k h'.1)
theorem b_min {ns : List Int} {m : Int} (hm : IsMin ns m) : Cb c (.builtin "min") [.lst (ns.map D.int)] (.int m) := by
  intro F H vs Q l h k
  obtain ⟨v, _, rfl, hv, rfl⟩ := h
  obtain ⟨a, ws, rfl, q, r⟩ := lst_vw hv
  rw [DenAll.ints.mp r] at q
  refine ⟨?r, fun X ok => ?h, ?q⟩
  case h => have := cr_min (X := X) ok.calm; rw [ok.K] at this; exact this
  exact ⟨a, ns, rfl, q, List.length_pos_of_mem hm.1, fun n h1 h2 => k _ F H (.refl l) (by rw [IsMin.uniq ⟨h1, h2⟩ hm]; rfl)⟩
theorem b_max {ns : List Int} {m : Int} (hm : IsMax ns m) : Cb c (.builtin "max") [.lst (ns.map D.int)] (.int m) := by
  intro F H vs Q l h k
  obtain ⟨v, _, rfl, hv, rfl⟩ := h
  obtain ⟨a, ws, rfl, q, r⟩ := lst_vw hv
  rw [DenAll.ints.mp r] at q
  refine ⟨?r, fun X ok => ?h, ?q⟩
  case h => have := cr_max (X := X) ok.calm; rw [ok.K] at this; exact this
  exact ⟨a, ns, rfl, q, List.length_pos_of_mem hm.1, fun n h1 h2 => k _ F H (.refl l) (by rw [IsMax.uniq ⟨h1, h2⟩ hm]; rfl)⟩
theorem b_tuple {x : D} {ds : List D} (hs : seqD x = some ds) : Cb c (.type "tuple") [x] (.tup ds) := by
  intro F H vs Q l h k
  obtain ⟨v, _, rfl, hv, rfl⟩ := h
  refine ⟨?r, fun X ok => ?h, ?q⟩
  case h => have := call_tuple_of (X := X); rw [ok.K] at this; exact this
  cases x with
  | tup es =>
    cases hs
    obtain ⟨a, ws, rfl, q, r⟩ := hv
    exact ⟨a, ws, rfl, .inr ⟨l.tup q, k _ F H (.refl l) ⟨a, ws, rfl, q, r⟩⟩⟩
  | tun es =>
    cases hs
    obtain ⟨a, ws, rfl, q, r⟩ := hv
    exact ⟨a, ws, rfl, .inr ⟨(q.mono l).sq, k _ F H (.refl l) ⟨a, ws, rfl, q.sq, r⟩⟩⟩
  | lst es =>
    cases hs
    obtain ⟨a, ws, rfl, q, r⟩ := hv
    exact ⟨a, ws, rfl, .inl ⟨SqL.of q, fun p n => k _ _ _ (Grow.alloc l n) (den_tup (l.none n) r)⟩⟩
  | scr ns =>
    cases hs
    obtain ⟨a, rfl, q⟩ := hv
    exact ⟨a, _, rfl, .inl ⟨l.seq q, fun p n => k _ _ _ (Grow.alloc l n) (den_tup (l.none n) (DenAll.ints.mpr rfl))⟩⟩
  | _ => cases hs
theorem b_list {x : D} {ds : List D} (hs : seqD x = some ds) : Cb c (.type "list") [x] (.lst ds) := by
  intro F H vs Q l h k
  obtain ⟨v, _, rfl, hv, rfl⟩ := h
  obtain ⟨p, ws, rfl, q, r⟩ := seq_vw l hs hv
  refine ⟨?r, fun X ok => ?h, ?q⟩
  case h => have := call_list_of (X := X); rw [ok.K] at this; exact this
  exact ⟨p, ws, rfl, q, fun p n => k _ _ _ (Grow.alloc l n) (den_lst (l.none n) r)⟩

/-! ### what a def gets and gives back -/
section
variable {Z : Zd} {G : Gd} {F H F2 H2 : Hp} {σ τ : L2.St} {ρ κ : Env'}
def nfOf (F H : Hp) : Addr → Prop := fun a => H a ≠ none ∧ F a = none
theorem grow_of (S : Stt Z ⟨H, [], nfOf F H⟩ F2 τ H2 κ) (s : FStep F H F2 H2) : Grow Z F H F2 H2 :=
  ⟨fun b o e n => S.keep b o e (by simp) n, s.fle, S.fle, fun a h e => (S.nf a ⟨h, e⟩).2, s.dom, (fun _ => S.tabs), fun _ => S.fnt⟩
theorem none_of {H H0 : Hp} (d : ∀ a, H0 a ≠ none → H a ≠ none) {a : Addr} (h : H a = none) : H0 a = none := by
  cases e : H0 a with
  | none => rfl
  | some o => exact absurd h (d a (by rw [e]; exact fun z => nomatch z))
/-- the temporary at the end -/
theorem Stt.last {v : V} {t : Tr} (S : Stt Z G F (σ ++ [some v]) H (ρ ++ [.ot none t])) (l : σ.length = ρ.length) : ∃ a1 as, EntsOk Z G.nf F H ρ σ a1 ∧ a1.flatten.Nodup ∧ (∀ a ∈ a1.flatten, F a = none ∧ (G.H0 a = none ∨ a ∈ G.io)) ∧ OwnT Z.K F H t v as ∧ as.Nodup ∧ (∀ a ∈ as, ¬ G.nf a) ∧
    (∀ a ∈ as, F a = none ∧ (G.H0 a = none ∨ a ∈ G.io)) ∧ ∀ a ∈ as, a ∉ a1.flatten := by
  obtain ⟨ass, q, nd, fr⟩ := S.ents
  obtain ⟨a1, a2, rfl, q1, q2⟩ := q.split l
  obtain ⟨o, σ', as, ass', e1, rfl, ⟨v1, e2, q3, ob⟩, q4⟩ := q2
  cases e1
  cases e2
  obtain ⟨_, rfl⟩ := q4
  rw [List.flatten_append] at nd
  simp only [List.flatten_cons, List.flatten_nil, List.append_nil] at nd
  obtain ⟨n1, n2, n3⟩ := List.nodup_append.mp nd
  refine ⟨a1, as, q1, n1, fun a ha => fr a (by rw [List.flatten_append]; exact List.mem_append_left _ ha), q3, n2, ob.1 rfl, fun a ha => fr a ?_, fun a ha z => n3 a z a ha rfl⟩
  rw [List.flatten_append]
  refine List.mem_append_right _ ?_
  simpa using ha
theorem Stt.call0 (T : Stt Z G F σ H ρ) {v : V} {t : Tr} (S : Stt Z ⟨H, [], nfOf F H⟩ F2 (τ ++ [some v]) H2 (κ ++ [.ot none t])) (l : τ.length = κ.length) (s : FStep F H F2 H2) : Stt Z G F2 (σ ++ [some v]) H2 (ρ ++ [.ot none t]) := by
  obtain ⟨a1, as, _, _, _, q, nd, nn, fr, _⟩ := S.last l
  have g := grow_of S s
  obtain ⟨ass, qa, nda, fra⟩ := T.ents
  have hx : ∀ a ∈ as, H a = none := fun a ha => by
    rcases (fr a ha).2 with z | z
    · exact z
    · cases z
  have hH : ∀ a ∈ ass.flatten, H a ≠ none := fun a ha => by
    obtain ⟨u, hu, _⟩ := qa.there a ha
    rw [hu]
    exact fun z => nomatch z
  refine (T.grow g).snoc (qa.grow g.fle fun b _ u e m => g.same b u e m) nda (fun a ha => ⟨g.new a (hH a ha) (fra a ha).1, (fra a ha).2⟩) (e := .ot none t) (o := some v) ⟨v, rfl, q, fun _ a ha z => (T.nf a z).1 (hx a ha), fun _ z => nomatch z⟩ nd (fun a ha => ⟨(fr a ha).1, .inl (none_of T.dom (hx a ha))⟩) fun a ha z => hH a z (hx a ha)
theorem Stt.call1 (T : Stt Z G F σ H ρ) {i : Nat} {b : Option Addr} {t : Tr} (hi : ρ[i]? = some (.ot b t)) : ∃ v0 as0, σ[i]? = some (some v0) ∧ OwnT Z.K F H t v0 as0 ∧ as0.Nodup ∧ (∀ a ∈ as0, F a = none) ∧
    (∀ {F2 H2 : Hp} {τ : L2.St} {κ : Env'} {t' : Tr} {w : Option Addr}, Stt Z ⟨H, as0, fun a => nfOf F H a ∧ a ∉ as0⟩ F2 (some v0 :: τ) H2 (.ot w t' :: κ) → FStep F H F2 H2 → Stt Z G F2 σ H2 (ρ.set i (.ot b t'))) ∧
    ∀ {F2 H2 : Hp} {τ : L2.St} {κ : Env'} {t' t2 : Tr} {w : Option Addr} {v2 : V}, Stt Z ⟨H, as0, fun a => nfOf F H a ∧ a ∉ as0⟩ F2 (some v0 :: (τ ++ [some v2])) H2 (.ot w t' :: (κ ++ [.ot none t2])) → τ.length = κ.length → FStep F H F2 H2 → Stt Z G F2 (σ ++ [some v2]) H2 (ρ.set i (.ot b t') ++ [.ot none t2]) := by
  obtain ⟨o0, as0, cs, e1, e3, nd0, fr0, ⟨bss, hb1, hb2⟩, ncs, fcs, mk⟩ := T.nil.slot T.len hi
  have ec : cs = [] := by rw [hb2, hb1.2]; rfl
  subst ec
  obtain ⟨v0, rfl, q, ob⟩ := e3
  have main : ∀ {F2 H2 : Hp} {τ : L2.St} {κ : Env'} {t' : Tr} {w : Option Addr}, Stt Z ⟨H, as0, fun a => nfOf F H a ∧ a ∉ as0⟩ F2 (some v0 :: τ) H2 (.ot w t' :: κ) → FStep F H F2 H2 → ∃ as', OwnT Z.K F2 H2 t' v0 as' ∧ (∀ x ∈ as', x ∈ as0 ∨ H x = none) ∧ Stt Z G F2 σ H2 (ρ.set i (.ot b t')) ∧
      ∃ ass, EntsOk Z G.nf F2 H2 (ρ.set i (.ot b t')) σ ass ∧ ass.flatten.Nodup ∧ (∀ a ∈ ass.flatten, F2 a = none ∧ (G.H0 a = none ∨ a ∈ G.io)) ∧ ∀ a ∈ ass.flatten, a ∈ as' ∨ (a ∉ as0 ∧ H a ≠ none) := fun {F2 H2 τ κ t' w} S s => by
    obtain ⟨ass, qs, nd, fr⟩ := S.ents
    obtain ⟨o, σ', as', ass', e4, rfl, ⟨v1, e5, q5, ob5⟩, _⟩ := qs
    cases e4
    cases e5
    simp only [List.flatten_cons] at nd fr
    have nd' := (List.nodup_append.mp nd).1
    have fr' : ∀ x ∈ as', F2 x = none ∧ (H x = none ∨ x ∈ as0) := fun x hx => fr x (List.mem_append_left _ hx)
    have M := mk (e := .ot b t') (o := some v0) (as := as') s.fle S.fle S.fnt (fun x h1 h2 => (Classical.em (x ∈ as0)).elim (fun z => .inr (.inl z)) fun z => .inl (S.nf x ⟨⟨h2, h1⟩, z⟩).2) (fun x hx => (fr' x hx).1) (fun x hx => (S.nf x ⟨⟨(T.nf x hx).1, (T.nf x hx).2⟩, fun z => ob.1 rfl x z hx⟩).2) (fun x h1 _ u hu m => S.keep x u hu h1 m) s.dom S.tabs ⟨v0, rfl, q5, fun hb x hx z => ?_, ob.2⟩ nd' fun x hx => ?_
    · rw [st_self e1] at M
      obtain ⟨M1, ass2, m1, m2, m3, m4⟩ := M
      exact ⟨as', q5, fun x hx => ((fr' x hx).2).symm, M1, ass2, m1, m2, m3, fun a ha => (m4 a ha).imp id fun z => ⟨z.1, z.2.2⟩⟩
    · rcases (fr' x hx).2 with y | y
      · exact (T.nf x z).1 y
      · exact ob.1 hb x y z
    · rcases (fr' x hx).2 with y | y
      · exact .inr (.inr ⟨y, none_of T.dom y⟩)
      · exact .inl y
  refine ⟨v0, as0, e1, q, nd0, fun a ha => (fr0 a ha).1, fun S s => (main S s).choose_spec.2.2.1, fun {F2 H2 τ κ t' t2 w v2} S l s => ?_⟩
  have S' : Stt Z ⟨H, as0, fun a => nfOf F H a ∧ a ∉ as0⟩ F2 ((some v0 :: τ) ++ [some v2]) H2 ((.ot w t' :: κ) ++ [.ot none t2]) := S
  obtain ⟨a1, as2, q1, n1, f1, q2, nd2, nn2, fr2, off2⟩ := S'.last (by simp [l])
  obtain ⟨as', qm, m0, M1, ass2, m1, m2, m3, m4⟩ := main S s
  obtain ⟨o, σ', asx, assx, e4, rfl, ⟨v1, e5, q5, ob5⟩, _⟩ := q1
  cases e4
  cases e5
  have det : asx = as' := OwnT.det q5 qm
  subst det
  have hx : ∀ a ∈ as2, H a = none ∨ a ∈ as0 := fun a ha => (fr2 a ha).2
  refine M1.snoc m1 m2 m3 (e := .ot none t2) (o := some v2) ⟨v2, rfl, q2, fun _ a ha z => ?_, fun _ z => nomatch z⟩ nd2 (fun a ha => ⟨(fr2 a ha).1, (hx a ha).elim (fun z => .inl (none_of T.dom z)) fun z => (fr0 a z).2⟩) fun a ha z => ?_
  · rcases hx a ha with y | y
    · exact (T.nf a z).1 y
    · exact ob.1 rfl a y z
  · rcases m4 a z with y | y
    · exact off2 a ha (by simp [y])
    · rcases hx a ha with w | w
      · exact y.2 w
      · exact y.1 w
theorem Stt.call2 {v : V} {t : Tr} (T : Stt Z G F (σ ++ [some v]) H (ρ ++ [.ot none t])) (l : σ.length = ρ.length) : ∃ as, OwnT Z.K F H t v as ∧ as.Nodup ∧ (∀ a ∈ as, F a = none) ∧
    (∀ {F2 H2 : Hp} {τ : L2.St} {κ : Env'}, Stt Z ⟨H, as, fun a => nfOf F H a ∧ a ∉ as⟩ F2 τ H2 κ → FStep F H F2 H2 → Stt Z G F2 σ H2 ρ) ∧
    ∀ {F2 H2 : Hp} {τ : L2.St} {κ : Env'} {t2 : Tr} {v2 : V}, Stt Z ⟨H, as, fun a => nfOf F H a ∧ a ∉ as⟩ F2 (τ ++ [some v2]) H2 (κ ++ [.ot none t2]) → τ.length = κ.length → FStep F H F2 H2 → Stt Z G F2 (σ ++ [some v2]) H2 (ρ ++ [.ot none t2]) := by
  obtain ⟨a1, as, q1, n1, f1, q, nd, nn, fr, off⟩ := T.last l
  have hH : ∀ a ∈ a1.flatten, H a ≠ none := fun a ha => by
    obtain ⟨u, hu, _⟩ := q1.there a ha
    rw [hu]
    exact fun z => nomatch z
  have main : ∀ {F2 H2 : Hp} {τ : L2.St} {κ : Env'}, Stt Z ⟨H, as, fun a => nfOf F H a ∧ a ∉ as⟩ F2 τ H2 κ → FStep F H F2 H2 → Stt Z G F2 σ H2 ρ ∧ EntsOk Z G.nf F2 H2 ρ σ a1 ∧ ∀ a ∈ a1.flatten, F2 a = none := fun {F2 H2 τ κ} S s => by
    have o1 : ∀ a ∈ a1.flatten, F2 a = none := fun a ha => (S.nf a ⟨⟨hH a ha, (f1 a ha).1⟩, fun z => off a z ha⟩).2
    have qe : EntsOk Z G.nf F2 H2 ρ σ a1 := q1.grow s.fle fun b hb u e m => S.keep b u e (fun z => off b z hb) m
    refine ⟨⟨S.fle, S.fnt, fun b o e n m => S.keep b o (T.keep b o e n m) (fun z => ?_) m, fun a ha => ⟨s.dom a (T.nf a ha).1, (S.nf a ⟨T.nf a ha, fun z => nn a z ha⟩).2⟩, fun a ha => s.dom a (T.dom a ha), S.tabs, a1, qe, n1, fun a ha => ⟨o1 a ha, (f1 a ha).2⟩⟩, qe, o1⟩
    rcases (fr b z).2 with w | w
    · rw [w] at e; cases e
    · exact n w
  refine ⟨as, q, nd, fun a ha => (fr a ha).1, fun S s => (main S s).1, fun {F2 H2 τ κ t2 v2} S l2 s => ?_⟩
  obtain ⟨_, as2, _, _, _, q2, nd2, nn2, fr2, _⟩ := S.last l2
  obtain ⟨M1, M2, M3⟩ := main S s
  have hx : ∀ a ∈ as2, H a = none ∨ a ∈ as := fun a ha => (fr2 a ha).2
  refine M1.snoc M2 n1 (fun a ha => ⟨M3 a ha, (f1 a ha).2⟩) (e := .ot none t2) (o := some v2) ⟨v2, rfl, q2, fun _ a ha z => ?_, fun _ z => nomatch z⟩ nd2 (fun a ha => ⟨(fr2 a ha).1, ?_⟩) fun a ha z => ?_
  · rcases hx a ha with y | y
    · exact (T.nf a z).1 y
    · exact nn a y z
  · rcases hx a ha with y | y
    · exact .inl (none_of T.dom y)
    · exact (fr a y).2
  · rcases hx a ha with y | y
    · exact hH a z y
    · exact off a y z
end
/-! ### defs -/
/-- a promise over what the parameters hold: Q the results, R the exceptions -/
def SpE (Z : Zd) (S : List Ent → (Res → List Ent → Prop) → (Value → List (Str × D) → List Ent → Prop) → Prop) : Sp := fun vs H Q E => ∃ F es io nf, Stt Z ⟨H, io, nf⟩ F (vs.map some) H es ∧
  S es (fun r es' => ∀ v F' H', Stt Z ⟨H, io, nf⟩ F' (vs.map some) H' es' → FStep F H F' H' → ResOk Z ⟨H, io, nf⟩ F' (vs.map some) H' es' v r → Q v H')
    fun C fs es' => ∀ F' H' d, Stt Z ⟨H, io, nf⟩ F' (vs.map some) H' es' → FStep F H F' H' → XdOk Z.K F' H' fs d → E C d H'
/-- .. over frozen data -/
abbrev SpD := List D → (Res → Prop) → (Value → List (Str × D) → Prop) → Prop
def SpP (Z : Zd) (S : SpD) : Sp := SpE Z fun es Q R => ∃ ds, es = ds.map Ent.d ∧ S ds (fun r => Q r (ds.map Ent.d)) fun C fs => R C fs (ds.map Ent.d)
/-- a global def by its name: it keeps sp where there is room for k -/
structure Kn (Z : Zd) (k : Nat) (x : Str) (sp : Sp) : Prop where
  ex : ∃ f fd ps, Z.mg x = some (.ref f) ∧ PySem.W.keepIn Z.K (.ref f) = true ∧ Binds Z.K fd ps [] ∧ FnK Z.P Z.w Z.K Z.mg Z.base (L2.CX Z.P Z.w) k f fd ps sp
theorem un_ents {Z : Zd} {nf : Addr → Prop} {F H : Hp} : ∀ n : Nat, EntsOk Z nf F H (List.replicate n Ent.un) (List.replicate n none) (List.replicate n [])
  | 0 => ⟨rfl, rfl⟩
  | n + 1 => ⟨none, List.replicate n none, [], List.replicate n [], rfl, rfl, rfl, un_ents n⟩
/-- what the parameters hold at the end: frozen things stay, own things as the frame tells, given things are gone -/
inductive ParEnd : Env' → Env' → Env' → Prop
  | nil {ρ : Env'} : ParEnd [] ρ []
  | d {x : D} {e : Ent} {es ρ es' : Env'} : ParEnd es ρ es' → ParEnd (.d x :: es) (e :: ρ) (.d x :: es')
  | fn {k : Nat} {kp : Addr → Obj → Prop} {S : List D → (D → Prop) → Prop} {e : Ent} {es ρ es' : Env'} : ParEnd es ρ es' → ParEnd (.fn k kp S :: es) (e :: ρ) (.fn k kp S :: es')
  | ot {a : Addr} {t t' : Tr} {es ρ es' : Env'} : ParEnd es ρ es' → ParEnd (.ot (some a) t :: es) (.ot (some a) t' :: ρ) (.ot (some a) t' :: es')
  | gone {t : Tr} {e : Ent} {es ρ es' : Env'} : ParEnd es ρ es' → ParEnd (.ot none t :: es) (e :: ρ) (.un :: es')
theorem ParEnd.ds : ∀ (ds : List D) (ρ : Env'), ds.length ≤ ρ.length → ParEnd (ds.map Ent.d) ρ (ds.map Ent.d)
  | [], ρ, _ => .nil
  | y :: ds, [], h => by simp at h
  | y :: ds, e :: ρ, h => .d (ParEnd.ds ds ρ (by simpa using h))
theorem ParEnd.len {es ρ es' : Env'} (p : ParEnd es ρ es') : es'.length = es.length := by
  induction p <;> simp_all
theorem ParEnd.ents {Z : Zd} {nf : Addr → Prop} {F H F' H' : Hp} (l : FLe F F') {es ρ es' : Env'} (p : ParEnd es ρ es') : ∀ {τ σ' : L2.St} {bss ass : List (List Addr)}, EntsOk Z nf F H es τ bss → EntsOk Z nf F' H' ρ σ' ass → ass.flatten.Nodup →
    ∃ css, EntsOk Z nf F' H' es' τ css ∧ css.flatten.Nodup ∧ ∀ a ∈ css.flatten, a ∈ ass.flatten := by
  induction p with
  | nil => exact fun h1 h2 nd => ⟨[], ⟨h1.1, rfl⟩, by simp, by simp⟩
  | d p ih =>
    intro τ σ' bss ass h1 h2 nd
    obtain ⟨o, τ', as, bss', rfl, rfl, ⟨e1, v, rfl, q⟩, r⟩ := h1
    obtain ⟨o2, σ2, as2, ass2, rfl, rfl, q2, r2⟩ := h2
    obtain ⟨css, h, n, m⟩ := ih r r2 (List.nodup_append.mp (show (as2 ++ ass2.flatten).Nodup from nd)).2.1
    exact ⟨[] :: css, ⟨some v, τ', [], css, rfl, rfl, ⟨rfl, v, rfl, Den.mono l _ v q⟩, h⟩, by simpa using n, fun a ha => by
      simp only [List.flatten_cons, List.nil_append] at ha
      simp only [List.flatten_cons, List.mem_append]
      exact .inr (m a ha)⟩
  | fn p ih =>
    intro τ σ' bss ass h1 h2 nd
    obtain ⟨o, τ', as, bss', rfl, rfl, ⟨e1, f, rfl, q⟩, r⟩ := h1
    obtain ⟨o2, σ2, as2, ass2, rfl, rfl, q2, r2⟩ := h2
    obtain ⟨css, h, n, m⟩ := ih r r2 (List.nodup_append.mp (show (as2 ++ ass2.flatten).Nodup from nd)).2.1
    exact ⟨[] :: css, ⟨some (.ref f), τ', [], css, rfl, rfl, ⟨rfl, f, rfl, q.mono l⟩, h⟩, by simpa using n, fun a ha => by
      simp only [List.flatten_cons, List.nil_append] at ha
      simp only [List.flatten_cons, List.mem_append]
      exact .inr (m a ha)⟩
  | gone p ih =>
    intro τ σ' bss ass h1 h2 nd
    obtain ⟨o, τ', as, bss', rfl, rfl, _, r⟩ := h1
    obtain ⟨o2, σ2, as2, ass2, rfl, rfl, q2, r2⟩ := h2
    obtain ⟨css, h, n, m⟩ := ih r r2 (List.nodup_append.mp (show (as2 ++ ass2.flatten).Nodup from nd)).2.1
    exact ⟨[] :: css, ⟨o, τ', [], css, rfl, rfl, rfl, h⟩, by simpa using n, fun a ha => by
      simp only [List.flatten_cons, List.nil_append] at ha
      simp only [List.flatten_cons, List.mem_append]
      exact .inr (m a ha)⟩
  | ot p ih =>
    intro τ σ' bss ass h1 h2 nd
    obtain ⟨o, τ', as, bss', rfl, rfl, ⟨v1, rfl, _, b1⟩, r⟩ := h1
    obtain ⟨o2, σ2, as2, ass2, rfl, rfl, ⟨v2, rfl, hT, b2⟩, r2⟩ := h2
    have e1 := b1.2 _ rfl
    have e2 := b2.2 _ rfl
    subst e1
    subst e2
    obtain ⟨n1, n2, n3⟩ := List.nodup_append.mp (show (as2 ++ ass2.flatten).Nodup from nd)
    obtain ⟨css, h, n, m⟩ := ih r r2 n2
    exact ⟨as2 :: css, ⟨_, τ', as2, css, rfl, rfl, ⟨_, rfl, hT, b2⟩, h⟩, List.nodup_append.mpr ⟨n1, n, fun x hx y hy => n3 x hx y (m y hy)⟩, fun a ha => by
      simp only [List.flatten_cons, List.mem_append] at ha ⊢
      exact ha.imp id (m a)⟩
/-- a def by its body -/
theorem kn_of {Z : Zd} {x qual : Str} {params : Arguments} {body : List Stmt} {scope : Scope} {kws : List (Str × V)} {dvs : List V} {f : Addr} {fd : FuncData} {N ps : List Str} {k : Nat} {Sd : List Ent → (Res → List Ent → Prop) → (Value → List (Str × D) → List Ent → Prop) → Prop}
    (F : FunD Z.K x qual params body scope dvs kws f fd) (S : FnScope N ps scope) (len : ∀ es Q R, Sd es Q R → es.length = ps.length) (hpn : ps.length ≤ N.length) {mkr : Option (Str × Addr)} (hmk : ∀ p, mkr = some p → p.1 = qual ++ ".<locals>." ∧ fd.code = .ref p.2)
    (hb : ∀ E es Q R, Sd es Q R → EsX ⟨Z, N, scope, fun _ => true, k, E, fun _ _ => False, mkr⟩ body (es ++ List.replicate (N.length - es.length) .un) (fun o => match o with
      | .rt (.d r) ρ => ∃ es', ParEnd es ρ es' ∧ Q (.d r) es'
      | .rt (.fr t) ρ => ∃ es', ParEnd es ρ es' ∧ Q (.fr t) es'
      | .nx ρ => ∃ es', ParEnd es ρ es' ∧ Q (.d .non) es'
      | .rz C fs ρ => ∃ es', ParEnd es ρ es' ∧ R C fs es'
      | _ => False)) : FnK Z.P Z.w Z.K Z.mg Z.base (L2.CX Z.P Z.w) (k + 1) f fd ps (SpE Z Sd) := by
  refine fnK_of F S (fun vs H Q E h => ?_) fun cdv A outer s H vs Q E hc hr h => ?_
  · obtain ⟨F0, es, io, nf, S0, hs⟩ := h
    have := S0.len
    simp only [List.length_map] at this
    rw [this]
    exact len _ _ _ hs
  · obtain ⟨F0, es, io, nf, S0, hs⟩ := h
    have hE := hb E es _ _ hs
    have hl := len _ _ _ hs
    refine ⟨tSs ⟨Z, N, scope, fun _ => true, k, E, fun _ _ => False, mkr⟩ body, pss_tSs (c := ⟨Z, N, scope, fun _ => true, k, E, fun _ _ => False, mkr⟩) (X := cxOf (L2.CX Z.P Z.w) Z.P Z.w Z.K Z.mg Z.base N qual scope f cdv A outer s H E) ⟨rfl, rfl, rfl, rfl, rfl, rfl, rfl, rfl, rfl, PassesOwn.leaving, takes_of rfl rfl rfl rfl, hr, (fun _ _ h => h.elim), fun p z => ⟨(hmk p z).1.symm, hc.symm.trans (hmk p z).2⟩⟩ body, ?_⟩
    obtain ⟨bss, q0, nd0, fr0⟩ := S0.ents
    have lv : vs.length = es.length := by
      have := S0.len
      simpa using this
    have S1 : Stt Z ⟨H, io, nf⟩ F0 (L2.start N vs) H (es ++ List.replicate (N.length - es.length) .un) := by
      refine ⟨S0.fle, S0.fnt, S0.keep, S0.nf, S0.dom, S0.tabs, _, by unfold L2.start; rw [lv]; exact q0.app (un_ents _), ?_, ?_⟩
      · simpa using nd0
      · simpa using fr0
    have fin : ∀ {F' H' : Hp} {σ' : L2.St} {ρ' es' : Env'} , Stt Z ⟨H, io, nf⟩ F' σ' H' ρ' → FStep F0 H F' H' → ParEnd es ρ' es' → Stt Z ⟨H, io, nf⟩ F' (vs.map some) H' es' := fun {F' H' σ' ρ' es'} S' s p => by
      obtain ⟨ass, q, nd, fr⟩ := S'.ents
      obtain ⟨css, h, n, m⟩ := p.ents s.fle q0 q nd
      exact ⟨S'.fle, S'.fnt, S'.keep, S'.nf, S'.dom, S'.tabs, css, h, n, fun a ha => fr a (m a ha)⟩
    have finF : ∀ {F' H' : Hp} {σ' : L2.St} {ρ' es' : Env'} {v : V} {t : Tr}, Stt Z ⟨H, io, nf⟩ F' σ' H' ρ' → Stt Z ⟨H, io, nf⟩ F' (σ' ++ [some v]) H' (ρ' ++ [.ot none t]) → FStep F0 H F' H' → ParEnd es ρ' es' → Stt Z ⟨H, io, nf⟩ F' (vs.map some ++ [some v]) H' (es' ++ [.ot none t]) := fun {F' H' σ' ρ' es' v t} Sa S' s p => by
      obtain ⟨a1, as, q, nd, fr, qt, ndt, nn, frt, off⟩ := S'.last Sa.len
      obtain ⟨css, h, n, m⟩ := p.ents s.fle q0 q nd
      exact (fin Sa s p).snoc h n (fun a ha => fr a (m a ha)) ⟨v, rfl, qt, fun _ => nn, fun _ z => nomatch z⟩ ndt frt fun a ha z => off a ha (m a z)
    refine hE ⟨H, io, nf⟩ F0 _ H _ S1 fun o p => ?_
    cases o with
    | nx ρ' =>
      obtain ⟨es', p1, p2⟩ := p
      exact fun F' σ' H' S' s => p2 .non F' H' (fin S' s p1) s rfl
    | rt r ρ' =>
      cases r with
      | d x =>
        obtain ⟨es', p1, p2⟩ := p
        exact fun F' σ' H' v S' s q => p2 v F' H' (fin S' s p1) s q
      | fr t =>
        obtain ⟨es', p1, p2⟩ := p
        exact fun F' σ' H' v S' s q => p2 v F' H' (fin S' s p1) s (finF S' q s p1)
      | sub i p' => exact p.elim
    | rz C fs ρ' =>
      obtain ⟨es', p1, p2⟩ := p
      exact fun F' σ' H' d S' s q => p2 F' H' d (fin S' s p1) s q
    | bk ρ' => exact p.elim
    | ct ρ' => exact p.elim
/-- a def of frozen data by its body -/
theorem kn_ofP {Z : Zd} {x qual : Str} {params : Arguments} {body : List Stmt} {scope : Scope} {kws : List (Str × V)} {dvs : List V} {f : Addr} {fd : FuncData} {N ps : List Str} {k : Nat} {Sd : SpD}
    (F : FunD Z.K x qual params body scope dvs kws f fd) (S : FnScope N ps scope) (len : ∀ ds Q R, Sd ds Q R → ds.length = ps.length) (hpn : ps.length ≤ N.length) {mkr : Option (Str × Addr)} (hmk : ∀ p, mkr = some p → p.1 = qual ++ ".<locals>." ∧ fd.code = .ref p.2)
    (hb : ∀ E ds Q R, Sd ds Q R → EsX ⟨Z, N, scope, fun _ => true, k, E, fun _ _ => False, mkr⟩ body (ds.map Ent.d ++ List.replicate (N.length - ds.length) .un) (fun o => match o with
      | .rt (.d r) ρ => Q (.d r) ∧ ds.length ≤ ρ.length
      | .rt (.fr t) ρ => Q (.fr t) ∧ ds.length ≤ ρ.length
      | .nx ρ => Q (.d .non) ∧ ds.length ≤ ρ.length
      | .rz C fs ρ => R C fs ∧ ds.length ≤ ρ.length
      | _ => False)) : FnK Z.P Z.w Z.K Z.mg Z.base (L2.CX Z.P Z.w) (k + 1) f fd ps (SpP Z Sd) := by
  refine kn_of F S (fun es Q R h => ?_) hpn hmk fun E es Q R h => ?_
  · obtain ⟨ds, rfl, h⟩ := h
    rw [List.length_map]
    exact len ds _ _ h
  · obtain ⟨ds, rfl, h⟩ := h
    have e := hb E ds _ _ h
    rw [List.length_map]
    refine e.imp fun o p => ?_
    cases o with
    | nx ρ' => exact ⟨_, ParEnd.ds ds ρ' p.2, p.1⟩
    | rt r ρ' =>
      cases r with
      | d x => exact ⟨_, ParEnd.ds ds ρ' p.2, p.1⟩
      | fr t => exact ⟨_, ParEnd.ds ds ρ' p.2, p.1⟩
      | sub i p' => exact p.elim
    | rz C fs ρ' => exact ⟨_, ParEnd.ds ds ρ' p.2, p.1⟩
    | bk ρ' => exact p.elim
    | ct ρ' => exact p.elim
end
end Fw

set_option Elab.async false
set_option maxRecDepth 100000
set_option maxHeartbeats 4000000
/-! Fw7: temporaries, freezing, moving, lending; pure evaluation; calls of defs. -/
namespace Fw
open PySem PySem.Spec PyProof.Rows L2
section
variable {Z : Zd} {G : Gd} {F H F2 H2 : Hp} {σ τ σ2 : L2.St} {ρ κ ρ2 : Env'}
/-- temporaries are held while something else is asked -/
theorem Stt.hold (T : Stt Z G F (σ ++ τ) H (ρ ++ κ)) (l : σ.length = ρ.length) : ∃ io nf, Stt Z ⟨H, io, nf⟩ F σ H ρ ∧
    ∀ {F2 H2 : Hp} {σ2 : L2.St} {ρ2 : Env'}, Stt Z ⟨H, io, nf⟩ F2 σ2 H2 ρ2 → FStep F H F2 H2 → Stt Z G F2 (σ2 ++ τ) H2 (ρ2 ++ κ) := by
  obtain ⟨ass, q, nd, fr⟩ := T.ents
  obtain ⟨a1, a2, rfl, q1, q2⟩ := q.split l
  rw [List.flatten_append] at nd fr
  obtain ⟨n1, n2, n3⟩ := List.nodup_append.mp nd
  have f1 : ∀ a ∈ a1.flatten, F a = none ∧ (G.H0 a = none ∨ a ∈ G.io) := fun a ha => fr a (List.mem_append_left _ ha)
  have f2 : ∀ a ∈ a2.flatten, F a = none ∧ (G.H0 a = none ∨ a ∈ G.io) := fun a ha => fr a (List.mem_append_right _ ha)
  have hH : ∀ a ∈ a2.flatten, H a ≠ none := fun a ha => by
    obtain ⟨u, hu, _⟩ := q2.there a ha
    rw [hu]
    exact fun z => nomatch z
  refine ⟨a1.flatten, fun a => G.nf a ∨ a ∈ a2.flatten, ⟨T.fle, T.fnt, fun b o e _ _ => e, fun a ha => ?_, fun a h => h, T.tabs, a1, q1.less (fun a ha z => ?_), n1, fun a ha => ⟨(f1 a ha).1, .inr ha⟩⟩, fun {F2 H2 σ2 ρ2} S s => ?_⟩
  · rcases ha with z | z
    · exact T.nf a z
    · exact ⟨hH a z, (f2 a z).1⟩
  · rcases z with z | z
    · exact z
    · exact absurd rfl (n3 a ha a z)
  · obtain ⟨a3, q3, n4, f3⟩ := S.ents
    have f3' : ∀ a ∈ a3.flatten, F2 a = none ∧ (H a = none ∨ a ∈ a1.flatten) := f3
    refine ⟨S.fle, S.fnt, fun b o e n m => S.keep b o (T.keep b o e n m) (fun z => ?_) m, fun a ha => S.nf a (.inl ha), fun a ha => S.dom a (T.dom a ha), S.tabs, a3 ++ a2, (q3.less fun a _ z => .inl z).app (q2.grow s.fle fun b hb u e m => S.keep b u e (fun z => n3 b z b hb rfl) m), ?_, fun a ha => ?_⟩
    · rcases (f1 b z).2 with w | w
      · rw [w] at e; cases e
      · exact n w
    · rw [List.flatten_append]
      refine List.nodup_append.mpr ⟨n4, n2, fun a ha b hb e => ?_⟩
      subst e
      rcases (f3' a ha).2 with z | z
      · exact hH a hb z
      · exact n3 a z a hb rfl
    · rw [List.flatten_append] at ha
      rcases List.mem_append.mp ha with z | z
      · refine ⟨(f3' a z).1, ?_⟩
        rcases (f3' a z).2 with w | w
        · exact .inl (none_of T.dom w)
        · exact (f1 a w).2
      · exact ⟨(S.nf a (.inr z)).2, (f2 a z).2⟩
/-- a temporary is frozen -/
def frz (F H : Hp) (as : List Addr) : Hp := fun b => if b ∈ as then H b else F b
theorem frz_in {as : List Addr} {b : Addr} (h : b ∈ as) : frz F H as b = H b := if_pos h
theorem frz_out {as : List Addr} {b : Addr} (h : b ∉ as) : frz F H as b = F b := if_neg h
theorem frz_fle {as : List Addr} (h : ∀ a ∈ as, F a = none) : FLe F (frz F H as) := fun b o e => by
  rw [frz_out (fun z => by rw [h b z] at e; cases e)]
  exact e
theorem frz_le {as : List Addr} (l : FLe F H) : FLe (frz F H as) H := fun b o e => by
  by_cases z : b ∈ as
  · rw [frz_in z] at e; exact e
  · rw [frz_out z] at e; exact l b o e
theorem frz_nt {as : List Addr} (h : ∀ b o, F b = some o → NT o) (k : ∀ b ∈ as, ∃ u, H b = some u ∧ Nd u) : ∀ b o, frz F H as b = some o → NT o := fun b o e => by
  by_cases z : b ∈ as
  · rw [frz_in z] at e
    obtain ⟨u, hu, m⟩ := k b z
    rw [hu] at e
    cases e
    exact m.nt
  · rw [frz_out z] at e; exact h b o e
theorem Stt.freezeT {v : V} {t : Tr} (S : Stt Z G F (σ ++ [some v]) H (ρ ++ [.ot none t])) (l : σ.length = ρ.length) (w : t.whole = true) : ∃ F', FLe F F' ∧ Stt Z G F' σ H ρ ∧ Den Z.K F' t.toD v := by
  obtain ⟨a1, as, q1, n1, f1, q, nd, nn, fr, off⟩ := S.last l
  have fl := frz_fle (F := F) (H := H) fun a ha => (fr a ha).1
  refine ⟨frz F H as, fl, ⟨frz_le S.fle, frz_nt S.fnt (q.there _), S.keep, fun a ha => ⟨(S.nf a ha).1, ?_⟩, S.dom, S.tabs, a1, q1.grow fl fun b _ u e _ => e, n1, fun a ha => ⟨?_, (f1 a ha).2⟩⟩, q.den fl t w fun a ha o e => by rw [frz_in ha]; exact e⟩
  · rw [frz_out (fun z => nn a z ha)]; exact (S.nf a ha).2
  · rw [frz_out (fun z => off a z ha)]; exact (f1 a ha).1
/-- a slot's own thing is frozen -/
theorem Stt.freeze (S : Stt Z G F σ H ρ) {i : Nat} {t : Tr} (hi : ρ[i]? = some (.ot none t)) (w : t.whole = true) : ∃ F', FLe F F' ∧ Stt Z G F' σ H (ρ.set i (.d t.toD)) := by
  obtain ⟨o0, as0, cs, e1, ⟨v0, rfl, q, ob⟩, nd0, fr0, _, _, _, mk⟩ := S.nil.slot S.len hi
  have fl := frz_fle (F := F) (H := H) fun a ha => (fr0 a ha).1
  refine ⟨frz F H as0, fl, ?_⟩
  have M := (mk (e := .d t.toD) (o := some v0) (as := []) fl (frz_le S.fle) (frz_nt S.fnt (q.there _)) (fun b hb _ => ?_) (fun _ z => by cases z) (fun a ha => ?_) (fun x _ _ u hu _ => hu) (fun x hx => hx) S.tabs ⟨rfl, v0, rfl, q.den fl t w fun a ha o e => by rw [frz_in ha]; exact e⟩ List.nodup_nil (fun _ z => by cases z)).1
  · rw [st_self e1] at M
    exact M
  · by_cases z : b ∈ as0
    · exact .inr (.inl z)
    · exact .inl (by rw [frz_out z]; exact hb)
  · rw [frz_out (fun z => ob.1 rfl a z ha)]; exact (S.nf a ha).2
/-- a slot's own thing is taken out of it -/
theorem Stt.take (S : Stt Z G F σ H ρ) {i : Nat} {t : Tr} (hi : ρ[i]? = some (.ot none t)) : ∃ v, σ[i]? = some (some v) ∧ Stt Z G F (σ ++ [some v]) H (ρ.set i .un ++ [.ot none t]) := by
  obtain ⟨ass, q, nd, fr⟩ := S.ents
  obtain ⟨o, as, e1, e2, v, rfl, qt, ob⟩ := q.at hi
  have e3 : EntsOk Z G.nf F H (ρ.set i .un) σ (ass.set i []) := by
    have := q.set i (e := .un) (o := some v) (as := []) rfl
    rw [st_self e1] at this
    exact this
  have sub : ∀ a ∈ (ass.set i []).flatten, a ∈ ass.flatten := fun a ha => by
    rcases flat_set_sub ha with z | z
    · cases z
    · exact z
  have S1 : Stt Z G F σ H (ρ.set i .un) := by
    have := S.drop (i := i) (o := some v)
    rw [st_self e1] at this
    exact this
  obtain ⟨p, q', rfl, rfl⟩ := flat_split e2
  rw [set_split] at e3 sub
  simp only [List.flatten_append, List.flatten_cons] at nd
  obtain ⟨n1, n2, n3⟩ := List.nodup_append.mp nd
  obtain ⟨n4, n5, n6⟩ := List.nodup_append.mp n2
  refine ⟨v, e1, S1.snoc e3 ?_ (fun a ha => fr a (sub a ha)) ⟨v, rfl, qt, ob⟩ n4 (fun a ha => fr a (mem_flat e2 ha)) fun a ha z => ?_⟩
  · simp only [List.flatten_append, List.flatten_cons, List.nil_append]
    exact List.nodup_append.mpr ⟨n1, n5, fun a ha b hb => n3 a ha b (List.mem_append_right _ hb)⟩
  · simp only [List.flatten_append, List.flatten_cons, List.nil_append, List.mem_append] at z
    rcases z with z | z
    · exact n3 a z a (List.mem_append_left _ ha) rfl
    · exact n6 a ha a z rfl
/-- a temporary goes into a slot -/
theorem Stt.giveSlot {v : V} {t : Tr} (S : Stt Z G F (σ ++ [some v]) H (ρ ++ [.ot none t])) (l : σ.length = ρ.length) {i : Nat} (hi : i < ρ.length) : Stt Z G F (σ.set i (some v)) H (ρ.set i (.ot none t)) := by
  obtain ⟨o0, as0, cs, e1, e3, nd0, fr0, ⟨bss, hb1, hb2⟩, ncs, fcs, mk⟩ := S.slot l (List.getElem?_eq_getElem hi)
  obtain ⟨a1, as, q1, n1, f1, q, nd, nn, fr, off⟩ := S.last l
  obtain ⟨o, σ', bs, bss', ee, rfl, ⟨v1, ee2, q3, ob⟩, q4⟩ := hb1
  cases ee
  cases ee2
  obtain ⟨_, rfl⟩ := q4
  have ec : cs = bs := by rw [hb2]; simp
  subst ec
  have := OwnT.det q q3
  subst this
  exact (mk (e := .ot none t) (o := some v) (as := as) (.refl F) S.fle S.fnt (fun b hb _ => .inl hb) (fun a ha => (fr a ha).1) (fun a ha => (S.nf a ha).2) (fun x _ _ u hu _ => hu) (fun x hx => hx) S.tabs ⟨v, rfl, q, fun _ => nn, fun _ z => nomatch z⟩ nd fun x hx => .inr (.inl hx)).1
/-- a new thing -/
theorem Stt.newT {p : Addr} {o : HO} {t : Tr} (S : Stt Z G F σ H ρ) (n : H p = none) (h : OwnT Z.K F (upd H p o) t (.ref p) [p]) : Stt Z G F (σ ++ [some (.ref p)]) (upd H p o) (ρ ++ [.ot none t]) := by
  have fn := S.fle.none n
  have g : Grow Z F H F (upd H p o) := ⟨fun b u e _ => by rw [upd_ne (ne_of_none e n)]; exact e, .refl F, fun b u e => by rw [upd_ne (ne_of_none (S.fle b u e) n)]; exact S.fle b u e, fun _ _ e => e, fun a h => upd_dom h, (fun h => h.ext fun b u e => by rw [upd_ne (ne_of_none e n)]; exact e), fun h => h⟩
  obtain ⟨ass, q, nd, fr⟩ := S.ents
  refine (S.grow g).snoc (q.grow (.refl F) fun b _ u e m => g.same b u e m) nd fr (e := .ot none t) (o := some (.ref p)) ⟨_, rfl, h, fun _ a ha z => ?_, fun _ z => nomatch z⟩ (by simp) (fun a ha => ?_) fun a ha z => ?_
  · rw [List.mem_singleton.mp ha] at z; exact (S.nf p z).1 n
  · rw [List.mem_singleton.mp ha]; exact ⟨fn, .inl (none_of S.dom n)⟩
  · rw [List.mem_singleton.mp ha] at z
    obtain ⟨u, hu, _⟩ := q.there p z
    rw [n] at hu
    cases hu
/-! ### lending -/
mutual
/-- data without lists, dicts, objects -/
def D.bare : D → Bool
  | .tup ds => bares ds
  | .tun ds => bares ds
  | .lst _ => false
  | .scr _ => false
  | .dic _ _ => false
  | .obj _ _ _ => false
  | .exc _ _ => false
  | _ => true
def bares : List D → Bool
  | [] => true
  | d :: ds => d.bare && bares ds
end
section
variable {K : PySem.W.Frag}
mutual
theorem Den.bare (k : ∀ a o, F a = some o → (∀ xs, o ≠ .lst xs) → (∀ xs, o ≠ .dK xs) → (∀ C dx gs, o ≠ .ins C dx gs) → F2 a = some o) : ∀ (d : D) {v : V}, d.bare = true → Den K F d v → Den K F2 d v
  | .non, _, _, h => h
  | .bl _, _, _, h => h
  | .int _, _, _, h => h
  | .str _, _, _, h => h
  | .ty _, _, _, h => h
  | .cls _, _, _, h => h
  | .ptr _, _, _, h => h
  | .tun ds, v, b, h => by
    obtain ⟨a, vs, e, ⟨o, q, n⟩, r⟩ := h
    exact ⟨a, vs, e, ⟨o, k a _ q (fun _ z => nomatch z) (fun _ z => nomatch z) (fun _ _ _ z => nomatch z), n⟩, Den.bares k ds b r⟩
  | .tup ds, v, b, h => by
    obtain ⟨a, vs, e, q, r⟩ := h
    refine ⟨a, vs, e, ?_, Den.bares k ds b r⟩
    rcases q with (q | ⟨o, q⟩) | q
    · exact .inl (.inl (k a _ q (fun _ z => nomatch z) (fun _ z => nomatch z) fun _ _ _ z => nomatch z))
    · exact .inl (.inr ⟨o, k a _ q (fun _ z => nomatch z) (fun _ z => nomatch z) fun _ _ _ z => nomatch z⟩)
    · exact .inr q
  | .lst _, _, b, _ => by cases b
  | .scr _, _, b, _ => by cases b
  | .dic _ _, _, b, _ => by cases b
  | .obj _ _ _, _, b, _ => by cases b
  | .exc _ _, _, b, _ => by cases b
theorem Den.bares (k : ∀ a o, F a = some o → (∀ xs, o ≠ .lst xs) → (∀ xs, o ≠ .dK xs) → (∀ C dx gs, o ≠ .ins C dx gs) → F2 a = some o) : ∀ (ds : List D) {vs : List V}, Fw.bares ds = true → DenAll K F ds vs → DenAll K F2 ds vs
  | [], _, _, h => h
  | d :: ds, vs, b, h => by
    obtain ⟨v, vs', e, q, r⟩ := h
    have b : (d.bare && Fw.bares ds) = true := b
    rw [Bool.and_eq_true] at b
    exact ⟨v, vs', e, Den.bare k d b.1 q, Den.bares k ds b.2 r⟩
end
end
/-- own things seen as data; hidden -/
def lendT : Ent → Ent
  | .ot _ t => if t.whole then .d t.toD else .un
  | e => e
def hideT : Ent → Ent
  | .ot _ _ => .un
  | e => e
def lend (ρ : Env') : Env' := ρ.map lendT
def hide (ρ : Env') : Env' := ρ.map hideT
end
end Fw

set_option Elab.async false
set_option maxRecDepth 100000
set_option maxHeartbeats 4000000
/-! Fw8: lending, pure evaluation, paths, calls of defs. -/
namespace Fw
open PySem PySem.Spec PyProof.Rows L2
section
variable {Z : Zd} {G : Gd} {F H F2 H2 : Hp} {σ τ σ2 : L2.St} {ρ κ ρ2 : Env'}
theorem Stt.lend (S : Stt Z G F σ H ρ) : ∃ F1, FLe F F1 ∧ Stt Z ⟨H, [], nfOf F1 H⟩ F1 σ H (lend ρ) ∧
    ∀ {F2 H2 : Hp} {σ2 : L2.St} {ρ2 : Env'}, Stt Z ⟨H, [], nfOf F1 H⟩ F2 σ2 H2 ρ2 → FStep F1 H F2 H2 → ∃ F3, Grow Z F H F3 H2 ∧ ∀ (z : D) v, z.bare = true → Den Z.K F2 z v → Den Z.K F3 z v := by
  obtain ⟨ass, q, nd, fr⟩ := S.ents
  have fl := frz_fle (F := F) (H := H) fun a ha => (fr a ha).1
  have hH : ∀ a ∈ ass.flatten, H a ≠ none := fun a ha => by
    obtain ⟨u, hu, _⟩ := q.there a ha
    rw [hu]
    exact fun z => nomatch z
  have go : ∀ {ρ : Env'} {σ : L2.St} {as : List (List Addr)}, EntsOk Z G.nf F H ρ σ as → (∀ a ∈ as.flatten, a ∈ ass.flatten) → EntsOk Z (nfOf (frz F H ass.flatten) H) (frz F H ass.flatten) H (Fw.lend ρ) σ (List.replicate ρ.length []) := by
    intro ρ
    induction ρ with
    | nil => intro σ as h _; exact ⟨h.1, rfl⟩
    | cons e ρ ih =>
      intro σ as h k
      obtain ⟨o, σ', bs, as', rfl, rfl, q, r⟩ := h
      refine ⟨o, σ', [], List.replicate ρ.length [], rfl, rfl, ?_, ih r fun a ha => k a (by simp only [List.flatten_cons, List.mem_append]; exact .inr ha)⟩
      cases e with
      | un => exact rfl
      | d x => exact ⟨rfl, q.2.imp fun v h => ⟨h.1, Den.mono fl x v h.2⟩⟩
      | fn k kp S => exact ⟨rfl, q.2.imp fun v h => ⟨h.1, h.2.mono fl⟩⟩
      | ot b t =>
        show EntOk _ _ _ _ (if t.whole then .d t.toD else .un) _ _
        by_cases w : t.whole = true
        · rw [if_pos w]
          obtain ⟨v, rfl, qt, _⟩ := q
          exact ⟨rfl, v, rfl, qt.den fl t w fun a ha o e => by rw [frz_in (k a (by simp [ha]))]; exact e⟩
        · rw [if_neg w]
          exact rfl
  refine ⟨frz F H ass.flatten, fl, ⟨frz_le S.fle, frz_nt S.fnt q.there, fun b o e _ _ => e, fun a h => h, fun a h => h, S.tabs, _, go q fun a h => h, by simp, by simp⟩, fun {F2 H2 σ2 ρ2} S2 s => ?_⟩
  have g := fun b o (e : H b = some o) n => S2.keep b o e (by simp) n
  refine ⟨fun b => if b ∈ ass.flatten then none else F2 b, ⟨g, fun b o e => ?_, fun b o e => ?_, fun a h e => ?_, s.dom, (fun _ => S2.tabs), fun _ b o e => ?_⟩, fun z v hb hz => ?_⟩
  · have hb : b ∉ ass.flatten := fun z => by rw [(fr b z).1] at e; cases e
    show (if b ∈ ass.flatten then none else F2 b) = _
    rw [if_neg hb]
    exact s.fle b o (fl b o e)
  · by_cases hb : b ∈ ass.flatten
    · have e : (if b ∈ ass.flatten then none else F2 b) = some o := e
      rw [if_pos hb] at e
      cases e
    · have e : (if b ∈ ass.flatten then none else F2 b) = some o := e
      rw [if_neg hb] at e
      exact S2.fle b o e
  · show (if a ∈ ass.flatten then none else F2 a) = _
    by_cases hb : a ∈ ass.flatten
    · rw [if_pos hb]
    · rw [if_neg hb]
      exact (S2.nf a ⟨h, by rw [frz_out hb]; exact e⟩).2
  · by_cases hb : b ∈ ass.flatten
    · have e : (if b ∈ ass.flatten then none else F2 b) = some o := e
      rw [if_pos hb] at e
      cases e
    · have e : (if b ∈ ass.flatten then none else F2 b) = some o := e
      rw [if_neg hb] at e
      exact S2.fnt b o e
  · refine Den.bare (fun a o e n1 n2 n3 => ?_) z hb hz
    have ha : a ∉ ass.flatten := fun hm => by
      obtain ⟨u, hu, k⟩ := q.there a hm
      have e2 := S2.fle a o e
      rw [g a u hu k.nt] at e2
      cases e2
      cases k with
      | lst => exact n1 _ rfl
      | dK => exact n2 _ rfl
      | ins => exact n3 _ _ _ rfl
    show (if a ∈ ass.flatten then none else F2 a) = _
    rw [if_neg ha]
    exact e
theorem Stt.hide (S : Stt Z G F σ H ρ) : Stt Z ⟨H, [], nfOf F H⟩ F σ H (hide ρ) := by
  obtain ⟨ass, q, nd, fr⟩ := S.ents
  have go : ∀ {ρ : Env'} {σ : L2.St} {as : List (List Addr)}, EntsOk Z G.nf F H ρ σ as → EntsOk Z (nfOf F H) F H (Fw.hide ρ) σ (List.replicate ρ.length []) := by
    intro ρ
    induction ρ with
    | nil => intro σ as h; exact ⟨h.1, rfl⟩
    | cons e ρ ih =>
      intro σ as h
      obtain ⟨o, σ', bs, as', rfl, rfl, q, r⟩ := h
      refine ⟨o, σ', [], List.replicate ρ.length [], rfl, rfl, ?_, ih r⟩
      cases e with
      | un => exact rfl
      | d x => exact ⟨rfl, q.2⟩
      | fn k kp S => exact ⟨rfl, q.2⟩
      | ot b t => exact rfl
  exact ⟨S.fle, S.fnt, fun b o e _ _ => e, fun a h => h, fun a h => h, S.tabs, _, go q, by simp, by simp⟩
end
/-- a pure expression's frozen data -/
def PuX (c : CD) (e : Expr) (ρ : Env') (x : D) : Prop := ∀ G F σ H Q, Stt c.z G F σ H ρ → (∀ v F' H', Grow c.z F H F' H' → Den c.K F' x v → Q v H') → tE c e σ H Q
section
variable {c : CD} {vis loc : List Nat} {gl : List Str} {ρ ρ1 ρ2 : Env'}
theorem Pu_hide {e : Expr} {x : D} (h : EvX c e (hide ρ) (.d x) ρ2) : PuX c e ρ x := fun G F σ H Q T k =>
  h _ F σ H Q T.hide fun v F' H' S' s q => k v F' H' (grow_of S' s) q
theorem Pu_lend {e : Expr} {x : D} (h : EvX c e (lend ρ) (.d x) ρ2) (hb : x.bare = true) : PuX c e ρ x := fun G F σ H Q T k => by
  obtain ⟨F1, l, T1, bk⟩ := T.lend
  refine h _ F1 σ H Q T1 fun v F' H' S' s q => ?_
  obtain ⟨F3, g, d⟩ := bk S' s
  exact k v F3 H' g (d x v hb q)
theorem E_pu {e : Expr} {x : D} (h : PuX c e ρ x) : EvX c e ρ (.d x) ρ := fun G F σ H Q T k => h G F σ H Q T fun v F' H' g q => k v F' H' (T.grow g) g.step q
theorem T_lend {e : Expr} {b : Bool} (h : EtX c e (lend ρ) b ρ2) : EtX c e ρ b ρ := fun G F σ H Q T k => by
  obtain ⟨F1, l, T1, bk⟩ := T.lend
  refine h _ F1 σ H Q T1 fun F' H' S' s => ?_
  obtain ⟨F3, g, _⟩ := bk S' s
  exact k F3 H' (T.grow g) g.step
/-- a path expression: the node p of slot i, nothing changed -/
def PaX (c : CD) (e : Expr) (ρ : Env') (i : Nat) (p : List Pst) : Prop := ∀ G F σ H Q, Stt c.z G F σ H ρ → (∀ v v0 F' H', Grow c.z F H F' H' → σ[i]? = some (some v0) → fol H' v0 p = some v → Q v H') → tE c e σ H Q
theorem P_name (S : ScOk c vis loc gl) {x : Str} {pos : Pos} (i : Nat) {b : Option Addr} {t : Tr} (hr : ρ[i]? = some (.ot b t)) (hN : c.N[i]? = some x) (hi : vis.contains i = true) : PaX c (.Name x pos) ρ i [] := fun G F σ H Q T k => by
  obtain ⟨h1, h2, h3⟩ := S.visOf hi hN
  obtain ⟨v0, w, bs, e, ew, _⟩ := T.node0 hr (p := []) rfl
  exact ⟨tVar i, fun X ok => pe_var (by rw [ok.N]; exact hN) (by rw [ok.sc]; exact h1) h2 h3, v0, e, k v0 v0 F H (.refl T.fle) e rfl⟩
theorem E_pa {e : Expr} {i : Nat} {p : List Pst} (h : PaX c e ρ i p) : EvX c e ρ (.sub i p) ρ := fun G F σ H Q T k => h G F σ H Q T fun v v0 F' H' g e f => k v F' H' (T.grow g) g.step ⟨v0, e, f⟩
theorem fol_app {H : Hp} : ∀ {p : List Pst} {v w : V} {s : Pst}, fol H v p = some w → fol H v (p ++ [s]) = fol H w [s]
  | [], v, w, s, h => by cases h; rfl
  | u :: p, v, w, s, h => by
    cases v with
    | ref a =>
      unfold fol at h
      cases e : fol1 H a u with
      | none => rw [e] at h; cases h
      | some x =>
        rw [e] at h
        rw [List.cons_append, show fol H (.ref a) (u :: (p ++ [s])) = (fol1 H a u).bind fun w => fol H w (p ++ [s]) from rfl, e]
        exact fol_app (p := p) (v := x) h
    | _ => cases h
/-- a[b], a a path, the item an own thing -/
theorem P_ix {a b : Expr} {pos : Pos} {i j : Nat} {p : List Pst} {bb : Option Addr} {t n : Tr} {ts : List Tr} {m : Int} (ha : PaX c a ρ i p) (hb : PuX c b ρ (.int m)) (hr : ρ[i]? = some (.ot bb t)) (hp : t.get p = some (.l ts)) (hj : ixN ts.length m = some j) (hn : ts[j]? = some n) (hs : PlainIx b) :
    PaX c (.Subscript a b pos) ρ i (p ++ [.ix j]) := fun G F σ H Q T k => by
  refine ⟨tOp (rJ c) (tE c a) (tE c b), fun X ok => pe_ix (rJ_ok ok) (pe_tE ok a) (pe_tE ok b) hs, ?_⟩
  refine ha G F σ H _ T fun vx v0 F1 H1 g1 e1 f1 => hb G F1 σ H1 _ (T.grow g1) fun vy F2 H2 g2 q2 => ?_
  have T2 := (T.grow g1).grow g2
  obtain ⟨v1, w, bs, e2, f2, ⟨ad, vs, cs, rfl, _, ha2, hts⟩, _⟩ := T2.node0 hr hp
  rw [e1] at e2
  cases e2
  have f1' := fol.mono (H' := H2) (fun a o e m => g2.same a o e m) f1
  rw [f1'] at f2
  cases f2
  have q2 : vy = .int m := q2
  subst q2
  obtain ⟨u, _, _, _, ev, _⟩ := OwnTs.kid hts hn
  have hl : vs.length = ts.length := by
    have go : ∀ {ts : List Tr} {vs : List V} {as : List Addr}, OwnTs c.z.K F2 H2 ts vs as → vs.length = ts.length := by
      intro ts
      induction ts with
      | nil => intro vs as h; rw [h.1]; rfl
      | cons t ts ih =>
        intro vs as h
        obtain ⟨_, _, _, _, rfl, _, _, r⟩ := h
        simp [ih r]
    exact go hts
  refine ⟨rIx c.K, fun X ok => by have := ix_seq (X := X); rw [ok.K] at this; exact this, .inl ⟨ad, vs, m, u, rfl, rfl, SqL.of ha2, ?_, k u v0 F2 H2 (g1.trans g2) e1 ?_⟩⟩
  · unfold atI
    rw [hl, hj]
    exact ev
  · rw [fol_app f1']
    unfold fol fol1
    rw [ha2]
    show (vs[j]?).bind _ = _
    rw [ev]
    rfl
/-- o.f, o a path, the field an own thing -/
theorem P_fld {a : Expr} {f : Str} {pos : Pos} {i : Nat} {p : List Pst} {bb : Option Addr} {t n : Tr} {C : Addr} {nm : List Str} {fts : List (Str × Tr)} (ha : PaX c a ρ i p) (hr : ρ[i]? = some (.ot bb t)) (hp : t.get p = some (.o C nm fts)) (hn : getFd f fts = some n) (hc : Cls c.K C) (hA : NoAttr c.K C f)
    (hb : ∀ X : Cx, attributeBase a f X.env (eval a X.env) = eval a X.env) : PaX c (.Attribute a f pos) ρ i (p ++ [.fd f]) := fun G F σ H Q T k => by
  refine ⟨tFld c.K (tE c a) f, fun X ok => by have := pe_fld (pos := pos) (pe_tE ok a) (hb X); rw [ok.K] at this; exact this, ha G F σ H _ T fun vx v0 F1 H1 g1 e1 f1 => ?_⟩
  obtain ⟨v1, w, bs, e2, f2, ⟨ad, dx, gs, cs, rfl, _, ha2, _, hts⟩, _⟩ := (T.grow g1).node0 hr hp
  rw [e1] at e2
  cases e2
  rw [f1] at f2
  cases f2
  obtain ⟨u, _, _, _, ev, _⟩ := OwnFs.kid hts hn
  refine ⟨ad, C, dx, gs, u, rfl, ha2, hc, hA, ev, k u v0 F1 H1 g1 e1 ?_⟩
  rw [fol_app f1]
  unfold fol fol1
  rw [ha2]
  show (gs.lookup f).bind _ = _
  rw [ev]
  rfl
/-- o.f, o an own object, the field frozen data -/
theorem E_fldO {a : Expr} {f : Str} {pos : Pos} {i : Nat} {p : List Pst} {bb : Option Addr} {t : Tr} {C : Addr} {nm : List Str} {fts : List (Str × Tr)} {x : D} (ha : PaX c a ρ i p) (hr : ρ[i]? = some (.ot bb t)) (hp : t.get p = some (.o C nm fts)) (hn : getFd f fts = some (.d x)) (hc : Cls c.K C) (hA : NoAttr c.K C f)
    (hb : ∀ X : Cx, attributeBase a f X.env (eval a X.env) = eval a X.env) : PuX c (.Attribute a f pos) ρ x := fun G F σ H Q T k => by
  refine ⟨tFld c.K (tE c a) f, fun X ok => by have := pe_fld (pos := pos) (pe_tE ok a) (hb X); rw [ok.K] at this; exact this, ha G F σ H _ T fun vx v0 F1 H1 g1 e1 f1 => ?_⟩
  obtain ⟨v1, w, bs, e2, f2, ⟨ad, dx, gs, cs, rfl, _, ha2, _, hts⟩, _⟩ := (T.grow g1).node0 hr hp
  rw [e1] at e2
  cases e2
  rw [f1] at f2
  cases f2
  obtain ⟨u, _, _, _, ev, _, hu, _⟩ := OwnFs.kid hts hn
  exact ⟨ad, C, dx, gs, u, rfl, ha2, hc, hA, ev, k u F1 H1 g1 hu.2⟩
/-- a[b], a an own list of own things, the item frozen data -/
theorem E_ixO {a b : Expr} {pos : Pos} {i j : Nat} {p : List Pst} {bb : Option Addr} {t : Tr} {ts : List Tr} {m : Int} {x : D} (ha : PaX c a ρ i p) (hb : PuX c b ρ (.int m)) (hr : ρ[i]? = some (.ot bb t)) (hp : t.get p = some (.l ts)) (hj : ixN ts.length m = some j) (hn : ts[j]? = some (.d x)) (hs : PlainIx b) :
    PuX c (.Subscript a b pos) ρ x := fun G F σ H Q T k => by
  refine ⟨tOp (rJ c) (tE c a) (tE c b), fun X ok => pe_ix (rJ_ok ok) (pe_tE ok a) (pe_tE ok b) hs, ?_⟩
  refine ha G F σ H _ T fun vx v0 F1 H1 g1 e1 f1 => hb G F1 σ H1 _ (T.grow g1) fun vy F2 H2 g2 q2 => ?_
  obtain ⟨v1, w, bs, e2, f2, ⟨ad, vs, cs, rfl, _, ha2, hts⟩, _⟩ := ((T.grow g1).grow g2).node0 hr hp
  rw [e1] at e2
  cases e2
  have f1' := fol.mono (H' := H2) (fun a o e m => g2.same a o e m) f1
  rw [f1'] at f2
  cases f2
  have q2 : vy = .int m := q2
  subst q2
  obtain ⟨u, _, _, _, ev, _, hu, _⟩ := OwnTs.kid hts hn
  have hl : vs.length = ts.length := by
    have go : ∀ {ts : List Tr} {vs : List V} {as : List Addr}, OwnTs c.z.K F2 H2 ts vs as → vs.length = ts.length := by
      intro ts
      induction ts with
      | nil => intro vs as h; rw [h.1]; rfl
      | cons t ts ih =>
        intro vs as h
        obtain ⟨_, _, _, _, rfl, _, _, r⟩ := h
        simp [ih r]
    exact go hts
  refine ⟨rIx c.K, fun X ok => by have := ix_seq (X := X); rw [ok.K] at this; exact this, .inl ⟨ad, vs, m, u, rfl, rfl, SqL.of ha2, ?_, k u F2 H2 (g1.trans g2) hu.2⟩⟩
  unfold atI
  rw [hl, hj]
  exact ev
/-- the item of an own flat list -/
theorem E_ixF {a b : Expr} {pos : Pos} {i : Nat} {p : List Pst} {bb : Option Addr} {t : Tr} {ds : List D} {m : Int} {x : D} (ha : PaX c a ρ i p) (hb : PuX c b ρ (.int m)) (hr : ρ[i]? = some (.ot bb t)) (hp : t.get p = some (.fl ds)) (hn : atI ds m = some x) (hs : PlainIx b) :
    PuX c (.Subscript a b pos) ρ x := fun G F σ H Q T k => by
  refine ⟨tOp (rJ c) (tE c a) (tE c b), fun X ok => pe_ix (rJ_ok ok) (pe_tE ok a) (pe_tE ok b) hs, ?_⟩
  refine ha G F σ H _ T fun vx v0 F1 H1 g1 e1 f1 => hb G F1 σ H1 _ (T.grow g1) fun vy F2 H2 g2 q2 => ?_
  obtain ⟨v1, w, bs, e2, f2, ⟨ad, vs, rfl, _, ha2, hts⟩, _⟩ := ((T.grow g1).grow g2).node0 hr hp
  rw [e1] at e2
  cases e2
  have f1' := fol.mono (H' := H2) (fun a o e m => g2.same a o e m) f1
  rw [f1'] at f2
  cases f2
  exact i_seq (c := c) (ds := ds) (i := m) (x := .lst ds) (z := x) rfl hn F2 H2 _ vy Q (((T.grow g1).grow g2).fle) ⟨ad, vs, rfl, ha2, hts⟩ (.of_den ((T.grow g1).grow g2).fle q2) fun v F3 H3 g q => k v F3 H3 ((g1.trans g2).trans g) q
/-- freezing a new thing, taking a slot's -/
theorem E_frz {e : Expr} {t : Tr} (h : EvX c e ρ (.fr t) ρ1) (w : t.whole = true) (hl : ρ1.length = ρ.length) : EvX c e ρ (.d t.toD) ρ1 := fun G F σ H Q T k => h G F σ H Q T fun v F' H' S s q => by
  obtain ⟨F2, l, S2, d⟩ := Stt.freezeT q (by rw [T.len, hl]) w
  exact k v F2 H' S2 (s.trans ⟨l, fun _ h => h⟩) d
theorem E_take {e : Expr} {t : Tr} {i : Nat} (h : EvX c e ρ (.sub i []) ρ1) (hr : ρ1[i]? = some (.ot none t)) : EvX c e ρ (.fr t) (ρ1.set i .un) := fun G F σ H Q T k => h G F σ H Q T fun v F' H' S s q => by
  obtain ⟨v0, e0, f0⟩ := q
  obtain ⟨v1, e1, S2⟩ := S.take hr
  cases f0
  rw [e0] at e1
  cases e1
  exact k v F' H' (by
    have := S.drop (i := i) (o := some v)
    rw [st_self e0] at this
    exact this) s S2
end
/-- what a def gave back, for the caller -/
def Res.ret : Res → Bool
  | .sub _ _ => false
  | _ => true
theorem back0 {Z : Zd} {G : Gd} {F H F2 H2 : Hp} {σ τ : L2.St} {ρ κ : Env'} {v : V} (T : Stt Z G F σ H ρ) (l : τ.length = κ.length) (s : FStep F H F2 H2) : ∀ {r : Res}, r.ret = true → ResOk Z ⟨H, [], nfOf F H⟩ F2 τ H2 κ v r → ResOk Z G F2 σ H2 ρ v r
  | .d x, _, h => h
  | .fr t, _, h => T.call0 h l s
section
variable {c : CD} {vis loc : List Nat} {gl : List Str} {ρ ρ1 ρ2 : Env'}
/-- frozen arguments as a frame of their own -/
theorem stt_args {Z : Zd} {G : Gd} {F H : Hp} {σ : L2.St} {ds : List D} {vs : List V} (T : Stt Z G F σ H ρ) (hd : DenAll Z.K F ds vs) : Stt Z ⟨H, [], nfOf F H⟩ F (vs.map some) H (ds.map Ent.d) := by
  have go : ∀ (ds : List D) (vs : List V), DenAll Z.K F ds vs → EntsOk Z (nfOf F H) F H (ds.map Ent.d) (vs.map some) (List.replicate ds.length []) := by
    intro ds
    induction ds with
    | nil => intro vs h; rw [show vs = [] from h]; exact ⟨rfl, rfl⟩
    | cons d ds ih =>
      intro vs h
      obtain ⟨v, vs', rfl, q, r⟩ := h
      exact ⟨some v, vs'.map some, [], List.replicate ds.length [], rfl, rfl, ⟨rfl, v, rfl, q⟩, ih vs' r⟩
  exact ⟨T.fle, T.fnt, fun b o e _ _ => e, fun a h => h, fun a h => h, T.tabs, _, go ds vs hd, by simp, by simp⟩
theorem spP_run {Z : Zd} {G : Gd} {F H : Hp} {σ : L2.St} {ds : List D} {vs : List V} {r : Res} {Sd : SpD} {Q : VK} {E : XK} (T : Stt Z G F σ H ρ) (hd : DenAll Z.K F ds vs) (hr : r.ret = true) (hS : ∀ Q R, Q r → Sd ds Q R)
    (k : ∀ v F' H', Grow Z F H F' H' → ResOk Z G F' σ H' ρ v r → Q v H') : SpP Z Sd vs H Q E :=
  ⟨F, ds.map Ent.d, [], nfOf F H, stt_args T hd, ds, rfl, hS _ _ fun v F' H' S' s q => k v F' H' (grow_of S' s) (back0 T S'.len s hr q)⟩
theorem spP_runX {Z : Zd} {G : Gd} {F H : Hp} {σ : L2.St} {ds : List D} {vs : List V} {C : Value} {fs : List (Str × D)} {Sd : SpD} {Q : VK} {E : XK} (T : Stt Z G F σ H ρ) (hd : DenAll Z.K F ds vs) (hS : ∀ Q R, R C fs → Sd ds Q R)
    (k : ∀ F' H' d, Grow Z F H F' H' → XdOk Z.K F' H' fs d → E C d H') : SpP Z Sd vs H Q E :=
  ⟨F, ds.map Ent.d, [], nfOf F H, stt_args T hd, ds, rfl, hS _ _ fun F' H' d S' s q => k F' H' d (grow_of S' s) q⟩
theorem CD.Ok.pass {X : Cx} (ok : c.Ok X) : Passes (L2.CX X.prog X.w) X c.E := passes_call ok.tk fun _ _ _ _ h => h
/-- an expression that raises -/
def ErX (c : CD) (e : Expr) (ρ : Env') (C : Value) (fs : List (Str × D)) (ρ' : Env') : Prop := ∀ G F σ H Q, Stt c.z G F σ H ρ → (∀ F' H' d, Stt c.z G F' σ H' ρ' → FStep F H F' H' → XdOk c.K F' H' fs d → c.E C d H') → tE c e σ H Q
theorem call_pe {X : Cx} (ok : c.Ok X) (S : ScOk c vis loc gl) {j : Nat} {x : Str} {p pos : Pos} {e : Expr} {es : List Expr} {sp : Sp} {f : Addr} {fd : FuncData} {ps : List Str} (hm : c.mg x = some (.ref f)) (hk : PySem.W.keepIn c.K (.ref f) = true) (hb : Binds c.K fd ps []) (hF : FnK c.P c.w c.K c.mg c.base (L2.CX c.P c.w) j f fd ps sp) (hj : j ≤ c.k) (hx : x ∈ gl)
    (he : ∀ X : Cx, starEach (e :: es) X.env = (false, eval e X.env) :: starEach es X.env) (hpl : ∀ X : Cx, (backTo pos (starEach es X.env)).any (·.1) = false) : PE X (.Call (.Name x p) (e :: es) [] pos) (tCall sp [] c.E (tA c (e :: es))) := by
  have hF' : FnK X.prog X.w X.K X.mg X.base (L2.CX X.prog X.w) j f fd ps sp := by rw [ok.P, ok.w, ok.K, ok.mg, ok.base]; exact hF
  exact pk_call hF' (ok.room.mono hj) (ok.glOf S hx) (by rw [ok.mg]; exact hm) (by rw [ok.K]; exact hk) (by rw [ok.K]; exact hb) .nil ok.pass (pa_tA ok _) (S.glOf hx).2.1 (he X) (hpl X)
theorem E_call (S : ScOk c vis loc gl) {j : Nat} {x : Str} {p pos : Pos} {e : Expr} {es : List Expr} {ds : List D} {r : Res} {Sd : SpD} (F : Kn c.z j x (SpP c.z Sd)) (hj : j ≤ c.k) (ha : EaX c (e :: es) ρ (ds.map Res.d) ρ1)
    (hS : ∀ Q R, Q r → Sd ds Q R) (hx : x ∈ gl) (he : ∀ X : Cx, starEach (e :: es) X.env = (false, eval e X.env) :: starEach es X.env) (hpl : ∀ X : Cx, (backTo pos (starEach es X.env)).any (·.1) = false) (hr : r.ret = true := by rfl) : EvX c (.Call (.Name x p) (e :: es) [] pos) ρ r ρ1 := fun G F0 σ H Q T k => by
  obtain ⟨f, fd, ps, hm, hk, hb, hF⟩ := F.ex
  refine ⟨tCall (SpP c.z Sd) [] c.E (tA c (e :: es)), fun X ok => call_pe ok S hm hk hb hF hj hx he hpl, ha G F0 σ H _ T fun vs F1 H1 T1 s1 l q => ?_⟩
  rw [List.append_nil]
  exact spP_run T1 (denAll_of l q) hr hS fun v F2 H2 g q2 => k v F2 H2 (T1.grow g) (s1.trans g.step) q2
theorem E_callR (S : ScOk c vis loc gl) {j : Nat} {x : Str} {p pos : Pos} {e : Expr} {es : List Expr} {ds : List D} {C : Value} {fs : List (Str × D)} {Sd : SpD} (F : Kn c.z j x (SpP c.z Sd)) (hj : j ≤ c.k) (ha : EaX c (e :: es) ρ (ds.map Res.d) ρ1)
    (hS : ∀ Q R, R C fs → Sd ds Q R) (hx : x ∈ gl) (he : ∀ X : Cx, starEach (e :: es) X.env = (false, eval e X.env) :: starEach es X.env) (hpl : ∀ X : Cx, (backTo pos (starEach es X.env)).any (·.1) = false) : ErX c (.Call (.Name x p) (e :: es) [] pos) ρ C fs ρ1 := fun G F0 σ H Q T k => by
  obtain ⟨f, fd, ps, hm, hk, hb, hF⟩ := F.ex
  refine ⟨tCall (SpP c.z Sd) [] c.E (tA c (e :: es)), fun X ok => call_pe ok S hm hk hb hF hj hx he hpl, ha G F0 σ H _ T fun vs F1 H1 T1 s1 l q => ?_⟩
  rw [List.append_nil]
  exact spP_runX T1 (denAll_of l q) hS fun F2 H2 d g q2 => k F2 H2 d (T1.grow g) (s1.trans g.step) q2
theorem E_call0 (S : ScOk c vis loc gl) {j : Nat} {x : Str} {p pos : Pos} {r : Res} {Sd : SpD} (F : Kn c.z j x (SpP c.z Sd)) (hj : j ≤ c.k) (hS : ∀ Q R, Q r → Sd [] Q R) (hx : x ∈ gl) (hr : r.ret = true := by rfl) : EvX c (.Call (.Name x p) [] [] pos) ρ r ρ := fun G F0 σ H Q T k => by
  obtain ⟨f, fd, ps, hm, hk, hb, hF⟩ := F.ex
  refine ⟨tCall (SpP c.z Sd) [] c.E tNil, fun X ok => ?_, spP_run (E := c.E) (ds := []) (vs := []) T rfl hr hS fun v F2 H2 g q2 => k v F2 H2 (T.grow g) g.step q2⟩
  have hF' : FnK X.prog X.w X.K X.mg X.base (L2.CX X.prog X.w) j f fd ps (SpP c.z Sd) := by rw [ok.P, ok.w, ok.K, ok.mg, ok.base]; exact hF
  exact pk_call0 hF' (ok.room.mono hj) (ok.glOf S hx) (by rw [ok.mg]; exact hm) (by rw [ok.K]; exact hk) (by rw [ok.K]; exact hb) .nil ok.pass (S.glOf hx).2.1
/-- trees that are things -/
def Tr.isN : Tr → Bool
  | .d _ => false
  | _ => true
theorem OwnT.ref {K : PySem.W.Frag} {F H : Hp} : ∀ {t : Tr} {v : V} {as : List Addr}, t.isN = true → OwnT K F H t v as → ∃ a, v = .ref a
  | .d _, _, _, e, _ => by cases e
  | .fl _, _, _, _, h => by obtain ⟨a, _, e, _⟩ := h; exact ⟨a, e⟩
  | .fm _, _, _, _, h => by obtain ⟨a, _, e, _⟩ := h; exact ⟨a, e⟩
  | .l _, _, _, _, h => by obtain ⟨a, _, _, e, _⟩ := h; exact ⟨a, e⟩
  | .m _, _, _, _, h => by obtain ⟨a, _, _, e, _⟩ := h; exact ⟨a, e⟩
  | .o _ _ _, _, _, _, h => by obtain ⟨a, _, _, _, e, _⟩ := h; exact ⟨a, e⟩
  | .hole _, _, _, _, h => ⟨_, h.1⟩
/-- a def that gets an own thing first -/
theorem E_callM (S : ScOk c vis loc gl) {j i : Nat} {x : Str} {p pos : Pos} {e : Expr} {es : List Expr} {b : Option Addr} {t t' : Tr} {xs : List D} {r : Res} {Sd : List Ent → (Res → List Ent → Prop) → (Value → List (Str × D) → List Ent → Prop) → Prop} (F : Kn c.z j x (SpE c.z Sd)) (hj : j ≤ c.k) (ha : EaX c (e :: es) ρ (.sub i [] :: xs.map Res.d) ρ1)
    (hi : ρ1[i]? = some (.ot b t)) (hS : ∀ (a : Addr) Q R, Q r (.ot (some a) t' :: xs.map Ent.d) → Sd (.ot (some a) t :: xs.map Ent.d) Q R) (hx : x ∈ gl)
    (he : ∀ X : Cx, starEach (e :: es) X.env = (false, eval e X.env) :: starEach es X.env) (hpl : ∀ X : Cx, (backTo pos (starEach es X.env)).any (·.1) = false) (hr : r.ret = true := by rfl) (hn : t.isN = true := by rfl) : EvX c (.Call (.Name x p) (e :: es) [] pos) ρ r (ρ1.set i (.ot b t')) := fun G F0 σ H Q T k => by
  obtain ⟨f, fd, ps, hm, hk, hb, hF⟩ := F.ex
  refine ⟨tCall (SpE c.z Sd) [] c.E (tA c (e :: es)), fun X ok => call_pe ok S hm hk hb hF hj hx he hpl, ha G F0 σ H _ T fun vs F1 H1 T1 s1 l q => ?_⟩
  rw [List.append_nil]
  cases vs with
  | nil => simp at l
  | cons v0 vs =>
    have q0 : ∃ u, σ[i]? = some (some u) ∧ fol H1 u [] = some v0 := q 0 v0 _ rfl rfl
    obtain ⟨u, q0, e0⟩ := q0
    cases e0
    have hd : DenAll c.z.K F1 xs vs := denAll_of (ρ := ρ1) (G := G) (σ := σ) (H := H1) (by simpa using l) fun n w r e1 e2 => q (n + 1) w r (by simpa using e1) (by simpa using e2)
    obtain ⟨w0, as0, e1, qt, nd0, fr0, back, backF⟩ := T1.call1 hi
    rw [q0] at e1
    cases e1
    obtain ⟨a, rfl⟩ := OwnT.ref hn qt
    have A := stt_args T1 hd
    obtain ⟨bss, qa, nda, fra⟩ := A.ents
    have fl : bss.flatten = [] := by
      cases z : bss.flatten with
      | nil => rfl
      | cons y ys =>
        have := fra y (by rw [z]; exact List.mem_cons_self)
        obtain ⟨u, hu, _⟩ := qa.there y (by rw [z]; exact List.mem_cons_self)
        rcases this.2 with w | w
        · rw [show H1 y = none from w] at hu; cases hu
        · cases w
    have S1 : Stt c.z ⟨H1, as0, fun a => nfOf F1 H1 a ∧ a ∉ as0⟩ F1 ((V.ref a :: vs).map some) H1 (.ot (some a) t :: xs.map Ent.d) :=
      ⟨T1.fle, T1.fnt, fun b o e _ _ => e, fun b h => h.1, fun b h => h, T1.tabs, as0 :: bss, ⟨_, vs.map some, as0, bss, rfl, rfl, ⟨_, rfl, qt, ⟨fun _ a ha z => z.2 ha, fun y z => by cases z; rfl⟩⟩, qa.less fun a ha _ => by rw [fl] at ha; cases ha⟩, by simpa [fl] using nd0, fun y hy => by
        simp only [List.flatten_cons, fl, List.append_nil] at hy
        exact ⟨fr0 y hy, .inr hy⟩⟩
    refine ⟨F1, _, as0, _, S1, hS a _ _ fun v F2 H2 S2 s2 q2 => k v F2 H2 (back S2 s2) (s1.trans s2) ?_⟩
    cases r with
    | d z => exact q2
    | fr t2 => exact backF q2 (by simpa using A.len) s2
    | sub i p => cases hr
/-- arguments, the first a new thing -/
def EaF (c : CD) (es : List Expr) (ρ : Env') (t : Tr) (xs : List D) (ρ' : Env') : Prop := ∀ G F σ H Q, Stt c.z G F σ H ρ →
  (∀ v vs F' H', Stt c.z G F' (σ ++ [some v]) H' (ρ' ++ [.ot none t]) → Stt c.z G F' σ H' ρ' → FStep F H F' H' → DenAll c.K F' xs vs → Q (v :: vs) H') → tA c es σ H Q
theorem A_consF {e : Expr} {es : List Expr} {t : Tr} {xs : List D} (h : EvX c e ρ (.fr t) ρ1) (h' : EaX c es ρ1 (xs.map Res.d) ρ2) (hs : ∀ X : Cx, starEach (e :: es) X.env = (false, eval e X.env) :: starEach es X.env) (hl : ρ1.length = ρ.length) : EaF c (e :: es) ρ t xs ρ2 := fun G F σ H Q T k =>
  ⟨tCons (tE c e) (tA c es), fun X ok => pa_cons (pe_tE ok e) (pa_tA ok es) (hs X), h G F σ H _ T fun v F1 H1 T1 s1 q1 => by
    obtain ⟨io, nf, T1', bk⟩ := Stt.hold q1 (by rw [T.len, hl])
    refine h' _ F1 σ H1 _ T1' fun vs F2 H2 T2 s2 l q2 => ?_
    have T3 := bk T2 s2
    exact k v vs F2 H2 T3 (T3.drops T2.len) (s1.trans s2) (denAll_of l q2)⟩
/-- a def that is given a new thing first -/
theorem E_callF (S : ScOk c vis loc gl) {j : Nat} {x : Str} {p pos : Pos} {e : Expr} {es : List Expr} {t : Tr} {xs : List D} {r : Res} {Sd : List Ent → (Res → List Ent → Prop) → (Value → List (Str × D) → List Ent → Prop) → Prop} (F : Kn c.z j x (SpE c.z Sd)) (hj : j ≤ c.k) (ha : EaF c (e :: es) ρ t xs ρ1)
    (hS : ∀ (Q : Res → List Ent → Prop) R, (∀ es', es'.length = xs.length + 1 → Q r es') → Sd (.ot none t :: xs.map Ent.d) Q R) (hx : x ∈ gl)
    (he : ∀ X : Cx, starEach (e :: es) X.env = (false, eval e X.env) :: starEach es X.env) (hpl : ∀ X : Cx, (backTo pos (starEach es X.env)).any (·.1) = false) (hr : r.ret = true := by rfl) (hn : t.isN = true := by rfl) : EvX c (.Call (.Name x p) (e :: es) [] pos) ρ r ρ1 := fun G F0 σ H Q T k => by
  obtain ⟨f, fd, ps, hm, hk, hb, hF⟩ := F.ex
  refine ⟨tCall (SpE c.z Sd) [] c.E (tA c (e :: es)), fun X ok => call_pe ok S hm hk hb hF hj hx he hpl, ha G F0 σ H _ T fun v vs F1 H1 T1 T1' s1 hd => ?_⟩
  rw [List.append_nil]
  obtain ⟨as0, qt, nd0, fr0, back, backF⟩ := T1.call2 T1'.len
  have A := stt_args T1' hd
  obtain ⟨bss, qa, nda, fra⟩ := A.ents
  have fl : bss.flatten = [] := by
    cases z : bss.flatten with
    | nil => rfl
    | cons y ys =>
      have := fra y (by rw [z]; exact List.mem_cons_self)
      obtain ⟨u, hu, _⟩ := qa.there y (by rw [z]; exact List.mem_cons_self)
      rcases this.2 with w | w
      · rw [show H1 y = none from w] at hu; cases hu
      · cases w
  have S1 : Stt c.z ⟨H1, as0, fun a => nfOf F1 H1 a ∧ a ∉ as0⟩ F1 ((v :: vs).map some) H1 (.ot none t :: xs.map Ent.d) :=
    ⟨T1.fle, T1.fnt, fun b o e _ _ => e, fun b h => h.1, fun b h => h, T1.tabs, as0 :: bss, ⟨_, vs.map some, as0, bss, rfl, rfl, ⟨_, rfl, qt, ⟨fun _ a ha z => z.2 ha, fun y z => nomatch z⟩⟩, qa.less fun a ha _ => by rw [fl] at ha; cases ha⟩, by simpa [fl] using nd0, fun y hy => by
      simp only [List.flatten_cons, fl, List.append_nil] at hy
      exact ⟨fr0 y hy, .inr hy⟩⟩
  refine ⟨F1, _, as0, _, S1, hS _ _ fun es' hl' v2 F2 H2 S2 s2 q2 => k v2 F2 H2 (back S2 s2) (s1.trans s2) ?_⟩
  have la : vs.length = xs.length := hd.length
  cases r with
  | d z => exact q2
  | fr t2 => exact backF q2 (by simp [la, hl']) s2
  | sub i p => cases hr
/-! ### pure arguments -/
def PusX (c : CD) (es : List Expr) (ρ : Env') (xs : List D) : Prop := ∀ G F σ H Q, Stt c.z G F σ H ρ → (∀ vs F' H', Grow c.z F H F' H' → DenAll c.K F' xs vs → Q vs H') → tA c es σ H Q
theorem Pus_nil : PusX c [] ρ [] := fun G F σ H Q T k => ⟨tNil, fun X ok => pa_nil, k [] F H (.refl T.fle) rfl⟩
theorem Pus_cons {e : Expr} {es : List Expr} {x : D} {xs : List D} (h : PuX c e ρ x) (h' : PusX c es ρ xs) (hs : ∀ X : Cx, starEach (e :: es) X.env = (false, eval e X.env) :: starEach es X.env) : PusX c (e :: es) ρ (x :: xs) := fun G F σ H Q T k =>
  ⟨tCons (tE c e) (tA c es), fun X ok => pa_cons (pe_tE ok e) (pa_tA ok es) (hs X), h G F σ H _ T fun v F1 H1 g1 q1 => h' G F1 σ H1 _ (T.grow g1) fun vs F2 H2 g2 q2 => k (v :: vs) F2 H2 (g1.trans g2) ⟨v, vs, rfl, Den.mono g2.fle _ _ q1, q2⟩⟩
/-! ### methods -/
structure KnM (Z : Zd) (k : Nat) (C : Addr) (m : Str) (sp : Sp) : Prop where
  cls : Cls Z.K C
  ex : ∃ f fd ps, Meth Z.K C m f ∧ Binds Z.K fd ps [] ∧ FnK Z.P Z.w Z.K Z.mg Z.base (L2.CX Z.P Z.w) k f fd ps sp
theorem meth_pe {X : Cx} (ok : c.Ok X) {j : Nat} {pl : Sem Bool} {C : Addr} {m : Str} {o : Expr} {apos pos : Pos} {e : Expr} {es : List Expr} {sp : Sp} {f : Addr} {fd : FuncData} {ps : List Str} (hc : Cls c.K C) (hm : Meth c.K C m f) (hb : Binds c.K fd ps []) (hF : FnK c.P c.w c.K c.mg c.base (L2.CX c.P c.w) j f fd ps sp) (hj : j ≤ c.k)
    (hst : ∀ X : Cx, starEach (e :: es) X.env = (false, eval e X.env) :: starEach es X.env) (hpl : ∀ X : Cx, (backTo pos (starEach es X.env)).any (·.1) = false)
    (ht : ∀ X : Cx, eval (.Call (.Attribute o m apos) (e :: es) [] pos) X.env = (eval o X.env >>= fun ov => standAt apos.atName >>= fun _ => holding [ov] (getMethod ov m pl) >>= fun q => callWith pos q.1 q.2 (backTo pos (starEach (e :: es) X.env)) (backToKw pos (keywordEach [] X.env)))) :
    PE X (.Call (.Attribute o m apos) (e :: es) [] pos) (tMeth C m sp [] c.E (tE c o) (tA c (e :: es))) := by
  have hF' : FnK X.prog X.w X.K X.mg X.base (L2.CX X.prog X.w) j f fd ps sp := by rw [ok.P, ok.w, ok.K, ok.mg, ok.base]; exact hF
  exact pk_meth (pl := pl) (pe_tE ok o) (by rw [ok.K]; exact hc) (by rw [ok.K]; exact hm) hF' (ok.room.mono hj) (by rw [ok.K]; exact hb) .nil ok.pass (pa_tA ok _) (hst X) (hpl X) (ht X)
theorem meth_pe0 {X : Cx} (ok : c.Ok X) {j : Nat} {pl : Sem Bool} {C : Addr} {m : Str} {o : Expr} {apos pos : Pos} {sp : Sp} {f : Addr} {fd : FuncData} {ps : List Str} (hc : Cls c.K C) (hm : Meth c.K C m f) (hb : Binds c.K fd ps []) (hF : FnK c.P c.w c.K c.mg c.base (L2.CX c.P c.w) j f fd ps sp) (hj : j ≤ c.k)
    (ht : ∀ X : Cx, eval (.Call (.Attribute o m apos) [] [] pos) X.env = (eval o X.env >>= fun ov => standAt apos.atName >>= fun _ => holding [ov] (getMethod ov m pl) >>= fun q => callWith pos q.1 q.2 (backTo pos (starEach [] X.env)) (backToKw pos (keywordEach [] X.env)))) :
    PE X (.Call (.Attribute o m apos) [] [] pos) (tMeth C m sp [] c.E (tE c o) tNil) := by
  have hF' : FnK X.prog X.w X.K X.mg X.base (L2.CX X.prog X.w) j f fd ps sp := by rw [ok.P, ok.w, ok.K, ok.mg, ok.base]; exact hF
  exact pk_meth0 (pl := pl) (pe_tE ok o) (by rw [ok.K]; exact hc) (by rw [ok.K]; exact hm) hF' (ok.room.mono hj) (by rw [ok.K]; exact hb) .nil ok.pass (ht X)
theorem E_meth {j : Nat} {pl : Sem Bool} {C : Addr} {m : Str} {o : Expr} {apos pos : Pos} {e : Expr} {es : List Expr} {nm : List Str} {fs : List (Str × D)} {ds : List D} {r : Res} {Sd : SpD} (F : KnM c.z j C m (SpP c.z Sd)) (hj : j ≤ c.k)
    (ho : EvX c o ρ (.d (.obj C nm fs)) ρ1) (hn : nm.contains m = false) (ha : EaX c (e :: es) ρ1 (ds.map Res.d) ρ2) (hS : ∀ Q R, Q r → Sd (.obj C nm fs :: ds) Q R)
    (hst : ∀ X : Cx, starEach (e :: es) X.env = (false, eval e X.env) :: starEach es X.env) (hpl : ∀ X : Cx, (backTo pos (starEach es X.env)).any (·.1) = false)
    (ht : ∀ X : Cx, eval (.Call (.Attribute o m apos) (e :: es) [] pos) X.env = (eval o X.env >>= fun ov => standAt apos.atName >>= fun _ => holding [ov] (getMethod ov m pl) >>= fun q => callWith pos q.1 q.2 (backTo pos (starEach (e :: es) X.env)) (backToKw pos (keywordEach [] X.env)))) (hr : r.ret = true := by rfl) :
    EvX c (.Call (.Attribute o m apos) (e :: es) [] pos) ρ r ρ2 := fun G F0 σ H Q T k => by
  obtain ⟨f, fd, ps, hm, hb, hF⟩ := F.ex
  refine ⟨tMeth C m (SpP c.z Sd) [] c.E (tE c o) (tA c (e :: es)), fun X ok => meth_pe ok F.cls hm hb hF hj hst hpl ht, ho G F0 σ H _ T fun x F1 H1 T1 s1 q1 => ?_⟩
  obtain ⟨a, dx, gs, rfl, ea, na, fa⟩ := id q1
  refine ⟨a, dx, gs, rfl, T1.fle.eq ea, na m hn, ha G F1 σ H1 _ T1 fun vs F2 H2 T2 s2 l q => ?_⟩
  rw [List.append_nil]
  exact spP_run (ds := .obj C nm fs :: ds) T2 ⟨_, vs, rfl, Den.mono s2.fle _ _ q1, denAll_of l q⟩ hr hS fun v F3 H3 g q3 => k v F3 H3 (T2.grow g) ((s1.trans s2).trans g.step) q3
theorem E_meth0 {j : Nat} {pl : Sem Bool} {C : Addr} {m : Str} {o : Expr} {apos pos : Pos} {nm : List Str} {fs : List (Str × D)} {r : Res} {Sd : SpD} (F : KnM c.z j C m (SpP c.z Sd)) (hj : j ≤ c.k)
    (ho : EvX c o ρ (.d (.obj C nm fs)) ρ1) (hn : nm.contains m = false) (hS : ∀ Q R, Q r → Sd [.obj C nm fs] Q R)
    (ht : ∀ X : Cx, eval (.Call (.Attribute o m apos) [] [] pos) X.env = (eval o X.env >>= fun ov => standAt apos.atName >>= fun _ => holding [ov] (getMethod ov m pl) >>= fun q => callWith pos q.1 q.2 (backTo pos (starEach [] X.env)) (backToKw pos (keywordEach [] X.env)))) (hr : r.ret = true := by rfl) :
    EvX c (.Call (.Attribute o m apos) [] [] pos) ρ r ρ1 := fun G F0 σ H Q T k => by
  obtain ⟨f, fd, ps, hm, hb, hF⟩ := F.ex
  refine ⟨tMeth C m (SpP c.z Sd) [] c.E (tE c o) tNil, fun X ok => meth_pe0 ok F.cls hm hb hF hj ht, ho G F0 σ H _ T fun x F1 H1 T1 s1 q1 => ?_⟩
  obtain ⟨a, dx, gs, rfl, ea, na, fa⟩ := id q1
  refine ⟨a, dx, gs, rfl, T1.fle.eq ea, na m hn, ?_⟩
  show SpP c.z Sd (.ref a :: ([] ++ [])) H1 Q c.E
  exact spP_run (ds := [.obj C nm fs]) (vs := [.ref a]) T1 ⟨_, [], rfl, q1, rfl⟩ hr hS fun v F3 H3 g q3 => k v F3 H3 (T1.grow g) (s1.trans g.step) q3
end
end Fw

set_option Elab.async false
set_option maxRecDepth 100000
set_option maxHeartbeats 4000000
/-! Fw9: statements that store; displays; several things at once. -/
namespace Fw
open PySem PySem.Spec PyProof.Rows L2
theorem sw_eq {ts : List Expr} {e : Expr} {env env' : Env} (h : env.scope = env'.scope) : swappedStores ts e env = swappedStores ts e env' := by
  unfold swappedStores Env.blockKind Env.kindOf
  rw [h]
section
variable {Z : Zd} {G : Gd} {F H F2 H2 : Hp} {σ τ σ2 : L2.St} {ρ κ ρ2 : Env'}
/-- what is held of a result -/
def tmpE : Res → Ent
  | .d x => .d x
  | .fr t => .ot none t
  | .sub _ _ => .un
theorem Stt.tmp {v : V} (S : Stt Z G F σ H ρ) : ∀ {r : Res}, ResOk Z G F σ H ρ v r → Stt Z G F (σ ++ [some v]) H (ρ ++ [tmpE r])
  | .d x, h => by
    obtain ⟨ass, q, nd, fr⟩ := S.ents
    exact S.snoc q nd fr (as := []) ⟨rfl, v, rfl, h⟩ List.nodup_nil (fun _ z => by cases z) fun _ z => by cases z
  | .fr t, h => h
  | .sub i p, h => by
    obtain ⟨ass, q, nd, fr⟩ := S.ents
    exact S.snoc q nd fr (as := []) rfl List.nodup_nil (fun _ z => by cases z) fun _ z => by cases z
/-- a thing goes from slot j to slot i -/
theorem Stt.mv (S : Stt Z G F σ H ρ) {i j : Nat} {v : V} (hi : i < ρ.length) (hv : σ[j]? = some (some v)) : ∀ {e : Ent}, ρ[j]? = some e → (match e with | .d _ => True | .ot none _ => True | _ => False) → Stt Z G F (σ.set i (some v)) H ((ρ.set j .un).set i e)
  | .d x, hj, _ => by
    obtain ⟨w, e1, d⟩ := S.at hj
    rw [hv] at e1
    cases e1
    have := (S.drop (i := j) (o := some v)).put (i := i) d
    rw [st_self hv] at this
    exact this
  | .ot none t, hj, _ => by
    obtain ⟨w, e1, S1⟩ := S.take hj
    rw [hv] at e1
    cases e1
    exact S1.giveSlot (by rw [List.length_set, S.len]) (by rw [List.length_set]; exact hi)
  | .un, _, h => h.elim
  | .fn _ _ _, _, h => h.elim
  | .ot (some _) _, _, h => h.elim
end
section
variable {c : CD} {vis loc : List Nat} {gl : List Str} {ρ ρ1 ρ2 ρ3 : Env'} {P : Out → Prop}
/-- arguments of any kind, held from the last to the first -/
def EaG (c : CD) (es : List Expr) (ρ : Env') (rs : List Res) (ρ' : Env') : Prop := ∀ G F σ H Q, Stt c.z G F σ H ρ →
  (∀ (vs : List V) F' H', Stt c.z G F' (σ ++ (vs.map some).reverse) H' (ρ' ++ (rs.map tmpE).reverse) → FStep F H F' H' → vs.length = rs.length → Q vs H') → tA c es σ H Q
theorem Ga_nil : EaG c [] ρ [] ρ := fun G F σ H Q T k => ⟨tNil, fun X ok => pa_nil, k [] F H (by simpa using T) (.refl F H) rfl⟩
theorem Ga_cons {e : Expr} {es : List Expr} {r : Res} {rs : List Res} (h : EvX c e ρ r ρ1) (h' : EaG c es ρ1 rs ρ2) (hs : ∀ X : Cx, starEach (e :: es) X.env = (false, eval e X.env) :: starEach es X.env) (hl : ρ1.length = ρ.length) : EaG c (e :: es) ρ (r :: rs) ρ2 := fun G F σ H Q T k =>
  ⟨tCons (tE c e) (tA c es), fun X ok => pa_cons (pe_tE ok e) (pa_tA ok es) (hs X), h G F σ H _ T fun v F1 H1 T1 s1 q1 => by
    obtain ⟨io, nf, T1', bk⟩ := Stt.hold (T1.tmp q1) T1.len
    refine h' _ F1 σ H1 _ T1' fun vs F2 H2 T2 s2 l => ?_
    have T3 := bk T2 s2
    refine k (v :: vs) F2 H2 ?_ (s1.trans s2) (by simp [l])
    simpa [List.append_assoc] using T3⟩
/-- x = e, frozen -/
theorem S_asg {vs : List Nat} {tg e : Expr} {pos : Pos} {d : D} (he : EvX c e ρ (.d d) ρ1) (hg : EgX c vs tg ρ1 d ρ2) (hp : P (.nx ρ2)) (hs : ∀ X : Cx, c.Ok X → swapsWithSole [tg] e pos.line X.env = pure false) (hw : ∀ X : Cx, c.Ok X → swappedStores [tg] e X.env = pure none) (h1 : ∀ X : Cx, (assignEach [tg] X.env).map (·.2) = [assign tg X.env]) :
    EsX1 c (.Assign [tg] e pos) ρ P := fun G F σ H D S k =>
  ⟨tAsg (tE c e) (tG c tg), fun X ok => ps_asg (pe_tE ok e) (pg_tG ok tg) (hs X ok) (hw X ok) (h1 X), he G F σ H _ S fun v F1 H1 S1 s1 q => hg G F1 σ H1 v _ S1 q fun F2 σ2 H2 S2 s2 _ => k _ hp F2 σ2 H2 S2 (s1.trans s2)⟩
/-- x = e, a new thing: x's own from now on -/
theorem S_asgF (S : ScOk c vis loc gl) {x : Str} {e : Expr} {p pos : Pos} (i : Nat) {t : Tr} (he : EvX c e ρ (.fr t) ρ1) (hN : c.N[i]? = some x) (hi : loc.contains i = true) (hil : i < ρ1.length) (hl : ρ1.length = ρ.length) (hp : P (.nx (ρ1.set i (.ot none t))))
    (hs : ∀ X : Cx, c.Ok X → swapsWithSole [.Name x p] e pos.line X.env = pure false) (hw : ∀ X : Cx, c.Ok X → swappedStores [.Name x p] e X.env = pure none) : EsX1 c (.Assign [.Name x p] e pos) ρ P := fun G F σ H D T k => by
  obtain ⟨h1, h2⟩ := S.locOf hi hN
  refine ⟨tAsg (tE c e) (gName i), fun X ok => ps_asg (pe_tE ok e) (pg_name (by rw [ok.N]; exact S.nd) (by rw [ok.N]; exact hN) (by rw [ok.sc]; exact h1) (by rw [ok.fn, ok.sc]; exact h2)) (hs X ok) (hw X ok), ?_⟩
  exact he G F σ H _ T fun v F1 H1 S1 s1 q => k _ hp F1 _ H1 (Stt.giveSlot q (by rw [T.len, hl]) hil) s1
/-- a, b = x, y -/
theorem S_par2 (S : ScOk c vis loc gl) {x y : Str} {a b : Expr} {px py pt pos pt2 : Pos} {kt k2 : Nat} {r1 r2 : Res} (i j : Nat) (ha : EaG c [a, b] ρ [r1, r2] ρ1) (hx : c.N[i]? = some x) (hy : c.N[j]? = some y) (hij : i ≠ j) (hlx : c.sc.names.lookup x = some .local) (hly : c.sc.names.lookup y = some .local)
    (hil : i < ρ1.length) (hjl : j < ρ1.length) (hl : ρ1.length = ρ.length) (h1 : r1.ret = true) (h2 : r2.ret = true) (hp : P (.nx ((ρ1.set i (tmpE r1)).set j (tmpE r2))))
    (hw : ∀ X : Cx, c.Ok X → swappedStores [.Tuple [.Name x px, .Name y py] kt pt] (.Tuple [a, b] k2 pt2) X.env = pure (some [x, y])) (hs : ∀ X : Cx, c.Ok X → swapsWithSole [.Tuple [.Name x px, .Name y py] kt pt] (.Tuple [a, b] k2 pt2) pos.line X.env = pure false) :
    EsX1 c (.Assign [.Tuple [.Name x px, .Name y py] kt pt] (.Tuple [a, b] k2 pt2) pos) ρ P := fun G F σ H D T k => by
  refine ⟨tPar i j (tA c [a, b]), fun X ok => ps_par ok.calm (by rw [ok.N]; exact S.nd) (by rw [ok.N]; exact hx) (by rw [ok.N]; exact hy) hij (by rw [ok.sc]; exact hlx) (by rw [ok.sc]; exact hly) (pa_tA ok _) (hw X ok) (hs X ok), ?_⟩
  refine ha G F σ H _ T fun vs F1 H1 T1 s1 l => ?_
  obtain ⟨v, w, rfl⟩ : ∃ v w, vs = [v, w] := by
    cases vs with
    | nil => simp at l
    | cons v vs =>
      cases vs with
      | nil => simp at l
      | cons w vs =>
        cases vs with
        | nil => exact ⟨v, w, rfl⟩
        | cons _ _ => simp at l
  refine ⟨v, w, rfl, k _ hp F1 _ H1 ?_ s1⟩
  have T1 : Stt c.z G F1 (σ ++ [some w, some v]) H1 (ρ1 ++ [tmpE r2, tmpE r1]) := by simpa using T1
  have n : σ.length = ρ1.length := by rw [T.len, hl]
  have g : ∀ {r : Res}, r.ret = true → (match tmpE r with | .d _ => True | .ot none _ => True | _ => False) := fun {r} h => by cases r <;> first | trivial | cases h
  have M1 := T1.mv (i := i) (j := ρ1.length + 1) (v := v) (e := tmpE r1) (by simp; omega) (by rw [List.getElem?_append_right (by omega)]; simp [n]) (by rw [List.getElem?_append_right (by omega)]; simp) (g h1)
  have M2 := M1.mv (i := j) (j := ρ1.length) (v := w) (e := tmpE r2) (by simp; omega) (by rw [List.getElem?_set_ne (by omega), List.getElem?_append_right (by omega)]; simp [n]) (by rw [List.getElem?_set_ne (by omega), List.getElem?_set_ne (by omega), List.getElem?_append_right (by omega)]; simp) (g h2)
  have e1 : ((((ρ1 ++ [tmpE r2, tmpE r1]).set (ρ1.length + 1) .un).set i (tmpE r1)).set ρ1.length .un).set j (tmpE r2) = ((ρ1.set i (tmpE r1)).set j (tmpE r2)) ++ [.un, .un] := by
    rw [List.set_append_right _ _ (by omega), List.set_append_left _ _ hil, List.set_append_right _ _ (by simp), List.set_append_left _ _ (by simpa using hjl)]
    simp
  have e2 : ((σ ++ [some w, some v]).set i (some v)).set j (some w) = ((σ.set i (some v)).set j (some w)) ++ [some w, some v] := by
    rw [List.set_append_left _ _ (by omega), List.set_append_left _ _ (by simp; omega)]
  rw [e1, e2] at M2
  exact M2.drops (by simp [n])
theorem S_par3 (S : ScOk c vis loc gl) {x y z : Str} {a b d : Expr} {px py pz pt pos pt2 : Pos} {kt k2 : Nat} {r1 r2 r3 : Res} (i j m : Nat) (ha : EaG c [a, b, d] ρ [r1, r2, r3] ρ1) (hx : c.N[i]? = some x) (hy : c.N[j]? = some y) (hz : c.N[m]? = some z) (hij : i ≠ j) (him : i ≠ m) (hjm : j ≠ m)
    (hlx : c.sc.names.lookup x = some .local) (hly : c.sc.names.lookup y = some .local) (hlz : c.sc.names.lookup z = some .local)
    (hil : i < ρ1.length) (hjl : j < ρ1.length) (hml : m < ρ1.length) (hl : ρ1.length = ρ.length) (h1 : r1.ret = true) (h2 : r2.ret = true) (h3 : r3.ret = true) (hp : P (.nx (((ρ1.set i (tmpE r1)).set j (tmpE r2)).set m (tmpE r3))))
    (hw : ∀ X : Cx, c.Ok X → swappedStores [.Tuple [.Name x px, .Name y py, .Name z pz] kt pt] (.Tuple [a, b, d] k2 pt2) X.env = pure (some [x, y, z])) (hs : ∀ X : Cx, c.Ok X → swapsWithSole [.Tuple [.Name x px, .Name y py, .Name z pz] kt pt] (.Tuple [a, b, d] k2 pt2) pos.line X.env = pure false) :
    EsX1 c (.Assign [.Tuple [.Name x px, .Name y py, .Name z pz] kt pt] (.Tuple [a, b, d] k2 pt2) pos) ρ P := fun G F σ H D T k => by
  refine ⟨tPar3 i j m (tA c [a, b, d]), fun X ok => ps_par3 ok.calm (by rw [ok.N]; exact S.nd) (by rw [ok.N]; exact hx) (by rw [ok.N]; exact hy) (by rw [ok.N]; exact hz) hij him hjm (by rw [ok.sc]; exact hlx) (by rw [ok.sc]; exact hly) (by rw [ok.sc]; exact hlz) (pa_tA ok _) (hw X ok) (hs X ok), ?_⟩
  refine ha G F σ H _ T fun vs F1 H1 T1 s1 l => ?_
  obtain ⟨v, w, u, rfl⟩ : ∃ v w u, vs = [v, w, u] := by
    cases vs with
    | nil => simp at l
    | cons v vs =>
      cases vs with
      | nil => simp at l
      | cons w vs =>
        cases vs with
        | nil => simp at l
        | cons u vs =>
          cases vs with
          | nil => exact ⟨v, w, u, rfl⟩
          | cons _ _ => simp at l
  refine ⟨v, w, u, rfl, k _ hp F1 _ H1 ?_ s1⟩
  have T1 : Stt c.z G F1 (σ ++ [some u, some w, some v]) H1 (ρ1 ++ [tmpE r3, tmpE r2, tmpE r1]) := by simpa using T1
  have n : σ.length = ρ1.length := by rw [T.len, hl]
  have g : ∀ {r : Res}, r.ret = true → (match tmpE r with | .d _ => True | .ot none _ => True | _ => False) := fun {r} h => by cases r <;> first | trivial | cases h
  have M1 := T1.mv (i := i) (j := ρ1.length + 2) (v := v) (e := tmpE r1) (by simp; omega) (by rw [List.getElem?_append_right (by omega)]; simp [n]) (by rw [List.getElem?_append_right (by omega)]; simp) (g h1)
  have M2 := M1.mv (i := j) (j := ρ1.length + 1) (v := w) (e := tmpE r2) (by simp; omega) (by rw [List.getElem?_set_ne (by omega), List.getElem?_append_right (by omega)]; simp [n]) (by rw [List.getElem?_set_ne (by omega), List.getElem?_set_ne (by omega), List.getElem?_append_right (by omega)]; simp) (g h2)
  have M3 := M2.mv (i := m) (j := ρ1.length) (v := u) (e := tmpE r3) (by simp; omega) (by rw [List.getElem?_set_ne (by omega), List.getElem?_set_ne (by omega), List.getElem?_append_right (by omega)]; simp [n]) (by rw [List.getElem?_set_ne (by omega), List.getElem?_set_ne (by omega), List.getElem?_set_ne (by omega), List.getElem?_set_ne (by omega), List.getElem?_append_right (by omega)]; simp) (g h3)
  have e1 : ((((((ρ1 ++ [tmpE r3, tmpE r2, tmpE r1]).set (ρ1.length + 2) .un).set i (tmpE r1)).set (ρ1.length + 1) .un).set j (tmpE r2)).set ρ1.length .un).set m (tmpE r3) = (((ρ1.set i (tmpE r1)).set j (tmpE r2)).set m (tmpE r3)) ++ [.un, .un, .un] := by
    rw [List.set_append_right _ _ (by omega), List.set_append_left _ _ hil, List.set_append_right _ _ (by simp), List.set_append_left _ _ (by simpa using hjl), List.set_append_right _ _ (by simp), List.set_append_left _ _ (by simpa using hml)]
    simp
  have e2 : (((σ ++ [some u, some w, some v]).set i (some v)).set j (some w)).set m (some u) = (((σ.set i (some v)).set j (some w)).set m (some u)) ++ [some u, some w, some v] := by
    rw [List.set_append_left _ _ (by omega), List.set_append_left _ _ (by simp; omega), List.set_append_left _ _ (by simp; omega)]
  rw [e1, e2] at M3
  exact M3.drops (by simp [n])
/-- a display of a list, a new thing -/
theorem E_lstF {es : List Expr} {pos : Pos} {ds : List D} (h : EaX c es ρ (ds.map Res.d) ρ1) (hl : ds.length ≤ 1000) : EvX c (.List es pos) ρ (.fr (.fl ds)) ρ1 := fun G F σ H Q T k =>
  ⟨tLst (tA c es), fun X ok => pe_lst (pa_tA ok es), h G F σ H _ T fun vs F1 H1 T1 s1 l q => by
    have hd := denAll_of l q
    refine ⟨by rw [l, List.length_map]; exact Nat.le_of_lt (small1000 hl), fun p n => ?_⟩
    have g := Grow.alloc (Z := c.z) (F := F1) (o := .lst vs) T1.fle n
    have T2 : Stt c.z G F1 (σ ++ [some (.ref p)]) (upd H1 p (.lst vs)) (ρ1 ++ [.ot none (.fl ds)]) := T1.newT n ⟨p, vs, rfl, rfl, upd_same, hd⟩
    exact k _ F1 _ (T2.drops T1.len) (s1.trans .upd) T2⟩
/-- own things are frozen for good -/
theorem S_freeze {st : List Stmt} {i : Nat} {t : Tr} (hr : ρ[i]? = some (.ot none t)) (w : t.whole = true) (h : EsX c st (ρ.set i (.d t.toD)) P) : EsX c st ρ P := fun G F σ H D T k => by
  obtain ⟨F', l, T2⟩ := T.freeze hr w
  exact h G F' σ H D T2 fun o p => (k o p).step ⟨l, fun _ z => z⟩
theorem E_freeze {e : Expr} {i : Nat} {t : Tr} {r : Res} (hr : ρ[i]? = some (.ot none t)) (w : t.whole = true) (h : EvX c e (ρ.set i (.d t.toD)) r ρ1) : EvX c e ρ r ρ1 := fun G F σ H Q T k => by
  obtain ⟨F', l, T2⟩ := T.freeze hr w
  exact h G F' σ H Q T2 fun v F2 H2 S s q => k v F2 H2 S (FStep.trans ⟨l, fun _ z => z⟩ s) q
/-- an expression whose value is dropped -/
theorem S_expr {e : Expr} {pos : Pos} {r : Res} (h : EvX c e ρ r ρ1) (hp : P (.nx ρ1)) (hs : ∀ X : Cx, swapsWith e none pos.line X.env = pure false) : EsX1 c (.Expr e pos) ρ P := fun G F σ H D T k =>
  ⟨tDrop (tE c e), fun X ok => ps_expr (pe_tE ok e) (hs X), h G F σ H _ T fun v F1 H1 T1 s1 _ => k _ hp F1 σ H1 T1 s1⟩
theorem S_exprR {e : Expr} {pos : Pos} {C : Value} {fs : List (Str × D)} (h : ErX c e ρ C fs ρ1) (hp : P (.rz C fs ρ1)) (hs : ∀ X : Cx, swapsWith e none pos.line X.env = pure false) : EsX1 c (.Expr e pos) ρ P := fun G F σ H D T k =>
  ⟨tDrop (tE c e), fun X ok => ps_expr (pe_tE ok e) (hs X), h G F σ H _ T fun F1 H1 d T1 s1 q => k _ hp F1 σ H1 d T1 s1 q⟩
/-- a method of an own flat list: A.m(args) where the list is written -/
theorem meth_run {i : Nat} {p : List Pst} {bb : Option Addr} {t : Tr} {ds ds' : List D} {G : Gd} {F : Hp} {σ : L2.St} {H : Hp} (T : Stt c.z G F σ H ρ) (hr : ρ[i]? = some (.ot bb t)) (hp : t.get p = some (.fl ds)) {v0 v : V} (e0 : σ[i]? = some (some v0)) (f0 : fol H v0 p = some v) :
    ∃ a vs, v = .ref a ∧ H a = some (.lst vs) ∧ DenAll c.z.K F ds vs ∧ ∀ vs', DenAll c.z.K F ds' vs' → Stt c.z G F σ (upd H a (.lst vs')) (ρ.set i (.ot bb (t.put p (.fl ds')))) := by
  obtain ⟨v1, w, bs, e1, f1, ⟨a, vs, rfl, rfl, ha, hd⟩, nb, _, mk⟩ := T.node0 hr hp
  rw [e0] at e1
  cases e1
  rw [f0] at f1
  cases f1
  refine ⟨a, vs, rfl, ha, hd, fun vs' hd' => mk (n' := .fl ds') (bs' := [a]) (fun x hx u hu => ?_) (fun x hx => ?_) (tabs_upd T.tabs ha (fun _ z => nomatch z) fun _ z => nomatch z) ⟨a, vs', rfl, rfl, upd_same, hd'⟩ nb fun x hx => .inl hx⟩
  · rw [upd_ne (fun z => hx (by simp [z]))]
    exact hu
  · rw [List.mem_singleton.mp hx, upd_same]
    exact fun z => nomatch z
/-- o.append(e), o a path -/
theorem S_append {o e : Expr} {ap pos cpos : Pos} {i : Nat} {p : List Pst} {bb : Option Addr} {t : Tr} {ds : List D} {d : D} (ho : PaX c o ρ i p) (he : PuX c e ρ d) (hr : ρ[i]? = some (.ot bb t)) (hpt : t.get p = some (.fl ds)) (hl : ds.length ≤ 1000000) (hp : P (.nx (ρ.set i (.ot bb (t.put p (.fl (ds ++ [d])))))))
    (hs : ∀ X : Cx, swapsWith (.Call (.Attribute o "append" ap) [e] [] cpos) none pos.line X.env = pure false)
    (hbm : ∀ (X : Cx) (te ta : _), PE X o te → PA X [e] ta → PE X (.Call (.Attribute o "append" ap) [e] [] cpos) (tBM X.K "list" rAppend te ta))
    (h1s : ∀ X : Cx, starEach [e] X.env = [(false, eval e X.env)]) : EsX1 c (.Expr (.Call (.Attribute o "append" ap) [e] [] cpos) pos) ρ P := fun G F σ H D T k => by
  refine ⟨tDrop (tBM c.K "list" rAppend (tE c o) (tCons (tE c e) tNil)), fun X ok => ps_expr (by have := hbm X _ _ (pe_tE ok o) (pa_cons (pe_tE ok e) pa_nil (h1s X)); rw [ok.K] at this; exact this) (hs X), ?_⟩
  refine ho G F σ H _ T fun v v0 F1 H1 g1 e0 f0 => ?_
  obtain ⟨a, vs, rfl, ha, hd, _⟩ := meth_run (ds' := ds) (T.grow g1) hr hpt e0 f0
  refine ⟨.inl ⟨rfl, vs, SqL.of ha⟩, he G F1 σ H1 _ (T.grow g1) fun u F2 H2 g2 q => ?_⟩
  have f0' := fol.mono (H' := H2) (fun a o e m => g2.same a o e m) f0
  obtain ⟨a', vs', ea, ha', hd', wr⟩ := meth_run (ds' := ds ++ [d]) ((T.grow g1).grow g2) hr hpt e0 f0'
  cases ea
  exact ⟨a, vs', u, rfl, rfl, ha', by rw [hd'.length, sizeLine_eq]; omega, k _ hp F2 σ _ (wr _ (hd'.snoc q)) ((g1.trans g2).step.trans .upd)⟩
/-- x.append(e), x a name, e anything -/
theorem S_append1 (S : ScOk c vis loc gl) {x : Str} {e : Expr} {xp ap pos cpos : Pos} (i : Nat) {bb : Option Addr} {t : Tr} {ds : List D} {d : D} (he : EvX c e ρ (.d d) ρ1) (hr0 : ρ[i]? = some (.ot bb t)) (hr : ρ1[i]? = some (.ot bb (.fl ds))) (ht : ∃ es, t = .fl es) (hN : c.N[i]? = some x) (hi : vis.contains i = true) (hl : ds.length ≤ 1000000)
    (hp : P (.nx (ρ1.set i (.ot bb (.fl (ds ++ [d])))))) (hs : ∀ X : Cx, swapsWith (.Call (.Attribute (.Name x xp) "append" ap) [e] [] cpos) none pos.line X.env = pure false)
    (hbm : ∀ (X : Cx) (te ta : _), PE X (.Name x xp) te → PA X [e] ta → PE X (.Call (.Attribute (.Name x xp) "append" ap) [e] [] cpos) (tBM X.K "list" rAppend te ta))
    (h1s : ∀ X : Cx, starEach [e] X.env = [(false, eval e X.env)]) : EsX1 c (.Expr (.Call (.Attribute (.Name x xp) "append" ap) [e] [] cpos) pos) ρ P := fun G F σ H D T k => by
  obtain ⟨h1, h2, h3⟩ := S.visOf hi hN
  obtain ⟨es, rfl⟩ := ht
  obtain ⟨v0, w0, bs0, e0, f0, _⟩ := T.node0 hr0 (p := []) rfl
  cases f0
  refine ⟨tDrop (tBM c.K "list" rAppend (tVar i) (tCons (tE c e) tNil)), fun X ok => ps_expr (by have := hbm X _ _ (pe_var (i := i) (by rw [ok.N]; exact hN) (by rw [ok.sc]; exact h1) h2 h3) (pa_cons (pe_tE ok e) pa_nil (h1s X)); rw [ok.K] at this; exact this) (hs X), ?_⟩
  obtain ⟨a, vs, ea, ha, _⟩ := meth_run (ds' := es) T hr0 (p := []) rfl e0 rfl
  refine ⟨v0, e0, (by rw [ea]; exact .inl ⟨rfl, vs, SqL.of ha⟩), he G F σ H _ T fun u F2 H2 T2 s2 q => ?_⟩
  obtain ⟨a', vs', ea', ha', hd', wr⟩ := meth_run (ds' := ds ++ [d]) T2 hr (p := []) rfl e0 rfl
  exact ⟨a', vs', u, ea', rfl, ha', by rw [hd'.length, sizeLine_eq]; omega, k _ hp F2 σ _ (wr _ (hd'.snoc q)) (s2.trans .upd)⟩
/-- o[ix] = e, o a path to a flat own list -/
theorem S_setN {o ix e : Expr} {sp pos : Pos} {i j : Nat} {p : List Pst} {bb : Option Addr} {t : Tr} {ds : List D} {d : D} {n : Int} (he : EvX c e ρ (.d d) ρ1) (ho : PaX c o ρ1 i p) (hix : PuX c ix ρ1 (.int n)) (hr : ρ1[i]? = some (.ot bb t)) (hpt : t.get p = some (.fl ds)) (hj : ixN ds.length n = some j) (hp : P (.nx (ρ1.set i (.ot bb (t.put p (.fl (ds.set j d)))))))
    (hs : ∀ X : Cx, c.Ok X → swapsWithSole [.Subscript o ix sp] e pos.line X.env = pure false) (hw : ∀ X : Cx, c.Ok X → swappedStores [.Subscript o ix sp] e X.env = pure none)
    (hps : ∀ (X : Cx) (to ti : _) (t : _), PE X o to → PE X ix ti → PSet X t → PG X (.Subscript o ix sp) (gSub to ti t)) : EsX1 c (.Assign [.Subscript o ix sp] e pos) ρ P := fun G F σ H D T k => by
  refine ⟨tAsg (tE c e) (gSub (tE c o) (tE c ix) rSetL), fun X ok => ps_asg (pe_tE ok e) (hps X _ _ _ (pe_tE ok o) (pe_tE ok ix) set_list) (hs X ok) (hw X ok), he G F σ H _ T fun v F1 H1 T1 s1 q => ?_⟩
  refine ho G F1 σ H1 _ T1 fun vo v0 F2 H2 g2 e0 f0 => hix G F2 σ H2 _ (T1.grow g2) fun vi F3 H3 g3 q3 => ?_
  have f0' := fol.mono (H' := H3) (fun a o e m => g3.same a o e m) f0
  obtain ⟨a, vs, rfl, ha, hd, wr⟩ := meth_run (ds' := ds.set j d) ((T1.grow g2).grow g3) hr hpt e0 f0'
  have q3 : vi = .int n := q3
  subst q3
  exact ⟨a, vs, n, j, rfl, rfl, ha, by rw [hd.length]; exact hj, k _ hp F3 σ _ (wr _ (hd.set j (Den.mono (g2.trans g3).fle _ _ q))) ((s1.trans (g2.trans g3).step).trans .upd)⟩
end
end Fw

set_option Elab.async false
set_option maxRecDepth 100000
set_option maxHeartbeats 4000000
/-! Fw10: lambdas with parameters, handed to defs. -/
namespace Fw
open PySem PySem.Spec PyProof.Rows L2
/-- the names of a lambda: parameters, captured ones, globals -/
structure LamP (ps : List Str) (fr : List Str) (scope : Scope) : Prop where
  kind : scope.kind = .function
  co : scope.isCoroutine = false
  gen : scope.isGenerator = false
  nocell : ∀ y ∈ scope.names, y.2 ≠ .cell
  par : ∀ y ∈ ps, scope.names.lookup y = some .local
  free : ∀ y ∈ fr, scope.names.lookup y = some .free
  nd : (ps ++ fr).Nodup
def lamPB (ps fr : List Str) (scope : Scope) : Bool :=
  decide (scope.kind = .function) && !scope.isCoroutine && !scope.isGenerator && (scope.names.all fun y => !decide (y.2 = .cell)) && (ps.all fun y => decide (scope.names.lookup y = some .local)) && (fr.all fun y => decide (scope.names.lookup y = some .free)) && decide (ps ++ fr).Nodup
theorem lamP_by {ps fr : List Str} {scope : Scope} (h : lamPB ps fr scope = true) : LamP ps fr scope := by
  unfold lamPB at h
  simp only [Bool.and_eq_true, Bool.not_eq_true', decide_eq_true_eq, decide_eq_false_iff_not, List.all_eq_true] at h
  obtain ⟨⟨⟨⟨⟨⟨h1, h2⟩, h3⟩, h4⟩, h5⟩, h6⟩, h7⟩ := h
  exact ⟨h1, h2, h3, h4, h5, h6, h7⟩
/-- a lambda's body running -/
def lamC (P : Program) (w : World) (K : PySem.W.Frag) (mg : Str → Option Value) (base : Heap) (N : List Str) (q : Str) (cl : List (Str × Addr)) (scope : Scope) (f c' : Addr) (A : Around) (outer : List Env) (s : Shared) (H : Hp) (E : XK) : Cx where
  prog := P
  w := w
  K := K
  mg := mg
  base := base
  A := A.deeper (PySem.W.envX q scope s.heap.objs.size f (.ref c') cl)
  N := N
  s_0 := s
  H_0 := H
  env := PySem.W.envX q scope s.heap.objs.size f (.ref c') cl
  outer := outer
  stack := PySem.W.envX q scope s.heap.objs.size f (.ref c') cl :: outer
  ex := []
  fn := fun _ => false
  calm := true
  pn := []
  xe := fun e s' => wpAny (model P w) (A.deeper (PySem.W.envX q scope s.heap.objs.size f (.ref c') cl)) (leaving (PySem.W.envX q scope s.heap.objs.size f (.ref c') cl) e) (fun _ s2 => L2.CX P w outer H s E e s2) (fun e' s2 => L2.CX P w outer H s E e' s2) s'
theorem lookup_of_mem : ∀ {l : List (Str × Value)} {y : Str} {u : Value}, (l.map (·.1)).Nodup → (y, u) ∈ l → l.lookup y = some u
  | [], _, _, _, h => by cases h
  | (x, w) :: l, y, u, nd, h => by
    rw [List.map_cons, List.nodup_cons] at nd
    rcases List.mem_cons.mp h with e | h
    · cases e
      rw [List.lookup_cons, beq_self_eq_true]
    · have ne : y ≠ x := fun z => nd.1 (by rw [← z]; exact List.mem_map.mpr ⟨_, h, rfl⟩)
      rw [List.lookup_cons, show (y == x) = false from by simpa using ne]
      exact lookup_of_mem nd.2 h
theorem zip_rev {ps : List Str} {us : List Value} (nd : ps.Nodup) (hl : us.length = ps.length) {i : Nat} {y : Str} {u : Value} (h1 : ps[i]? = some y) (h2 : us[i]? = some u) : (ps.zip us).reverse.lookup y = some u := by
  refine lookup_of_mem ?_ (List.mem_reverse.mpr ?_)
  · rw [List.map_reverse, List.map_fst_zip (by omega)]
    exact List.pairwise_reverse.mpr (nd.imp fun h => Ne.symm h)
  · refine List.mem_of_getElem? (i := i) ?_
    rw [List.getElem?_zip_eq_some]
    exact ⟨h1, h2⟩
theorem lam_inv {P : Program} {w : World} {K : PySem.W.Frag} {mg : Str → Option Value} {base : Heap} {ps fr : List Str} {q : Str} {cl : List (Str × Addr)} {scope : Scope} {f c' : Addr} {A : Around} {outer : List Env} {s : Shared} {H : Hp} {E : XK} {us : List Value} {vs : List V} {caps : L2.St} {h₁ : Heap} {tk : Nat}
    (L : LamP ps fr scope) (hfree : ∀ y, scope.names.lookup y = some .free → ∃ c, cl.lookup y = some c) (hinj : ∀ x y c, cl.lookup x = some c → cl.lookup y = some c → x = y)
    (hcell : ∀ x c, cl.lookup x = some c → (∃ v, s.heap.IsCell c v) ∧ H c = none) (hcap : ∀ (i : Nat) (y : Str) (v : V), fr[i]? = some y → caps[i]? = some (some v) → ∃ u c, RelV v u ∧ cl.lookup y = some c ∧ s.heap.IsCell c (some u))
    (hd : A.handled = none) (e0 : Env0 P w K mg base A outer s H) (hns : h₁.Ns s.heap.objs.size fun y => (ps.zip us).reverse.lookup y) (kp : ∀ b o, s.heap.get? b = some o → h₁.get? b = some o) (r : Vals vs us) (hl : vs.length = ps.length) (hcl : caps.length = fr.length) :
    Inv (lamC P w K mg base (ps ++ fr) q cl scope f c' A outer s H E) [] (vs.map some ++ caps) H { s with heap := h₁, toks := tk } := by
  have cellK : ∀ {c : Addr} {v : Option Value}, s.heap.IsCell c v → h₁.IsCell c v := fun {c v} ⟨o, ho, hd⟩ => ⟨o, kp _ _ ho, hd⟩
  have noA : ∀ b : Addr, b ∉ (lamC P w K mg base (ps ++ fr) q cl scope f c' A outer s H E).ex := fun b z => absurd (show b ∈ ([] : List Addr) from z) (by simp)
  refine ⟨⟨e0.mod, L.kind, rfl, rfl, Nat.le_refl _, hinj, fun y hy => ?_, fun y c z _ => ?_, fun _ => hd, Around.frames_deeper e0.frames, .inr ⟨rfl, rfl⟩, fun b z => absurd z (noA b), e0.bs, e0.bsz, fun b _ _ => noA b, fun b z => absurd z (noA b), e0.funs, e0.frf⟩,
    rfl, e0.bare, Un.kept kp, ⟨_, hns, fun i y v e1 e2 e3 => ?_⟩, fun y c e => ?_, e0.hok.fresh (Nat.le_refl _), fun y c e => (hcell y c e).2, fun q hq => absurd (show q ∈ ([] : List (Addr × Obj)) ++ [] from hq) (by simp), e0.hok.kept kp, ?_⟩
  · have hy : scope.names.lookup y = some .cell ∨ scope.names.lookup y = some .free := hy
    rcases hy with hy | hy
    · exact absurd rfl (L.nocell _ (PySem.mem_of_lookup hy))
    · exact hfree y hy
  · have z : false = true := z
    cases z
  · have e1 : (ps ++ fr)[i]? = some y := e1
    by_cases hi : i < ps.length
    · rw [List.getElem?_append_left hi] at e1
      rw [List.getElem?_append_left (by simp; omega), List.getElem?_map] at e2
      cases ev : vs[i]? with
      | none => rw [ev] at e2; cases e2
      | some v' =>
        rw [ev] at e2
        cases e2
        obtain ⟨u, hu, rv⟩ := r.get ev
        exact ⟨u, rv, .inl ⟨L.par y (List.mem_of_getElem? e1), zip_rev (List.nodup_append.mp L.nd).1 (by rw [← r.length, hl]) e1 hu⟩⟩
    · rw [List.getElem?_append_right (by omega)] at e1
      rw [List.getElem?_append_right (by simp; omega)] at e2
      simp only [List.length_map, hl] at e2
      obtain ⟨u, c, rv, ec, hc⟩ := hcap _ y v e1 e2
      exact ⟨u, rv, .inr ⟨.inr (L.free y (List.mem_of_getElem? e1)), c, ec, cellK hc⟩⟩
  · obtain ⟨⟨v, z⟩, _⟩ := hcell y c e
    exact ⟨v, cellK z⟩
  · show (vs.map some ++ caps).length = (ps ++ fr).length
    simp [hl, hcl]
/-- the judgement's place in a lambda's body -/
def lamCD (Z : Zd) (N : List Str) (scope : Scope) (k : Nat) : CD := ⟨Z, N, scope, fun _ => false, k, fun _ _ _ => False, fun _ _ => False, none⟩
/-- a lambda, by its body -/
theorem callable_of {Z : Zd} {k : Nat} {kp : Addr → Obj → Prop} {F H0 : Hp} {s0 : Shared} {f c' : Addr} {q : Str} {params : Arguments} {body : Expr} {scope : Scope} {cl : List (Str × Addr)} {pm ctv : Value} {ps fr : List Str} {caps : L2.St} {ρc : List Ent} {Sc : List D → (D → Prop) → Prop}
    (L : LamP ps fr scope) (hf : kp f (PySem.W.kla_obj "<lambda>" q params body scope cl pm c' ctv)) (hcode : (c', q) ∈ Z.cd)
    (hfree : ∀ y, scope.names.lookup y = some .free → ∃ c, cl.lookup y = some c) (hinj : ∀ x y c, cl.lookup x = some c → cl.lookup y = some c → x = y)
    (hcell : ∀ x c, cl.lookup x = some c → ∃ v o, kp c o ∧ o.data = .cell v) (hcap : ∀ (i : Nat) (y : Str) (v : V), fr[i]? = some y → caps[i]? = some (some v) → ∃ u c o, RelV v u ∧ cl.lookup y = some c ∧ kp c o ∧ o.data = .cell (some u))
    (hcl : caps.length = fr.length) (hE : EntsOk Z (fun _ => False) F H0 ρc caps (List.replicate fr.length [])) (hρ : ∀ e ∈ ρc, (match e with | .d _ => True | .un => True | _ => False))
    (hbind : ∀ (s : Shared) (us : List Value), us.length = ps.length → BindsTo s (PySem.W.kla_fn "<lambda>" q params body scope cl pm (.ref c') ctv) ⟨us, []⟩ (ps.zip us))
    (hlen : ∀ ds Q, Sc ds Q → ds.length = ps.length)
    (hb : ∀ ds Q, Sc ds Q → ∃ r ρ', EvX (lamCD Z (ps ++ fr) scope k) body (ds.map Ent.d ++ ρc) (.d r) ρ' ∧ Q r) : Callable Z (k + 1) kp F f Sc := by
  refine ⟨fun h hk => ⟨_, _, _, _, hk f _ hf⟩, ?_⟩
  intro A outer s H us vs Q F1 ds rm e0 kk l1 l2 lnt tb r hd hS
  obtain ⟨z, ρ', hev, hQ⟩ := hb ds _ hS
  obtain ⟨⟨oc, wvs, t, hoc, hdc, hvc⟩, _, _⟩ := e0.hok c' _ (tb.2 _ hcode)
  have lim : s.heap.NoLimit := e0.mod.nolimit.keeps fun b o e => (e0.bs b o e).1
  have lv : vs.length = ps.length := by rw [hd.length]; exact hlen ds _ hS
  refine PySem.W.kla_callFunE rm.room.depth (kk f _ hf).1 rfl L.co L.gen rfl ⟨c', oc, wvs, t, rfl, hoc, hdc, hvc⟩ ?_
  refine hbind s us (by rw [← r.length, lv]) _ _ _ _ ?_
  refine wpAny_newFunctionEnv L.nocell (fun y hy => L.par y.1 (List.of_mem_zip (b := y.2) hy).1) (fun h₁ hns hsb => ⟨lim.fresh _ hsb, ?_⟩) L.kind
  have kp' : ∀ b o, s.heap.get? b = some o → h₁.get? b = some o := fun b o e => hsb.extBut b o (Nat.ne_of_lt (Heap.lt_size e)) (Heap.get?_push_of_some _ e)
  have J : Inv (lamC Z.P Z.w Z.K Z.mg Z.base (ps ++ fr) q cl scope f c' A outer s H fun _ _ _ => False) [] (vs.map some ++ caps) H { s with heap := h₁, toks := s.toks + (ps.zip us).length } :=
    lam_inv L hfree hinj (fun x c e => by
      obtain ⟨v, o, ho, hdo⟩ := hcell x c e
      exact ⟨⟨v, o, (kk c o ho).1, hdo⟩, (kk c o ho).2⟩) (fun i y v e1 e2 => by
      obtain ⟨u, c, o, rv, ec, ho, hdo⟩ := hcap i y v e1 e2
      exact ⟨u, c, rv, ec, o, (kk c o ho).1, hdo⟩) rm.room.hd e0 hns kp' r lv hcl
  have hE1 : EntsOk Z (fun _ => False) F1 H ρc caps (List.replicate fr.length []) := by
    have go : ∀ {ρ : Env'} {σ : L2.St} {as : List (List Addr)}, EntsOk Z (fun _ => False) F H0 ρ σ as → (∀ e ∈ ρ, (match e with | .d _ => True | .un => True | _ => False)) → EntsOk Z (fun _ => False) F1 H ρ σ as := by
      intro ρ
      induction ρ with
      | nil => intro σ as h _; exact h
      | cons e ρ ih =>
        intro σ as h k
        obtain ⟨o, σ', bs, as', rfl, rfl, q, r⟩ := h
        refine ⟨o, σ', bs, as', rfl, rfl, ?_, ih r fun e he => k e (List.mem_cons_of_mem _ he)⟩
        have ke := k e (by simp)
        cases e with
        | un => exact q
        | d x => exact ⟨q.1, q.2.imp fun v h => ⟨h.1, Den.mono l1 x v h.2⟩⟩
        | ot b t => exact ke.elim
        | fn _ _ _ => exact ke.elim
    exact go hE hρ
  have T0 : Stt Z ⟨H, [], nfOf F1 H⟩ F1 (vs.map some ++ caps) H (ds.map Ent.d ++ ρc) := by
    have go : ∀ (ds : List D) (vs : List V), DenAll Z.K F1 ds vs → EntsOk Z (nfOf F1 H) F1 H (ds.map Ent.d) (vs.map some) (List.replicate ds.length []) := by
      intro ds
      induction ds with
      | nil => intro vs h; rw [show vs = [] from h]; exact ⟨rfl, rfl⟩
      | cons d ds ih =>
        intro vs h
        obtain ⟨v, vs', rfl, q, r⟩ := h
        exact ⟨some v, vs'.map some, [], List.replicate ds.length [], rfl, rfl, ⟨rfl, v, rfl, q⟩, ih vs' r⟩
    have hE2 : EntsOk Z (nfOf F1 H) F1 H ρc caps (List.replicate fr.length []) := by
      have go2 : ∀ {ρ : Env'} {σ : L2.St} {as : List (List Addr)}, EntsOk Z (fun _ => False) F1 H ρ σ as → (∀ e ∈ ρ, (match e with | .d _ => True | .un => True | _ => False)) → EntsOk Z (nfOf F1 H) F1 H ρ σ as := by
        intro ρ
        induction ρ with
        | nil => intro σ as h _; exact h
        | cons e ρ ih =>
          intro σ as h k
          obtain ⟨o, σ', bs, as', rfl, rfl, q, r⟩ := h
          refine ⟨o, σ', bs, as', rfl, rfl, ?_, ih r fun e he => k e (List.mem_cons_of_mem _ he)⟩
          have ke := k e (by simp)
          cases e with
          | un => exact q
          | d x => exact q
          | ot b t => exact ke.elim
          | fn _ _ _ => exact ke.elim
      exact go2 hE1 hρ
    exact ⟨l2, lnt, fun b o e _ _ => e, fun a h => h, fun a h => h, tb, _, (go ds vs hd).app hE2, by simp, by simp⟩
  have okL : (lamCD Z (ps ++ fr) scope k).Ok (lamC Z.P Z.w Z.K Z.mg Z.base (ps ++ fr) q cl scope f c' A outer s H fun _ _ _ => False) :=
    ⟨rfl, rfl, rfl, rfl, rfl, rfl, rfl, rfl, rfl, PassesOwn.leaving, takes_of (E := fun _ _ _ => False) rfl rfl rfl rfl, rm.deeper _, (fun _ _ h => h.elim), fun _ z => nomatch z⟩
  refine PySem.W.kla_codeExpr (wpAny_mono ((pe_tE okL body).run [] _ _ H (fun v H' => ∃ F', Grow Z F1 H F' H' ∧ Den Z.K F' z v) J ?_) (fun v s' hq => ?_) fun e s' hq => ?_)
  · exact hev _ F1 _ H _ T0 fun v F' H' S' s q => ⟨F', grow_of S' s, q⟩
  · obtain ⟨w', H', J', rv, F', g, q⟩ := hq
    exact ⟨w', H', J'.os, J'.bare, J'.base, J'.hok, rv, hQ w' F' H' g q⟩
  · refine wpAny_mono (show wpAny (model Z.P Z.w) (A.deeper (PySem.W.envX q scope s.heap.objs.size f (.ref c') cl)) (leaving (PySem.W.envX q scope s.heap.objs.size f (.ref c') cl) e) (fun _ s2 => L2.CX Z.P Z.w outer H s (fun _ _ _ => False) e s2) (fun e' s2 => L2.CX Z.P Z.w outer H s (fun _ _ _ => False) e' s2) s' from hq) (fun _ s2 h2 => ?_) fun e' s2 h2 => ?_
    all_goals
      obtain ⟨_, _, _, _, _, _, _, _, _, _, _, _, zz⟩ := h2
      exact zz.elim
end Fw

set_option Elab.async false
set_option maxRecDepth 100000
set_option maxHeartbeats 4000000
/-! Fw11: defs that get a lambda; lambdas made and handed on. -/
namespace Fw
open PySem PySem.Spec PyProof.Rows L2
/-- one more code object is known -/
abbrev Zd.add (Z : Zd) (p : Addr × Str) : Zd := { Z with cd := p :: Z.cd }
theorem Zd.Tb.of_add {Z : Zd} {p : Addr × Str} {H : Hp} (t : (Z.add p).Tb H) : Z.Tb H := ⟨t.1, fun q hq => t.2 q (List.mem_cons_of_mem _ hq)⟩
section
variable {Z : Zd} {p : Addr × Str} {nf : Addr → Prop} {F H F2 H2 : Hp} {σ τ : L2.St} {ρ κ : Env'}
/-- no things to be called -/
def Ent.plain : Ent → Prop
  | .fn _ _ _ => False
  | _ => True
theorem EntsOk.add : ∀ {ρ : Env'} {σ : L2.St} {ass : List (List Addr)}, (∀ e ∈ ρ, Ent.plain e) → (EntsOk (Z.add p) nf F H ρ σ ass ↔ EntsOk Z nf F H ρ σ ass)
  | [], σ, ass, _ => Iff.rfl
  | e :: ρ, σ, ass, k => by
    have ih : ∀ {σ : L2.St} {ass : List (List Addr)}, EntsOk (Z.add p) nf F H ρ σ ass ↔ EntsOk Z nf F H ρ σ ass := fun {σ ass} => EntsOk.add fun e he => k e (List.mem_cons_of_mem _ he)
    have ke := k e (by simp)
    have he : ∀ {o : Option V} {as : List Addr}, EntOk (Z.add p) nf F H e o as ↔ EntOk Z nf F H e o as := fun {o as} => by
      cases e with
      | un => exact Iff.rfl
      | d x => exact Iff.rfl
      | ot b t => exact Iff.rfl
      | fn _ _ _ => exact ke.elim
    constructor
    · rintro ⟨o, σ', as, ass', rfl, rfl, q, r⟩
      exact ⟨o, σ', as, ass', rfl, rfl, he.mp q, ih.mp r⟩
    · rintro ⟨o, σ', as, ass', rfl, rfl, q, r⟩
      exact ⟨o, σ', as, ass', rfl, rfl, he.mpr q, ih.mpr r⟩
theorem plain_ds : ∀ (ds : List D) (e : Ent), e ∈ ds.map Ent.d → Ent.plain e := fun ds e he => by
  obtain ⟨d, _, rfl⟩ := List.mem_map.mp he
  trivial
/-- what is wanted may be less -/
def Mono (Sd : SpD) : Prop := ∀ ds Q Q' R R', (∀ r, Q r → Q' r) → (∀ C fs, R C fs → R' C fs) → Sd ds Q R → Sd ds Q' R'
/-- a promise over frozen data, where more code objects are known -/
theorem SpP.add {Sd : SpD} (m : Mono Sd) (vs : List V) (H : Hp) (Q : VK) (E : XK) (h : SpP (Z.add p) Sd vs H Q E) : SpP Z Sd vs H Q E := by
  obtain ⟨F, es, io, nf, T, ds, rfl, hS⟩ := h
  have hcd := T.tabs.2 p (by simp)
  obtain ⟨ass, q, nd, fr⟩ := T.ents
  have hn : ∀ {ds : List D} {σ : L2.St} {ass : List (List Addr)}, EntsOk (Z.add p) nf F H (ds.map Ent.d) σ ass → ass.flatten = [] := by
    intro ds
    induction ds with
    | nil => intro σ ass h; rw [h.2]; rfl
    | cons d ds ih =>
      intro σ ass h
      obtain ⟨o, σ', as, ass', rfl, rfl, q, r⟩ := h
      rw [List.flatten_cons, ih r, show as = [] from q.1]
      rfl
  have e0 := hn q
  have T1 : Stt Z ⟨H, [], nf⟩ F (vs.map some) H (ds.map Ent.d) := ⟨T.fle, T.fnt, fun b o e _ _ => e, T.nf, fun a h => h, T.tabs.of_add, ass, (EntsOk.add (plain_ds ds)).mp q, nd, fun a ha => by rw [e0] at ha; cases ha⟩
  have tb : ∀ {F' H' : Hp} {σ : L2.St} {ρ : Env'}, Stt Z ⟨H, [], nf⟩ F' σ H' ρ → (Z.add p).Tb H' := fun {F' H' σ ρ} S => ⟨S.tabs.1, fun q hq => by
    rcases List.mem_cons.mp hq with rfl | hq
    · exact S.keep _ _ hcd (by simp) (fun ps => LamX.codeO_ne ps)
    · exact S.tabs.2 q hq⟩
  have up : ∀ {F' H' : Hp} {σ : L2.St} {ρ : Env'}, (∀ e ∈ ρ, Ent.plain e) → Stt Z ⟨H, [], nf⟩ F' σ H' ρ → Stt (Z.add p) ⟨H, io, nf⟩ F' σ H' ρ := fun {F' H' σ ρ} k S => by
    obtain ⟨ass, q, nd, fr⟩ := S.ents
    exact ⟨S.fle, S.fnt, fun b o e _ m => S.keep b o e (by simp) m, S.nf, S.dom, tb S, ass, (EntsOk.add k).mpr q, nd, fun a ha => ⟨(fr a ha).1, (fr a ha).2.imp id fun z => by cases z⟩⟩
  refine ⟨F, ds.map Ent.d, [], nf, T1, ds, rfl, ?_⟩
  refine m ds _ _ _ _ (fun r hr v F' H' S' s q => hr v F' H' (up (plain_ds ds) S') s ?_) (fun C fs hr F' H' d S' s q => hr F' H' d (up (plain_ds ds) S') s q) hS
  cases r with
  | d x => exact q
  | sub i p' => exact q
  | fr t => exact up (fun e he => by
      rcases List.mem_append.mp he with z | z
      · exact plain_ds ds e z
      · rw [List.mem_singleton.mp z]; trivial) q
theorem Kn.add {k : Nat} {x : Str} {Sd : SpD} (m : Mono Sd) (h : Kn Z k x (SpP Z Sd)) : Kn (Z.add p) k x (SpP (Z.add p) Sd) := by
  obtain ⟨f, fd, ps, h1, h2, h3, F⟩ := h.ex
  exact ⟨f, fd, ps, h1, h2, h3, fun vs H Q E q => F.len vs H Q E (SpP.add m vs H Q E q), fun A outer s H args us vs Q E hr he hb hv q => F.run A outer s H args us vs Q E hr he hb hv (SpP.add m vs H Q E q)⟩
theorem KnM.add {k : Nat} {C : Addr} {x : Str} {Sd : SpD} (m : Mono Sd) (h : KnM Z k C x (SpP Z Sd)) : KnM (Z.add p) k C x (SpP (Z.add p) Sd) := by
  obtain ⟨f, fd, ps, h1, h2, F⟩ := h.ex
  exact ⟨h.cls, f, fd, ps, h1, h2, fun vs H Q E q => F.len vs H Q E (SpP.add m vs H Q E q), fun A outer s H args us vs Q E hr he hb hv q => F.run A outer s H args us vs Q E hr he hb hv (SpP.add m vs H Q E q)⟩
end
/-! ### calls of what was handed in -/
section
variable {c : CD} {vis loc : List Nat} {gl : List Str} {ρ ρ1 ρ2 : Env'}
/-- x(e, ..), x a name that holds a thing to be called -/
theorem E_callL (S : ScOk c vis loc gl) {j i : Nat} {x : Str} {p pos : Pos} {e : Expr} {es : List Expr} {ds : List D} {z : D} {Sd : List D → (D → Prop) → Prop} (hr : ρ[i]? = some (.fn j c.kp Sd)) (hj : j ≤ c.k) (ha : EaX c (e :: es) ρ (ds.map Res.d) ρ1)
    (hS : ∀ Q : D → Prop, Q z → Sd ds Q) (hN : c.N[i]? = some x) (hi : vis.contains i = true) (he : ∀ X : Cx, starEach (e :: es) X.env = (false, eval e X.env) :: starEach es X.env) (hpl : ∀ X : Cx, (backTo pos (starEach es X.env)).any (·.1) = false) : EvX c (.Call (.Name x p) (e :: es) [] pos) ρ (.d z) ρ1 := fun G F0 σ H Q T k => by
  obtain ⟨h1, h2, h3⟩ := S.visOf hi hN
  obtain ⟨f, ef, hf⟩ := T.fnAt hr
  refine ⟨fun σ' H' Q' => σ' = σ ∧ H' = H ∧ Q' = Q, fun X ok => ⟨fun pins s σ' H' Q' I h => ?_⟩, rfl, rfl, rfl⟩
  obtain ⟨rfl, rfl, rfl⟩ := h
  refine wpAny_Call_Name_kw (thn ((pe_var (pos := p) (by rw [ok.N]; exact hN) (by rw [ok.sc]; exact h1) h2 h3).run pins s σ' H' (fun v H1 => v = .ref f ∧ H1 = H') I ⟨.ref f, ef, rfl, rfl⟩) fun u s1 hs => ?_)
  obtain ⟨v, H1, I1, r1, rfl, rfl⟩ := hs
  obtain rfl : u = Value.ref f := r1
  have kk0 : ∀ b o, c.kp b o → s1.heap.get? b = some o := fun b o hk => by
    obtain ⟨k1, k2, k3, k4⟩ := ok.kept b o hk
    exact I1.base.keep b o k1 k2 k3 k4
  refine PySem.W.callWith_F (hf.1 s1.heap kk0) (thn ((pa_tA ok (e :: es)).run pos pins s1 σ' _ (fun vs H2 => ∃ F2, Stt c.z G F2 σ' H2 ρ1 ∧ FStep F0 H1 F2 H2 ∧ DenAll c.z.K F2 ds vs) I1 (ha G F0 σ' _ _ T fun vs F2 H2 T2 s2 l q => ⟨F2, T2, s2, denAll_of l q⟩)) fun us s2 hs2 => ?_) (he X) (hpl X)
  obtain ⟨vs, H2, I2, rv, F2, T2, s2', hd⟩ := hs2
  have e0 : Env0 c.z.P c.z.w c.z.K c.z.mg c.z.base X.A X.stack s2 H2 := by
    have := I2.env0
    rw [ok.P, ok.w, ok.K, ok.mg, ok.base] at this
    exact this
  have kk : ∀ b o, c.kp b o → s2.heap.get? b = some o ∧ H2 b = none := fun b o hk => by
    obtain ⟨k1, k2, k3, k4⟩ := ok.kept b o hk
    exact ⟨I2.base.keep b o k1 k2 k3 k4, I2.base.free b o k1 k2 k4⟩
  have run := hf.2 X.A X.stack s2 H2 us vs Q' F2 ds (ok.room.mono hj) e0 kk s2'.fle T2.fle T2.fnt T2.tabs rv hd (hS _ fun v F3 H3 g q3 => k v F3 H3 (T2.grow g) (s2'.trans g.step) q3)
  refine ⟨hf.1 s2.heap fun b o hk => (kk b o hk).1, wpAny_call (codeAny_mono (by rw [ok.P, ok.w]; exact run) fun r s' q => ?_)⟩
  have z := back_of (CX := CX0) (E := E0) I2 pass0 (r := r) (s' := s') (Q := Q') (by rw [ok.P, ok.w]; exact q)
  cases r with
  | error e => exact z
  | ok fl => cases fl <;> first | exact z | exact z.elim
end
end Fw

set_option Elab.async false
set_option maxRecDepth 100000
set_option maxHeartbeats 4000000
/-! Fw12: a def that gets data and a lambda; x(e, lambda ..). -/
namespace Fw
open PySem PySem.Spec PyProof.Rows L2
abbrev SpC := List D → (D → Prop) → Prop
/-- the def x takes data and, last, a thing to be called -/
structure KnL (Z : Zd) (k j : Nat) (x : Str) (Sl : List D → SpC → (Res → Prop) → Prop) : Prop where
  ex : ∃ f fd ps, Z.mg x = some (.ref f) ∧ PySem.W.keepIn Z.K (.ref f) = true ∧ Binds Z.K fd ps [] ∧ (∀ ds Sc Q, Sl ds Sc Q → ds.length + 1 = ps.length) ∧
    ∀ (p : Addr × Str) (A : Around) (outer : List Env) (s : Shared) (H : Hp) (args : Args) (us : List Value) (vs : List V) (Q : VK) (E : XK) (F : Hp) (ds : List D) (fa : Addr) (Sc : SpC) (kp : Addr → Obj → Prop),
      Rm k A → Env0 Z.P Z.w Z.K Z.mg Z.base A outer s H → BindsTo s fd args (ps.zip us) → Vals (vs ++ [V.ref fa]) us → (∀ b o, kp b o → s.heap.get? b = some o ∧ H b = none ∧ b ∉ frs outer) → Stt (Z.add p) ⟨H, [], nfOf F H⟩ F ((vs ++ [V.ref fa]).map some) H (ds.map Ent.d ++ [.fn j kp Sc]) →
      DenAll Z.K F ds vs → Sl ds Sc (fun r => ∀ v F' H', Stt (Z.add p) ⟨H, [], nfOf F H⟩ F' ((vs ++ [V.ref fa]).map some) H' (ds.map Ent.d ++ [.fn j kp Sc]) → FStep F H F' H' → ResOk (Z.add p) ⟨H, [], nfOf F H⟩ F' ((vs ++ [V.ref fa]).map some) H' (ds.map Ent.d ++ [.fn j kp Sc]) v r → Q v H') →
      codeAny (model Z.P Z.w) A (.call (.ref f) args) (CR (L2.CX Z.P Z.w) outer Z.P Z.w H s Q E) s
/-- by its body -/
theorem knl_of {Z : Zd} {x qual : Str} {params : Arguments} {body : List Stmt} {scope : Scope} {kws : List (Str × V)} {dvs : List V} {f : Addr} {fd : FuncData} {N ps : List Str} {k j : Nat} {Sl : List D → SpC → (Res → Prop) → Prop}
    (F : FunD Z.K x qual params body scope dvs kws f fd) (S : FnScope N ps scope) (hm : Z.mg x = some (.ref f)) (hb : Binds Z.K fd ps []) (len : ∀ ds Sc Q, Sl ds Sc Q → ds.length + 1 = ps.length) (hpn : ps.length ≤ N.length)
    (hbody : ∀ p E kp ds Sc Q, Sl ds Sc Q → EsX ⟨Z.add p, N, scope, fun _ => true, k, E, kp, none⟩ body (ds.map Ent.d ++ .fn j kp Sc :: List.replicate (N.length - (ds.length + 1)) .un) (fun o => match o with
      | .rt r _ => Q r ∧ r.ret = true
      | .nx _ => Q (.d .non)
      | _ => False)) : KnL Z (k + 1) j x Sl := by
  refine ⟨f, fd, ps, hm, F.kp, hb, len, fun p A outer s H args us vs Q E F0 ds fa Sc kp hr e0 hbt rv hk T hd hS => ?_⟩
  have hl := len _ _ _ hS
  have lv : (vs ++ [V.ref fa]).length = ps.length := by rw [List.length_append, hd.length]; exact hl
  refine body_run F S hr e0 hbt rv lv fun cdv hc hr' => ?_
  refine ⟨tSs ⟨Z.add p, N, scope, fun _ => true, k, E, kp, none⟩ body, pss_tSs (c := ⟨Z.add p, N, scope, fun _ => true, k, E, kp, none⟩) (X := cxOf (L2.CX Z.P Z.w) Z.P Z.w Z.K Z.mg Z.base N qual scope f cdv A outer s H E) ⟨rfl, rfl, rfl, rfl, rfl, rfl, rfl, rfl, rfl, PassesOwn.leaving, takes_of rfl rfl rfl rfl, hr', (fun b o h => ⟨(hk b o h).1, (hk b o h).2.1, (hk b o h).2.2, by show b ∉ ([] : List Addr); simp⟩), fun _ z => nomatch z⟩ body, ?_⟩
  obtain ⟨bss, q0, nd0, fr0⟩ := T.ents
  have el : (ds.map Ent.d ++ [Ent.fn j kp Sc]).length = (vs ++ [V.ref fa]).length := by simp [hd.length]
  have S1 : Stt (Z.add p) ⟨H, [], nfOf F0 H⟩ F0 (L2.start N (vs ++ [V.ref fa])) H (ds.map Ent.d ++ .fn j kp Sc :: List.replicate (N.length - (ds.length + 1)) .un) := by
    have e1 : ds.map Ent.d ++ .fn j kp Sc :: List.replicate (N.length - (ds.length + 1)) .un = (ds.map Ent.d ++ [.fn j kp Sc]) ++ List.replicate (N.length - (ds.length + 1)) .un := by simp
    rw [e1]
    refine ⟨T.fle, T.fnt, T.keep, T.nf, T.dom, T.tabs, bss ++ List.replicate (N.length - (ds.length + 1)) [], ?_, by simpa using nd0, by simpa using fr0⟩
    unfold L2.start
    rw [show (vs ++ [V.ref fa]).length = ds.length + 1 by simp [hd.length]]
    exact q0.app (un_ents _)
  have io : ∀ {F' H' : Hp} {σ' : L2.St} {ρ' : Env'}, Stt (Z.add p) ⟨H, [], nfOf F0 H⟩ F' σ' H' ρ' → FStep F0 H F' H' → Stt (Z.add p) ⟨H, [], nfOf F0 H⟩ F' ((vs ++ [V.ref fa]).map some) H' (ds.map Ent.d ++ [.fn j kp Sc]) := fun {F' H' σ' ρ'} S' s => T.grow (grow_of S' s)
  refine hbody p E kp ds Sc _ hS ⟨H, [], nfOf F0 H⟩ F0 _ H _ S1 fun o q => ?_
  cases o with
  | nx ρ' => exact fun F' σ' H' S' s => q .non F' H' (io S' s) s rfl
  | rt r ρ' =>
    obtain ⟨q, hr2⟩ := q
    refine fun F' σ' H' v S' s h => q v F' H' (io S' s) s ?_
    cases r with
    | d z => exact h
    | fr t => exact T.call0 h S'.len s
    | sub i p' => cases hr2
  | rz C fs ρ' => exact q.elim
  | bk ρ' => exact q.elim
  | ct ρ' => exact q.elim
/-! ### a lambda is made: what stood stays -/
/-- the heap with one more code object in the table at P -/
def putCode (H : Hp) (P c : Addr) (nm : Str) (qs : Array Value) : Hp := upd (upd H P (.tbl qs)) c (LamX.CodeO c nm)
section
variable {X : Cx} {pins : List (Addr × Obj)} {σ : L2.St} {H : Hp} {s : Shared}
theorem putCode_at {P c : Addr} {nm : Str} {qs : Array Value} {a : Addr} (h1 : a ≠ P) (h2 : a ≠ c) : putCode H P c nm qs a = H a := by
  unfold putCode
  rw [upd_ne h2, upd_ne h1]
theorem putCode_P {P c : Addr} {nm : Str} {qs : Array Value} (h : P ≠ c) : putCode H P c nm qs P = some (.tbl qs) := by
  unfold putCode
  rw [upd_ne h, upd_same]
theorem putCode_c {P c : Addr} {nm : Str} {qs : Array Value} : putCode H P c nm qs c = some (LamX.CodeO c nm) := upd_same
theorem lam_mk {T : List (Addr × Str)} {cc P : Addr} {nm : Str} {params : Arguments} {body : Expr} {scope : Scope} {pos : Pos} {E Q : Value → Shared → Prop} (I : Inv X pins σ H s) (B : LamX.TabB X.base X.mg cc P) (hc : X.env.code = .ref cc) (hnm : X.env.qual ++ "<lambda>" = nm)
    (hP : (P, nm) ∈ T) (hu : ∀ t ∈ T, t.1 = P → t.2 = nm) (hT : LamX.Tabs T H) (hd : defaultsOf params X.env = ([], [])) (hf : ∀ y ∈ scope.names, y.2 = .free → ∃ c, X.env.cells.lookup y.1 = some c)
    (k : ∀ (f c' : Addr) (pm ctv : Value) (H1 : Hp) (s1 : Shared), Inv X pins σ H1 s1 → LamX.ExtN H H1 → (∀ a, H a ≠ none → H1 a ≠ none) → LamX.Tabs T H1 → s1.heap.get? f = some (PySem.W.kla_obj "<lambda>" nm params body scope (cloFrom X.env.cells scope.names []) pm c' ctv) →
      H1 f = none → f ∉ frs X.stack → H1 c' = some (LamX.CodeO c' nm) → Q (.ref f) s1) : wpAny (model X.prog X.w) X.A (eval (.Lambda params body scope pos) X.env) Q E s := by
  subst hnm
  obtain ⟨qs, tb, tri, known⟩ := hT (P, _) hP
  have tb : H P = some (.tbl qs) := tb
  have heapP : s.heap.get? P = some { cls := .none, data := .fields qs } := I.hok P _ tb
  have newOut : ∀ a, s.heap.objs.size ≤ a → a ∉ frs X.stack := fun a ha z => by
    rcases List.mem_cons.mp (I.stkSub a z) with w | w
    · exact absurd (w ▸ I.lt) (Nat.not_lt.mpr ha)
    · exact I.nofs ha w
  apply PySem.W.kla_eval hd
  by_cases hit : ∃ cv, codeAmong pos qs.toList = some cv
  · obtain ⟨cv, hcv⟩ := hit
    obtain ⟨c', rfl, hco⟩ := known pos cv hcv
    apply PySem.W.kla_makeFunctionHit (closure_ok hf) I.ok.glob (I.mod.glob.keeps I.bk) hc (B.code.keeps I.bk) heapP tri hcv (B.bm.keeps I.bk)
    intro ctv h1 tk kept1 big
    exact k _ c' _ ctv H _ (I.kept fun a o e => Heap.get?_push_of_some _ (kept1 a o e)) (LamX.ExtN.refl H) (fun a h => h) hT (Heap.get?_push_size _ rfl) (I.hok.fresh big) (newOut _ big) hco
  · have miss : codeAmong pos qs.toList = none := by
      cases e : codeAmong pos qs.toList with
      | none => rfl
      | some cv => exact absurd ⟨cv, e⟩ hit
    apply PySem.W.kla_makeFunction (closure_ok hf) I.ok.glob (I.mod.glob.keeps I.bk) hc (B.code.keeps I.bk) heapP tri miss B.gP (B.bm.keeps I.bk)
    intro c' ctv h1 tk but1 ge1 lt1 rec1 tab1
    obtain ⟨c2, oc, fv, tt, ec, hoc, hdc, hvc⟩ := rec1
    cases ec
    have freshC : H c' = none := I.hok.fresh ge1
    have nPc : P ≠ c' := fun z => by rw [z, freshC] at tb; cases tb
    have big : s.heap.objs.size ≤ h1.objs.size := Nat.le_trans ge1 (Nat.le_of_lt lt1)
    have nfP : h1.objs.size ≠ P := Nat.ne_of_gt (Nat.lt_of_lt_of_le (Heap.lt_size heapP) big)
    have I1 := LamX.inv_table (t' := tk) (q := X.env.qual ++ "<lambda>") (more := #[rawInt pos.line, rawInt pos.col, .ref c']) (h' := h1.push (PySem.W.kla_obj "<lambda>" (X.env.qual ++ "<lambda>") params body scope (cloFrom X.env.cells scope.names []) ((X.mg "__name__").getD .none) c' ctv)) I tb
      (fun a o ha e => Heap.get?_push_of_some _ (but1 a o ha e)) (Heap.get?_push_of_some _ tab1) ge1 ⟨oc, fv, tt, Heap.get?_push_of_some _ hoc, hdc, hvc⟩
    have lst : (qs ++ #[rawInt pos.line, rawInt pos.col, .ref c']).toList = qs.toList ++ [rawInt pos.line, rawInt pos.col, .ref c'] := by simp
    have ext : LamX.ExtN H (putCode H P c' (X.env.qual ++ "<lambda>") (qs ++ #[rawInt pos.line, rawInt pos.col, .ref c'])) := fun a o e n => by
      rw [putCode_at (fun z => n qs (by rw [z, tb] at e; exact (Option.some.inj e).symm)) (fun z => by rw [z, freshC] at e; cases e)]
      exact e
    apply k h1.objs.size c' ((X.mg "__name__").getD .none) ctv (putCode H P c' (X.env.qual ++ "<lambda>") (qs ++ #[rawInt pos.line, rawInt pos.col, .ref c'])) _ I1 ext
    · intro a ha
      by_cases e1 : a = P
      · rw [e1, putCode_P nPc]; exact fun z => nomatch z
      · by_cases e2 : a = c'
        · exact absurd freshC (by rw [← e2]; exact ha)
        · rw [putCode_at e1 e2]; exact ha
    · intro t ht
      by_cases e1 : t.1 = P
      · rw [hu t ht e1, e1]
        refine ⟨_, putCode_P nPc, by rw [lst]; exact PySem.TriplesOk_snoc _ _ _ _ tri, fun p2 cv hcv => ?_⟩
        rw [lst] at hcv
        rcases LamX.among_app _ tri hcv with z | z
        · obtain ⟨c0, e2, e3⟩ := known p2 cv z
          exact ⟨c0, e2, ext _ _ e3 LamX.codeO_ne⟩
        · exact ⟨c', z, putCode_c⟩
      · obtain ⟨ps2, a1, a2, a3⟩ := hT t ht
        refine ⟨ps2, by rw [putCode_at e1 (fun z => by rw [z, freshC] at a1; cases a1)]; exact a1, a2, fun p2 cv hcv => ?_⟩
        obtain ⟨c0, e2, e3⟩ := a3 p2 cv hcv
        exact ⟨c0, e2, ext _ _ e3 LamX.codeO_ne⟩
    · exact Heap.get?_push_size _ rfl
    · rw [putCode_at nfP (Nat.ne_of_gt lt1)]
      exact I.hok.fresh big
    · exact newOut _ big
    · exact putCode_c
end
section
variable {c : CD} {vis loc : List Nat} {gl : List Str} {ρ ρ1 ρ2 : Env'}
/-- a captured name: its slot among the maker's -/
structure Cap (c : CD) (ρ : Env') (fr : List Str) (ix : List Nat) (xs : List D) : Prop where
  n : ix.length = fr.length
  m : xs.length = fr.length
  at_ : ∀ (m : Nat) (y : Str), fr[m]? = some y → ∃ i x, ix[m]? = some i ∧ xs[m]? = some x ∧ c.N[i]? = some y ∧ ρ[i]? = some (.d x) ∧ c.sc.names.lookup y = some .cell ∧ c.fn y = true
/-- x(e, lambda ..: body) -/
theorem E_lam (S : ScOk c vis loc gl) {j m : Nat} {x q : Str} {p lpos pos : Pos} {e : Expr} {params : Arguments} {body : Expr} {scope : Scope} {d : D} {r : Res} {Sl : List D → SpC → (Res → Prop) → Prop} {Sc : SpC} {cc P : Addr} {ps fr : List Str} {ix : List Nat} {xs : List D}
    (F : KnL c.z j (m + 1) x Sl) (hj : j ≤ c.k) (hmk : c.mkr = some (q, cc)) (TB : LamX.TabB c.base c.mg cc P) (hmT : (P, q ++ "<lambda>") ∈ c.z.T) (hu : ∀ t ∈ c.z.T, t.1 = P → t.2 = q ++ "<lambda>") (he : EvX c e ρ (.d d) ρ1) (L : LamP ps fr scope)
    (hC : Cap c ρ1 fr ix xs) (hall : ∀ y ∈ scope.names, y.2 = .free → y.1 ∈ fr) (hdef : ∀ X : Cx, defaultsOf params X.env = ([], []))
    (hbind : ∀ (q : Str) (cl : List (Str × Addr)) (pm cv ctv : Value) (us : List Value), us.length = ps.length → bindArgs (PySem.W.kla_fn "<lambda>" q params body scope cl pm cv ctv) ⟨us, []⟩ = pure (ps.zip us)) (hlen : ∀ ds Q, Sc ds Q → ds.length = ps.length)
    (hb : ∀ t ds Q, Sc ds Q → ∃ r ρ', EvX (lamCD (c.z.add t) (ps ++ fr) scope m) body (ds.map Ent.d ++ xs.map Ent.d) (.d r) ρ' ∧ Q r) (hS : ∀ Q : Res → Prop, Q r → Sl [d] Sc Q) (hr : r.ret = true) (hx : x ∈ gl) (hs : ∀ X : Cx, starEach [e, .Lambda params body scope lpos] X.env = [(false, eval e X.env), (false, eval (.Lambda params body scope lpos) X.env)]) :
    EvX c (.Call (.Name x p) [e, .Lambda params body scope lpos] [] pos) ρ r ρ1 := fun G F0 σ H Q T k => by
  obtain ⟨f, fd, qs, hm, hk, hbd, hlq, run⟩ := F.ex
  refine ⟨fun σ' H' Q' => σ' = σ ∧ H' = H ∧ Q' = Q, fun X ok => ⟨fun pins s σ' H' Q' I h => ?_⟩, rfl, rfl, rfl⟩
  obtain ⟨rfl, rfl, rfl⟩ := h
  obtain ⟨oq, oc⟩ := ok.maker _ hmk
  refine wpAny_Call_Name_kw (ld_glob I (ok.glOf S hx) (by rw [ok.mg]; exact hm) ?_ (S.glOf hx).2.1)
  refine PySem.W.callWith_K (h₀ := X.base) I.ok.mod.kin (by rw [ok.K]; exact hk) ?_ (hs X) rfl
  rw [hs X]
  show wpAny _ _ (spliced ((false, eval e X.env) :: [(false, eval (.Lambda params body scope lpos) X.env)])) _ _ s
  refine Calls.spliced_cons (thn ((pe_tE ok e).run pins s σ' H' (fun v H1 => ∃ F1, Stt c.z G F1 σ' H1 ρ1 ∧ FStep F0 H' F1 H1 ∧ Den c.K F1 d v) I (he G F0 σ' H' _ T fun v F1 H1 T1 s1 q1 => ⟨F1, T1, s1, q1⟩)) fun u s1 ⟨v, H1, I1, rv, F1, T1, st1, dv⟩ => ?_)
  have hfree : ∀ y ∈ scope.names, y.2 = .free → ∃ c, X.env.cells.lookup y.1 = some c := fun y hy e => by
    obtain ⟨mm, hmm⟩ := List.getElem?_of_mem (hall y hy e)
    obtain ⟨i, xx, _, _, _, _, hc, _⟩ := hC.at_ mm y.1 hmm
    exact I1.ok.has _ (.inl (by show X.env.scope.names.lookup y.1 = _; rw [ok.sc]; exact hc))
  refine Calls.spliced_cons (lam_mk (T := c.z.T) (cc := cc) (P := P) (nm := q ++ "<lambda>") I1 (by rw [ok.base, ok.mg]; exact TB) oc (by rw [oq]) hmT hu T1.tabs.1 (hdef X) hfree fun fa c' pm ctv H2 s2 I2 eN dom2 T2 hfo hfn hfr hco => ?_)
  have kin2 : X.K.In s2.heap := I2.kIn
  refine Calls.spliced_nil ⟨kin2, ?_⟩
  -- the state behind the making
  have g2 : Grow c.z F1 H1 F1 H2 := ⟨eN, .refl F1, fun b o e => eN b o (T1.fle b o e) (T1.fnt b o e), fun _ _ e => e, dom2, fun tb => ⟨T2, fun t ht => eN _ _ (tb.2 t ht) fun ps => LamX.codeO_ne ps⟩, fun h => h⟩
  have T3 := T1.grow g2
  have hcl : ∀ {y : Str} {c0 : Addr}, (cloFrom X.env.cells scope.names []).lookup y = some c0 → y ∈ fr ∧ X.env.cells.lookup y = some c0 := fun {y c0} ec => by
    rcases cloFrom_mem (PySem.mem_of_lookup ec) with hz | ⟨h1, h2⟩
    · cases hz
    · obtain ⟨c1, hc1⟩ := hfree _ h1 rfl
      have hc1 : X.env.cells.lookup y = some c1 := hc1
      rw [hc1] at h2
      exact ⟨hall _ h1 rfl, by rw [hc1, show c0 = c1 from h2]⟩
  have looks : ∀ {y : Str}, y ∈ fr → ∃ c0, (cloFrom X.env.cells scope.names []).lookup y = some c0 := fun {y} hy => mem_lookup (cloFrom_has (cells := X.env.cells) (acc := []) (PySem.mem_of_lookup (L.free y hy)))
  have nfs : ∀ {y : Str} {c0 : Addr}, y ∈ fr → X.env.cells.lookup y = some c0 → c0 ∉ frs X.stack := fun {y c0} hy hc z => by
    rcases List.mem_cons.mp (I2.stkSub _ z) with w | w
    · exact I2.cne y c0 hc w
    · obtain ⟨_, o, ho, _⟩ := I2.ok.funs.mem w
      obtain ⟨mm, hmm⟩ := List.getElem?_of_mem hy
      obtain ⟨_, _, _, _, _, _, _, hfn'⟩ := hC.at_ mm y hmm
      exact absurd (Heap.lt_size ho) (Nat.not_lt.mpr (I2.ok.cab y c0 (by rw [ok.fn]; exact hfn') hc))
  let kp : Addr → Obj → Prop := fun b o => s2.heap.get? b = some o ∧ H2 b = none ∧ b ∉ frs X.stack
  obtain ⟨mvals, hns, hloc⟩ := I2.loc
  -- what is captured
  let caps : L2.St := ix.map fun i => (σ'[i]?).join
  have hcaps : caps.length = fr.length := by simp [caps, hC.n]
  have capd : ∀ (mm : Nat) (y : Str), fr[mm]? = some y → ∃ x0 v0, xs[mm]? = some x0 ∧ caps[mm]? = some (some v0) ∧ Den c.K F1 x0 v0 ∧ ∃ u0 c0, RelV v0 u0 ∧ X.env.cells.lookup y = some c0 ∧ s2.heap.IsCell c0 (some u0) := fun mm y hy => by
    obtain ⟨i, x0, hi, hx0, hN, hρ, hc, _⟩ := hC.at_ mm y hy
    obtain ⟨v0, hv0, dv0⟩ := T3.at hρ
    refine ⟨x0, v0, hx0, ?_, dv0, ?_⟩
    · show (ix.map fun i => (σ'[i]?).join)[mm]? = _
      rw [List.getElem?_map, hi]
      show some ((σ'[i]?).join) = _
      rw [hv0]
      rfl
    · have vis' : Vis X.env.scope y := .inr (.inl (by rw [ok.sc]; exact hc))
      obtain ⟨u0, r0, lk⟩ := hloc i y v0 (by rw [ok.N]; exact hN) hv0 vis'
      rcases lk with ⟨hkd, _⟩ | ⟨_, c0, ec, ic⟩
      · have hkd : X.env.scope.names.lookup y = some .local := hkd
        rw [ok.sc, hc] at hkd
        cases hkd
      · exact ⟨u0, c0, r0, ec, ic⟩
  have hE : EntsOk (c.z.add (c', q ++ "<lambda>")) (fun _ => False) F1 H2 (xs.map Ent.d) caps (List.replicate fr.length []) := by
    have go : ∀ (xs : List D) (fr : List Str) (caps : L2.St), xs.length = fr.length → caps.length = fr.length → (∀ (mm : Nat) (y : Str), fr[mm]? = some y → ∃ x0 v0, xs[mm]? = some x0 ∧ caps[mm]? = some (some v0) ∧ Den c.K F1 x0 v0) → EntsOk (c.z.add (c', q ++ "<lambda>")) (fun _ => False) F1 H2 (xs.map Ent.d) caps (List.replicate fr.length []) := by
      intro xs
      induction xs with
      | nil =>
        intro fr caps l1 l2 _
        cases fr with
        | nil => exact ⟨List.eq_nil_of_length_eq_zero l2, rfl⟩
        | cons _ _ => simp at l1
      | cons x0 xs ih =>
        intro fr caps l1 l2 hh
        cases fr with
        | nil => simp at l1
        | cons y fr =>
          cases caps with
          | nil => simp at l2
          | cons o caps =>
            obtain ⟨x1, v1, e1, e2, e3⟩ := hh 0 y rfl
            simp at e1 e2
            subst e1 e2
            exact ⟨some v1, caps, [], List.replicate fr.length [], rfl, rfl, ⟨rfl, v1, rfl, e3⟩, ih fr caps (by simpa using l1) (by simpa using l2) fun mm y hy => by
              obtain ⟨x2, v2, a1, a2, a3⟩ := hh (mm + 1) y (by simpa using hy)
              exact ⟨x2, v2, by simpa using a1, by simpa using a2, a3⟩⟩
    exact go xs fr caps hC.m hcaps fun mm y hy => by
      obtain ⟨x0, v0, a1, a2, a3, _⟩ := capd mm y hy
      exact ⟨x0, v0, a1, a2, a3⟩
  have hCall : Callable (c.z.add (c', q ++ "<lambda>")) (m + 1) kp F1 fa Sc := by
    refine callable_of (s0 := s2) (q := q ++ "<lambda>") (cl := cloFrom X.env.cells scope.names []) (ps := ps) (fr := fr) (caps := caps) (ρc := xs.map Ent.d) (H0 := H2) L ⟨hfo, hfn, hfr⟩ (by simp) (fun y hy => looks ?_) (fun y z c0 e1 e2 => I2.ok.inj y z c0 (hcl e1).2 (hcl e2).2) (fun y c0 ec => ?_) (fun mm y v0 hy hv => ?_) hcaps hE (fun e he => ?_) (fun s us hl => .of_eq (hbind _ _ _ _ _ us hl)) hlen (fun ds Q h => hb _ ds Q h)
    · exact hall _ (PySem.mem_of_lookup hy) rfl
    · obtain ⟨vv, o2, ho2, hd2⟩ := I2.cell y c0 (hcl ec).2
      exact ⟨vv, o2, ⟨ho2, I2.freeC y c0 (hcl ec).2, nfs (hcl ec).1 (hcl ec).2⟩, hd2⟩
    · obtain ⟨x0, v1, a1, a2, a3, u0, c0, b1, b2, o2, b3, b4⟩ := capd mm y hy
      rw [hv] at a2
      cases a2
      obtain ⟨c1, hc1⟩ := looks (List.mem_of_getElem? hy)
      have := (hcl hc1).2
      rw [b2] at this
      cases this
      exact ⟨u0, c0, o2, b1, hc1, ⟨b3, I2.freeC y c0 b2, nfs (List.mem_of_getElem? hy) b2⟩, b4⟩
    · obtain ⟨_, _, rfl⟩ := List.mem_map.mp he
      trivial
  have dv2 : Den c.K F1 d v := dv
  have SA : Stt (c.z.add (c', q ++ "<lambda>")) ⟨H2, [], nfOf F1 H2⟩ F1 (([v] ++ [V.ref fa]).map some) H2 ([d].map Ent.d ++ [.fn (m + 1) kp Sc]) :=
    ⟨T3.fle, T3.fnt, fun b o e _ _ => e, fun a h => h, fun a h => h, ⟨T3.tabs.1, fun t ht => by
      rcases List.mem_cons.mp ht with rfl | ht
      · exact hco
      · exact T3.tabs.2 t ht⟩, [[], []], ⟨_, _, [], [[]], rfl, rfl, ⟨rfl, v, rfl, dv2⟩, _, _, [], [], rfl, rfl, ⟨rfl, fa, rfl, hCall⟩, rfl, rfl⟩, by simp, by simp⟩
  have e0 : Env0 c.z.P c.z.w c.z.K c.z.mg c.z.base X.A X.stack s2 H2 := by
    have := I2.env0
    rw [ok.P, ok.w, ok.K, ok.mg, ok.base] at this
    exact this
  have rvs : Vals ([v] ++ [V.ref fa]) [u, Value.ref fa] := .cons rv (.cons rfl .nil)
  have hbt : BindsTo s2 fd ⟨[u, Value.ref fa], []⟩ (qs.zip [u, Value.ref fa]) := by
    have hl2 := hlq [d] Sc (fun _ => True) (hS _ trivial)
    have kin3 : c.z.K.In s2.heap := by
      have := kin2
      rw [ok.K] at this
      exact this
    have := hbd s2 [u, Value.ref fa] kin3 (by simpa using hl2)
    simpa using this
  have fin := run (c', q ++ "<lambda>") X.A X.stack s2 H2 ⟨[u, Value.ref fa], []⟩ [u, Value.ref fa] [v] Q' c.E F1 [d] fa Sc kp (ok.room.mono hj) e0 hbt rvs (fun b o h => h) SA ⟨v, [], rfl, dv2, rfl⟩ (hS _ fun w F' H' S' s' q => ?_)
  · refine wpAny_call (codeAny_mono (by rw [ok.P, ok.w]; exact fin) fun r s' q => ?_)
    have z := back_of (CX := L2.CX X.prog X.w) (E := c.E) I2 ok.pass (r := r) (s' := s') (Q := Q') (by rw [ok.P, ok.w]; exact q)
    cases r with
    | error e => exact z
    | ok fl => cases fl <;> first | exact z | exact z.elim
  · -- back in the caller
    have S'' : Stt c.z ⟨H2, [], nfOf F1 H2⟩ F' [] H' [] := ⟨S'.fle, S'.fnt, S'.keep, S'.nf, S'.dom, S'.tabs.of_add, [], ⟨rfl, rfl⟩, by simp, by simp⟩
    have g := grow_of S'' s'
    refine k w F' H' (T3.grow g) ((st1.trans g2.step).trans g.step) ?_
    cases r with
    | d z => exact q
    | sub i p' => cases hr
    | fr t =>
      obtain ⟨a1, as, _, _, _, qt, ndt, nn, frt, _⟩ := Stt.last q S'.len
      have ST : Stt c.z ⟨H2, [], nfOf F1 H2⟩ F' ([] ++ [some w]) H' ([] ++ [.ot none t]) := S''.snoc (ass := []) ⟨rfl, rfl⟩ (by simp) (by simp) (e := .ot none t) (o := some w) ⟨w, rfl, qt, fun _ => nn, fun _ z => nomatch z⟩ ndt frt (by simp)
      exact T3.call0 ST rfl s'
end
end Fw

set_option Elab.async false
set_option maxRecDepth 100000
set_option maxHeartbeats 4000000
/-! Fw13: from a law's row to its def. -/
namespace Fw
open PySem PySem.Spec PyProof.Rows L2
section
variable {P : Program} {w : World} {K : PySem.W.Frag} {mg mb : Str → Option Value} {CX : CXT} {fa a : Addr} {cs : List (Addr × Addr)} {st : Shared} {vs : List Value} {H : Hp}
theorem law_core (KX : K.In st.heap) (gN : st.heap.Ns mainGlobals mg) (bN : st.heap.Ns builtinsNs mb) (bB : ∀ x : Str, x ≠ "__name__" → mb x = bootBuiltins x) (nl : st.heap.NoLimit) (gn : st.gens = #[])
    (tabs : ∀ t ∈ cs, st.heap.get? t.2 = some { cls := .none, data := .fields #[] }) (nK : ∀ t ∈ cs, K.lookup t.2 = none) (cod : ∀ t ∈ cs, PySem.W.CodeHd st.heap t.1 t.2)
    (mainB : ∃ (bm : Addr) (ob : Obj), mg "__builtins__" = some (.ref bm) ∧ bm ≠ builtinsNs ∧ st.heap.get? bm = some ob ∧ ob.cls = .type "module" ∧ ob.dict = some builtinsNs ∧ ob.data = .plain)
    (lst : st.heap.get? a = some { cls := .type "list", data := .seq vs.toArray }) (A1 : ∀ t ∈ cs, H t.2 = some (.tbl #[])) (A2 : ∀ b u, H b = some u → (∃ t ∈ cs, t.2 = b) ∨ (b = a ∧ K.lookup a = none ∧ ∃ o xs, u = .frz o (.lst xs))) (A3 : HOk P w H st.heap)
    (run : ∀ base : Heap, K.In base → base.Ns mainGlobals mg → (∀ t ∈ cs, LamX.TabB base mg t.1 t.2) → Env0 P w K mg base callerA [] st H → codeAny (model P w) callerA (.call (.ref fa) ⟨[.ref a], []⟩) (CR CX [] P w H st (fun v _ => v = .bl true) fun _ _ _ => False) st)
    (hCX : ∀ e s', CX [] H st (fun _ _ _ => False) e s' → False) :
    codeAny (model P w) callerA (.call (.ref fa) ⟨[.ref a], []⟩) (fun r s' => r = .ok (.ret (.bool true)) ∧ OldK st.heap s'.heap ∧ s'.os = st.os ∧ AllBare s'.gens) st := by
  have low : ∀ {b : Addr} {o : Obj}, st.heap.get? b = some o → (∀ us n, o.data ≠ .seq us n) → o.data ≠ .fields #[] → H b = none := by
    intro b o e h1 h2
    cases q : H b with
    | none => rfl
    | some u =>
      rcases A2 b u q with ⟨t, ht, rfl⟩ | ⟨rfl, _⟩
      · rw [tabs t ht] at e
        cases e
        exact absurd rfl h2
      · rw [lst] at e
        cases e
        exact absurd rfl (h1 _ _)
  have nsUp : ∀ {x : Addr} {m : Str → Option Value}, st.heap.Ns x m → (hidT st.heap H).Ns x m := by
    intro x m h
    obtain ⟨o, es, ep, e, d, r⟩ := h
    refine ⟨o, es, ep, hidT_get e (low e (fun us n z => ?_) fun z => ?_), d, r⟩ <;> (rw [d] at z; cases z)
  have kin : K.In (hidT st.heap H) := by
    intro b o e
    refine hidT_get (KX b o e) ?_
    cases q : H b with
    | none => rfl
    | some u =>
      rcases A2 b u q with ⟨t, ht, rfl⟩ | ⟨rfl, n, _⟩
      · rw [nK t ht] at e; cases e
      · rw [n] at e; cases e
  have tb : ∀ t ∈ cs, LamX.TabB (hidT st.heap H) mg t.1 t.2 := by
    intro t ht
    have here := tabs t ht
    constructor
    · obtain ⟨o, us, fl, tf, fg, tg, ii, tx, tt, e1, c1, c2, c3, rest⟩ := cod t ht
      refine ⟨o, us, fl, tf, fg, tg, ii, tx, tt, hidT_get e1 (low e1 (fun zs n z => ?_) fun z => ?_), c1, c2, c3, rest⟩
      · rw [c2] at z; cases z
      · rw [c2] at z
        cases z
        simp at c3
    · obtain ⟨bm, ob, b1, b2, b3, b4, b5, b6⟩ := mainB
      refine ⟨bm, ob, b1, b2, fun z => ?_, fun z => ?_, hidT_get b3 (low b3 (fun us n z => ?_) fun z => ?_), b4, b5, b6⟩
      · obtain ⟨o, es, ep, e, d, _⟩ := gN
        rw [z, e] at b3
        cases b3
        rw [d] at b6
        cases b6
      · rw [z, here] at b3
        cases b3
        cases b6
      · rw [b6] at z; cases z
      · rw [b6] at z; cases z
    · intro z
      obtain ⟨o, es, ep, e, d, _⟩ := gN
      rw [z, here] at e
      cases e
      cases d
  have modul : L2.Mod K mg (hidT st.heap H) := by
    obtain ⟨mc, l1, l2⟩ := nl
    exact ⟨kin, nsUp gN, ⟨mb, nsUp bN, bB⟩, ⟨mc, nsUp l1, l2⟩⟩
  have e0 : Env0 P w K mg (hidT st.heap H) callerA [] st H := ⟨rfl, modul, fun b o e => of_hidT e, Nat.le_of_eq (hidT_size _ _), trivial, (fun b hb => by cases (show b ∈ ([] : List Addr) from hb)), A3, .of_eq gn⟩
  refine codeAny_mono (run _ kin (nsUp gN) tb e0) ?_
  intro r s' h
  match r, h with
  | .error e, h => exact (hCX e s' h).elim
  | .ok .next, h => exact False.elim h
  | .ok .brk, h => exact False.elim h
  | .ok .cont, h => exact False.elim h
  | .ok (.ret u), h =>
    obtain ⟨v, H', os, bare, un, hok, rv, q⟩ := h
    have q : v = .bl true := q
    subst q
    obtain rfl : u = Value.bool true := rv
    have old : ∀ b o, (¬ ∃ t ∈ cs, t.2 = b) → st.heap.get? b = some o → s'.heap.get? b = some o := by
      intro b o nb e
      cases q : H b with
      | none => exact un.keep b o e q (fun z => by cases z) (fun z => by cases z)
      | some u =>
        rcases A2 b u q with z | ⟨rfl, _, ob, xs, rfl⟩
        · exact absurd z nb
        · obtain ⟨g1, _⟩ := A3 b _ q
          obtain ⟨g2, _⟩ := hok b _ (un.frzs b ob _ q)
          rw [e] at g1
          cases g1
          exact g2
    have grew : ∀ t ∈ cs, ∃ more : Array Value, s'.heap.get? t.2 = some { cls := .none, data := .fields more } := by
      intro t ht
      obtain ⟨more, z⟩ := un.tbls t.2 #[] (A1 t ht)
      exact ⟨_, hok t.2 _ z⟩
    refine ⟨rfl, ⟨fun b o e => ?_, fun b o e => ?_⟩, os, bare⟩
    · by_cases hb : ∃ t ∈ cs, t.2 = b
      · obtain ⟨t, ht, rfl⟩ := hb
        obtain ⟨more, hm⟩ := grew t ht
        rw [tabs t ht] at e
        cases e
        refine .inr (.inl ⟨((cod t ht).tab (tabs t ht)).isCodeTable, rfl, #[], more, rfl, ?_⟩)
        rw [Array.empty_append]
        exact hm
      · exact .inl (old b o hb e)
    · by_cases hb : ∃ t ∈ cs, t.2 = b
      · obtain ⟨t, ht, rfl⟩ := hb
        obtain ⟨more, hm⟩ := grew t ht
        exact ⟨_, hm⟩
      · exact ⟨o, old b o hb e⟩
/-- a law's def keeps its promise at every script -/
structure LawK (l : PySem.W.OpenLaw) (w : World) (K : PySem.W.Frag) (k n : Nat) (x : Str) (mg : Str → Option Value) (fa : Addr) (h : Heap) : Prop where
  ex : ∃ (fd : FuncData) (cs : List (Addr × Addr)) (T : List (Addr × Str)), (∀ t ∈ cs, h.get? t.2 = some { cls := .none, data := .fields #[] }) ∧ (∀ t ∈ cs, K.lookup t.2 = none) ∧ (∀ t ∈ cs, PySem.W.CodeHd h t.1 t.2) ∧ (∀ q ∈ T, ∃ t ∈ cs, t.2 = q.1) ∧
    (∀ (s : Shared) (u : Value), BindsTo s fd ⟨[u], []⟩ [(x, u)]) ∧ ∀ base : Heap, K.In base → base.Ns mainGlobals mg → (∀ t ∈ cs, LamX.TabB base mg t.1 t.2) →
      FnK l.prog w K mg base (L2.CX l.prog w) k fa fd [x] (SpP ⟨l.prog, w, K, mg, base, T, []⟩ fun ds Q _ => ∃ ns : List Int, ds = [.scr ns] ∧ ns.length ≤ n ∧ (∀ z ∈ ns, Builtin.Int.intBits z ≤ 1048576) ∧ Q (.d (.bl true)))
theorem walk_K {l : PySem.W.OpenLaw} {n k : Nat} {q : Program} {loose : List Str} {XP : (Str → Option Value) → Heap → Prop} {YP : World → Heap → Prop} {d : DefRec} {x : Str}
    (hn : l.most = some n) (hn2 : n ≤ sizeLine) (hdf : d.params.defaults = []) (hr : Rm k callerA)
    (F : ∀ (w : World) (mg : Str → Option Value) (fa : Addr) (h : Heap), YP w h → h.Ns mainGlobals mg → mg d.name = some (.ref fa) → ∃ K : PySem.W.Frag, K.In h ∧ LawK l w K k n x mg fa h) :
    PySem.W.WalkO q loose XP YP l.row.toRowW d [] (fun f vs => PySem.call f vs) := by
  apply Att.attach_callB hn hdf
  intro w s0 st mg mb fa o pm cd doc a vs ns G Y ho hd hcd hmg lst hin len bits gn
  obtain ⟨K, KX, LK⟩ := F w mg fa st.heap Y G.T.g hmg
  obtain ⟨fd, cs, T, tabs, nK, cod, hT, hb, hF⟩ := LK.ex
  have rv := vals_ints hin
  have lv : vs.length = ns.length := hin.length
  have aT : ¬ ∃ t ∈ cs, t.2 = a := fun ⟨t, ht, e⟩ => by
    have q := tabs t ht
    rw [e, lst] at q
    have q := congrArg Obj.data (Option.some.inj q)
    cases q
  -- the abstract heap: the tables, the script
  have fin : ∀ (H : Hp), (∀ t ∈ cs, H t.2 = some (.tbl #[])) → (∀ b u, H b = some u → (∃ t ∈ cs, t.2 = b) ∨ (b = a ∧ K.lookup a = none ∧ ∃ o xs, u = .frz o (.lst xs))) → HOk l.prog w H st.heap → SqL K (fun b => if b = a then H b else none) a (ns.map V.int) →
      codeAny (model l.prog w) callerA (.call (.ref fa) ⟨[.ref a], []⟩) (fun r s' => r = .ok (.ret (.bool true)) ∧ OldK st.heap s'.heap ∧ s'.os = st.os ∧ AllBare s'.gens) st := by
    intro H A1 A2 A3 hS
    refine law_core (CX := L2.CX l.prog w) KX G.T.g G.T.b G.T.builtins G.T.nolimit gn tabs nK cod G.T.bmain lst A1 A2 A3 (fun base kb gb tb e0 => ?_) fun e s' h => ?_
    · refine (hF base kb gb tb).run callerA [] st H ⟨[.ref a], []⟩ [.ref a] [.ref a] _ _ hr e0 (hb st (.ref a)) (.cons rfl .nil) ?_
      have fle : FLe (fun b => if b = a then H b else none) H := fun b o e => by
        by_cases z : b = a
        · have e : (if b = a then H b else none) = some o := e
          rw [if_pos z] at e
          exact e
        · have e : (if b = a then H b else none) = some o := e
          rw [if_neg z] at e
          cases e
      refine ⟨fun b => if b = a then H b else none, [.d (.scr ns)], [], fun _ => False, ⟨fle, fun b o e => ?_, fun b o e _ _ => e, fun _ z => z.elim, fun _ z => z, ⟨fun p hp => ?_, by simp⟩, [[]], ⟨_, _, [], [], rfl, rfl, ⟨rfl, _, rfl, a, rfl, hS⟩, rfl, rfl⟩, by simp, by simp⟩, [.scr ns], rfl, ns, rfl, len, bits, fun v F' H' _ _ z => z⟩
      · by_cases z : b = a
        · have e : (if b = a then H b else none) = some o := e
          rw [if_pos z] at e
          rcases A2 b o e with ⟨t, ht, y⟩ | ⟨_, _, ob, xs, rfl⟩
          · exact absurd ⟨t, ht, y.trans z⟩ aT
          · exact fun _ z => nomatch z
        · have e : (if b = a then H b else none) = some o := e
          rw [if_neg z] at e
          cases e
      · obtain ⟨t, ht, e⟩ := hT p hp
        rw [← e]
        exact LamX.TabS.nil (A1 t ht)
    · obtain ⟨_, _, _, _, _, _, _, _, _, _, _, _, z⟩ := h
      exact z.elim
  cases hk : K.lookup a with
  | some o =>
    have e := KX a o hk
    rw [lst] at e
    cases e
    refine fin (fun b => if b ∈ cs.map (·.2) then some (.tbl #[]) else none) (fun t ht => if_pos (List.mem_map.mpr ⟨t, ht, rfl⟩)) (fun b u z => ?_) (fun b u z => ?_) (.inr ⟨_, vs.toArray, _, hk, rfl, rfl, rfl, by rw [List.size_toArray, lv]; exact Nat.le_trans len hn2, by simpa using rv⟩)
    · by_cases hb' : b ∈ cs.map (·.2)
      · obtain ⟨t, ht, e⟩ := List.mem_map.mp hb'
        exact .inl ⟨t, ht, e⟩
      · have z : (if b ∈ cs.map (·.2) then some (HO.tbl #[]) else none) = some u := z
        rw [if_neg hb'] at z
        cases z
    · have z : (if b ∈ cs.map (·.2) then some (HO.tbl #[]) else none) = some u := z
      by_cases hb' : b ∈ cs.map (·.2)
      · rw [if_pos hb'] at z
        cases z
        obtain ⟨t, ht, rfl⟩ := List.mem_map.mp hb'
        exact tabs t ht
      · rw [if_neg hb'] at z
        cases z
  | none =>
    refine fin (fun b => if b = a then some (.frz { cls := .type "list", data := .seq vs.toArray } (.lst (ns.map V.int))) else if b ∈ cs.map (·.2) then some (.tbl #[]) else none) (fun t ht => ?_) (fun b u z => ?_) (fun b u z => ?_) (.inl (.inr ⟨{ cls := .type "list", data := .seq vs.toArray }, ?_⟩))
    · show (if t.2 = a then _ else _) = _
      rw [if_neg (fun z => aT ⟨t, ht, z⟩)]
      exact if_pos (List.mem_map.mpr ⟨t, ht, rfl⟩)
    · have z : (if b = a then some (HO.frz { cls := .type "list", data := .seq vs.toArray } (.lst (ns.map V.int))) else if b ∈ cs.map (·.2) then some (.tbl #[]) else none) = some u := z
      by_cases h1 : b = a
      · rw [if_pos h1] at z
        cases z
        exact .inr ⟨h1, hk, _, _, rfl⟩
      · rw [if_neg h1] at z
        by_cases h2 : b ∈ cs.map (·.2)
        · obtain ⟨t, ht, e⟩ := List.mem_map.mp h2
          exact .inl ⟨t, ht, e⟩
        · rw [if_neg h2] at z
          cases z
    · have z : (if b = a then some (HO.frz { cls := .type "list", data := .seq vs.toArray } (.lst (ns.map V.int))) else if b ∈ cs.map (·.2) then some (.tbl #[]) else none) = some u := z
      by_cases h1 : b = a
      · rw [if_pos h1] at z
        cases z
        rw [h1]
        refine ⟨lst, ?_, vs, _, rv, lst⟩
        rw [List.length_map]
        exact Nat.le_trans len hn2
      · rw [if_neg h1] at z
        by_cases h2 : b ∈ cs.map (·.2)
        · rw [if_pos h2] at z
          cases z
          obtain ⟨t, ht, rfl⟩ := List.mem_map.mp h2
          exact tabs t ht
        · rw [if_neg h2] at z
          cases z
    · show (if a = a then (if a = a then _ else _) else _) = _
      rw [if_pos rfl, if_pos rfl]
end
end Fw

set_option Elab.async false
set_option maxRecDepth 100000
set_option maxHeartbeats 4000000
/-! Fw14: enumerate of anything that is iterated; texts, dicts, zips walked. -/
namespace Fw
open PySem PySem.Spec PyProof.Rows L2
set_option maxHeartbeats 1000000 in
theorem meets_enum1 {v : Value} {ob : Obj} {Hd : Heap → Prop} (B : Begins v ob Hd) :
    Meets (Builtin.«enumerate.__new__» ⟨[.type "enumerate", v], []⟩) (fun _ R s => Hd s.heap ∧
      R (.ok (.ret (.ref (s.heap.push ob).objs.size))) { s with heap := (s.heap.push ob).push { cls := .type "enumerate", data := .fields #[.none, .bool false, .ref s.heap.objs.size, rawInt 0, .none, .none] } }) :=
  .of_wp fun prog w A R s hh => by
    obtain ⟨hp, gs, dr, tks, oss⟩ := s
    obtain ⟨hb, hR⟩ := hh
    have subE := sub_enumerate
    have it1 : ∀ {A2 : Around} {E : Value → Shared → Prop} {Q : Value → Shared → Prop}, Q (.ref hp.objs.size) ⟨hp.push ob, gs, dr, tks, oss⟩ → wpAny (model prog w) A2 (pyIter v) Q E ⟨hp, gs, dr, tks, oss⟩ :=
      fun q => B.iter prog w _ _ ⟨hp, gs, dr, tks, oss⟩ _ hb q
    wp_walk using it1
    refine wpAny_stack_any fun stk => wpAny_pure ?_
    split
    · rename_i cc _ _ _ _ _
      cases (cc == Value.type "enumerate")
      · wp_walk using it1
        exact ⟨_, rfl, hR⟩
      · wp_walk using it1
        exact ⟨_, rfl, hR⟩
    · wp_walk using it1
      exact ⟨_, rfl, hR⟩
theorem enum1 {prog : Program} {w : World} {A : Around} {E : Value → Shared → Prop} {s : Shared} {v : Value} {ob : Obj} {Hd : Heap → Prop} {Q : Value → Shared → Prop} (B : Begins v ob Hd) (hb : Hd s.heap)
    (k : ∀ h1, IsEnum h1 (s.heap.objs.size + 1) s.heap.objs.size 0 .none → h1.get? s.heap.objs.size = some ob → (∀ b o, s.heap.get? b = some o → h1.get? b = some o) → Q (.ref (s.heap.objs.size + 1)) { s with heap := h1 }) :
    wpAny (model prog w) A (call (.type "enumerate") [v]) Q E s := by
  have size1 : (s.heap.push ob).objs.size = s.heap.objs.size + 1 := Heap.size_push ..
  refine callType_new F.called_enumerate (by decide) (F.typeCall_enumerate_1 _) (F.newCall_enumerate_1 _) (fun nw => F.args_object_init_2 nw _) F.entry_enumerate_new (meets_enum1 B) ⟨hb, ?_⟩
  show _ ∧ _
  rw [size1]
  have made := Heap.get?_push_size (s.heap.push ob) (o := { cls := .type "enumerate", data := .fields #[.none, .bool false, .ref s.heap.objs.size, rawInt 0, .none, .none] }) rfl
  rw [size1] at made
  exact ⟨⟨_, made, rfl⟩, k _ made (Heap.get?_push_of_some _ (Heap.get?_push_size _ B.free)) fun b o q => Heap.get?_push_of_some _ (Heap.get?_push_of_some _ q)⟩
/-- the tuple at a, each item in a new pair with its index -/
def IteT (K : PySem.W.Frag) (a : Addr) : It where
  go i H := ∃ (xs : List V) (x : V), SqT K H a xs ∧ xs[i]? = some x
  yld i H v H' := ∃ T x, v = .ref T ∧ H T = none ∧ H' = upd H T (.tup [.int (i : Nat), x]) ∧ ∀ xs, SqT K H a xs → xs[i]? = some x
  stop i H := ∃ xs : List V, SqT K H a xs ∧ xs.length = i
theorem turn_enumT {P : Program} {w : World} {K : PySem.W.Frag} {elts : List Expr} {kk : Nat} {tpos : Pos} (a e it : Addr) (hat : a ≠ it) (hae : e ≠ a) :
    Turn P w K (.Tuple elts kk tpos) (IteT K a) [e, it] e (fun i h => (∃ old, IsEnum h e it ((i : Nat) : Int) old) ∧ h.IsTupleIter it a i ∧ e ≠ it) where
  mem := by simp
  obj := fun i h stt b hb => by
    obtain ⟨⟨old, he⟩, ⟨o, ho, _, hd⟩, _⟩ := stt
    rcases List.mem_cons.mp hb with rfl | hb
    · exact ⟨_, he, fun v q => nomatch q⟩
    · rw [List.mem_singleton.mp hb]
      exact ⟨o, ho, fun v q => by rw [hd] at q; cases q⟩
  keep := fun i h h' stt kp => ⟨⟨stt.1.choose, kp e (by simp) _ stt.1.choose_spec⟩, stt.2.1.at fun o q => kp it (by simp) o q, stt.2.2⟩
  item := by
    rintro X rfl rfl rfl calm i pins s σ H E I hf ⟨⟨old, he⟩, hit, hne⟩ ⟨xs, x, hq, hx⟩
    obtain ⟨its, rv, tp, _⟩ := I.tuple hq
    obtain ⟨u, hu, ru⟩ := rv.get hx
    have ilt : i < its.toArray.size := by simpa using (List.getElem?_eq_some_iff.mp hu).1
    have eLt : e < s.heap.objs.size := Heap.lt_size he
    have itLt : it < s.heap.objs.size := by
      obtain ⟨_, q, _⟩ := id hit
      exact Heap.lt_size q
    refine wpAny_pyNext_enum_itemD (Draws.tuple (by exact I.ok.hd calm) it a hat its.toArray) he ⟨hit, tp⟩ ilt hne (by simp [hne, hae]) fun x1 h1 tk hx1 ho hst hT hsz hk => ?_
    have hx1' : x1 = u := by
      have hx1 : its.toArray[i]? = some x1 := hx1
      rw [List.getElem?_toArray, hu] at hx1
      exact (Option.some.inj hx1).symm
    subst hx1'
    refine ⟨_, rfl, wpAny_letOwnedTupleGo_enum (s := { s with heap := h1, toks := tk + 1 }) ho fun h2 he2 sb => ?_⟩
    have tup2 : h2.get? s.heap.objs.size = some { cls := .type "tuple", data := .seq #[.int i tk, x1] } := (sb.2 _ (Nat.ne_of_gt eLt)).trans hT
    have newOk : ObjOk X.prog X.w (upd H s.heap.objs.size (.tup [.int (i : Nat), x])) h2 s.heap.objs.size (.tup [.int (i : Nat), x]) :=
      ⟨by show 2 ≤ sizeLine; decide, [.int i tk, x1], .cons ⟨_, rfl⟩ (.cons ru .nil), ⟨_, tup2, rfl, _, rfl⟩⟩
    have I1 : Inv X pins σ (upd H s.heap.objs.size (.tup [.int (i : Nat), x])) { s with heap := h2, toks := tk + 1 } :=
      I.turnedNew (ch := [e, it]) (fun b ob hb q => (sb.2 b fun z => hb (by simp [z])).trans (hk b ob (fun z => hb (by simp [z])) (fun z => hb (by simp [z])) q)) hf (Nat.le_refl _) newOk
    refine ⟨.ref s.heap.objs.size, _, I1, rfl, ⟨_, x, rfl, I.hok.fresh (Nat.le_refl _), rfl, fun ys hy => by rw [I.tuple_inj hy hq]; exact hx⟩, ⟨⟨x1, ?_⟩, hst.1.at fun o q => (sb.2 it (Ne.symm hne)).trans q, hne⟩, fun b hb => ?_⟩
    · rw [show ((i + 1 : Nat) : Int) = (i : Int) + 1 by omega]
      exact he2
    · have lt : b < s.heap.objs.size := by
        rcases List.mem_cons.mp hb with rfl | hb'
        · exact eLt
        · rw [List.mem_singleton.mp hb']; exact itLt
      rw [upd_ne (Nat.ne_of_lt lt)]
      exact (hf b hb).1
  done := by
    rintro X rfl rfl rfl calm i pins s σ H E I hf ⟨⟨old, he⟩, hit, hne⟩ ⟨xs, hq, hx⟩
    obtain ⟨its, rv, tp, _⟩ := I.tuple hq
    obtain ⟨f0, f1, f2, f3, f4, f5⟩ := hf it (by simp)
    have lx := rv.length
    have here : i = its.toArray.size := by simp; omega
    subst here
    exact wpAny_pyNext_enum_endD (Draws.tuple (by exact I.ok.hd calm) it a hat its.toArray) he ⟨hit, tp⟩ fun h1 eb => ⟨rfl, I.turned (t' := s.toks) (fun b o hb q => eb b o hb q) f0 f1 f3 f4 f5⟩
  self := fun A i s Q E stt k => wpAny_pyIter_enum stt.1.choose_spec k
theorem walk_enumT {K : PySem.W.Frag} {a : Addr} {xs : List V} : Walk (IteT K a) xs.length (fun H => SqT K H a xs) (YPair (fun i => some (.int (i : Nat))) (fun i => xs[i]?)) :=
  ⟨fun i _ hi q => ⟨xs, xs[i], q, by simp [hi]⟩, fun _ q => ⟨xs, q, rfl⟩, fun i H v H' _ q y => by
    obtain ⟨T, x, h1, h2, h3, h4⟩ := y
    exact ⟨T, .int (i : Nat), x, h1, h2, h3, rfl, h4 xs q⟩⟩
def iEnumT (K : PySem.W.Frag) (ta : TA) : TI := fun σ H R => ta σ H fun vs H1 => ∃ a xs, vs = [.ref a] ∧ SqT K H1 a xs ∧ R (IteT K a) H1
theorem pi_enumT {X : Cx} {e : Expr} {ta : TA} {p pos tpos : Pos} {elts : List Expr} {kk : Nat} (hg : Gl X "enumerate") (hm : X.mg "enumerate" = none) (ha : PA X [e] ta) (hs : starEach [e] X.env = [(false, eval e X.env)]) :
    PI X (.Tuple elts kk tpos) (.Call (.Name "enumerate" p) [e] [] pos) (iEnumT X.K ta) := by
  refine ⟨fun pins s σ H R I h => Call_ (ld_blt I hg hm boot_enumerate (PyProof.Rows.callWith_type1 (thn (ha.run pos pins s σ H _ I h) fun us s1 hh => ?_) hs rfl))⟩
  obtain ⟨vs, H1, I1, r1, a, xs, rfl, hq, hR⟩ := hh
  obtain ⟨u, rfl, ru⟩ := Vals.one r1
  obtain rfl : u = Value.ref a := ru
  obtain ⟨its, rv, tp, _⟩ := I1.tuple hq
  have aLt : a < s1.heap.objs.size := by
    obtain ⟨o, ho, _⟩ := id tp
    exact Heap.lt_size ho
  refine enum1 (begins_tuple a its.toArray) tp fun h1 he hit hk => wpAny_pyIter_enum he ?_
  have I2 : Inv X pins σ H1 { s1 with heap := h1 } := I1.kept (t' := s1.toks) hk
  refine ⟨s1.heap.objs.size + 1, [s1.heap.objs.size + 1, s1.heap.objs.size], _, _, H1, rfl, I2, turn_enumT a (s1.heap.objs.size + 1) s1.heap.objs.size (Nat.ne_of_lt aLt) (Nat.ne_of_gt (Nat.lt_succ_of_lt aLt)), ⟨⟨.none, he⟩, ⟨_, hit, rfl, rfl⟩, Nat.succ_ne_self _⟩, fun b hb => ?_, hR⟩
  have big : s1.heap.objs.size ≤ b := by
    rcases List.mem_cons.mp hb with rfl | hb
    · exact Nat.le_succ _
    · rw [List.mem_singleton.mp hb]
      exact Nat.le_refl _
  exact I1.fpOk big (I1.hok.fresh big)
theorem walk_zipT2 {K : PySem.W.Frag} {a b : Addr} {xs ys : List V} : Walk (RZ.ItzT K a b) (min xs.length ys.length) (fun H => SqT K H a xs ∧ SqT K H b ys) (YPair (fun i => xs[i]?) (fun i => ys[i]?)) := by
  constructor
  · intro i H hi q
    have l1 : i < xs.length := by omega
    have l2 : i < ys.length := by omega
    exact ⟨xs, ys, xs[i], ys[i], q.1, q.2, by simp [l1], by simp [l2]⟩
  · exact fun H q => ⟨xs, ys, q.1, q.2, by omega⟩
  · intro i H v H' _ q y
    obtain ⟨T, x, z, h1, h2, h3, h4, h5⟩ := y
    exact ⟨T, x, z, h1, h2, h3, h4 xs q.1, h5 ys q.2⟩
/-! ### walks over data -/
section
variable {c : CD} {vis loc : List Nat} {gl : List Str} {ρ ρ1 ρ2 : Env'}
def signs (x : Str) : List D := x.cps.toList.map fun n => D.str ⟨#[n]⟩
theorem I_str {tg e : Expr} {x : Str} (h : EvX c e ρ (.d (.str x)) ρ1) : EiX c tg e ρ (signs x) ρ1 := fun G F σ H R T k => by
  refine ⟨iStr (tE c e), fun X ok => pi_str (pe_tE ok e), h G F σ H _ T fun v F1 H1 T1 s1 q => ?_⟩
  have q : v = .str x := q
  subst q
  refine ⟨x, rfl, k _ F1 H1 T1 s1 ⟨⟨_, _, by rw [show (signs x).length = x.cps.size by simp [signs]]; exact walk_str, fun _ _ => trivial, fun i H y H' Fc hi l1 l2 yy => ?_⟩⟩⟩
  obtain ⟨rfl, n, hn, rfl⟩ := yy
  refine ⟨Fc, .str ⟨#[n]⟩, .refl l2, ?_, rfl⟩
  unfold signs
  rw [List.getElem?_map, Array.getElem?_toList, hn]
  rfl
/-- each item with its index -/
def enumD (ds : List D) : List D := ds.mapIdx fun i d => .tup [.int (i : Nat), d]
theorem pair_grow {Z : Zd} {Fc H : Hp} {T : Addr} {x y : V} {d e : D} (l2 : FLe Fc H) (hT : H T = none) (hd : Den Z.K Fc d x) (he : Den Z.K Fc e y) : ∃ F' d', Grow Z Fc H F' (upd H T (.tup [x, y])) ∧ d' = .tup [d, e] ∧ Den Z.K F' d' (.ref T) :=
  ⟨_, _, Grow.alloc l2 hT, rfl, den_tup (l2.none hT) ⟨x, [y], rfl, hd, y, [], rfl, he, rfl⟩⟩
theorem I_enum (S : ScOk c vis loc gl) {elts : List Expr} {kk : Nat} {tpos p pos : Pos} {e : Expr} {x : D} {ds : List D} (h : EvX c e ρ (.d x) ρ1) (hs : seqD x = some ds) (hx : ("enumerate" : Str) ∈ gl) (hm : c.mg "enumerate" = none) (h1 : ∀ X : Cx, starEach [e] X.env = [(false, eval e X.env)]) :
    EiX c (.Tuple elts kk tpos) (.Call (.Name "enumerate" p) [e] [] pos) ρ (enumD ds) ρ1 := fun G F σ H R T k => by
  have len : (enumD ds).length = ds.length := by simp [enumD]
  have item : ∀ {F1 : Hp} {vs : List V}, DenAll c.K F1 ds vs → ∀ (i : Nat) (H : Hp) (y : V) (H' Fc : Hp), i < (enumD ds).length → FLe F1 Fc → FLe Fc H → YPair (fun i => some (.int (i : Nat))) (fun i => vs[i]?) i H y H' → ∃ F' d, Grow c.z Fc H F' H' ∧ (enumD ds)[i]? = some d ∧ Den c.z.K F' d y := fun {F1 vs} r i H y H' Fc hi l1 l2 yy => by
    obtain ⟨T, a, b, rfl, hT, rfl, ea, eb⟩ := yy
    cases ea
    obtain ⟨d, e1, e2⟩ := r.get eb
    obtain ⟨F', d', g, rfl, dd⟩ := pair_grow (Z := c.z) (d := .int (i : Nat)) l2 hT rfl (Den.mono l1 d b e2)
    exact ⟨F', _, g, by simp [enumD, e1], dd⟩
  have lst : (∃ ns, x = .tup ns) ∨ (∃ ns, x = .tun ns) ∨ ¬ ((∃ ns, x = .tup ns) ∨ ∃ ns, x = .tun ns) := (Classical.em _).imp id fun h1 => (Classical.em _).imp id fun h2 => fun z => z.elim h1 h2
  rcases lst with ⟨ns, rfl⟩ | ⟨ns, rfl⟩ | nt
  · cases hs
    refine ⟨iEnumT c.K (tCons (tE c e) tNil), fun X ok => by have := pi_enumT (p := p) (pos := pos) (elts := elts) (kk := kk) (tpos := tpos) (ok.glOf S hx) (by rw [ok.mg]; exact hm) (pa_cons (pe_tE ok e) pa_nil (h1 X)) (h1 X); rw [ok.K] at this; exact this, h G F σ H _ T fun v F1 H1 T1 s1 q => ?_⟩
    obtain ⟨a, vs, rfl, q, r⟩ := q
    exact ⟨a, vs, rfl, T1.fle.tup q, k _ F1 H1 T1 s1 ⟨⟨_, _, by rw [len, ← r.length]; exact walk_enumT (K := c.K) (a := a) (xs := vs), fun H l => l.tup q, item r⟩⟩⟩
  · cases hs
    refine ⟨iEnumT c.K (tCons (tE c e) tNil), fun X ok => by have := pi_enumT (p := p) (pos := pos) (elts := elts) (kk := kk) (tpos := tpos) (ok.glOf S hx) (by rw [ok.mg]; exact hm) (pa_cons (pe_tE ok e) pa_nil (h1 X)) (h1 X); rw [ok.K] at this; exact this, h G F σ H _ T fun v F1 H1 T1 s1 q => ?_⟩
    obtain ⟨a, vs, rfl, q, r⟩ := q
    exact ⟨a, vs, rfl, (q.mono T1.fle).sq, k _ F1 H1 T1 s1 ⟨⟨_, _, by rw [len, ← r.length]; exact walk_enumT (K := c.K) (a := a) (xs := vs), fun H l => (q.mono l).sq, item r⟩⟩⟩
  · refine ⟨iEnum c.K (tCons (tE c e) tNil), fun X ok => by have := pi_enum (p := p) (pos := pos) (elts := elts) (kk := kk) (tpos := tpos) (ok.glOf S hx) (by rw [ok.mg]; exact hm) (pa_cons (pe_tE ok e) pa_nil (h1 X)) (h1 X); rw [ok.K] at this; exact this, h G F σ H _ T fun v F1 H1 T1 s1 q => ?_⟩
    have h2 : ∃ a vs, v = .ref a ∧ SqL c.K F1 a vs ∧ DenAll c.K F1 ds vs := by
      cases x with
      | lst es =>
        cases hs
        obtain ⟨a, vs, rfl, q, r⟩ := q
        exact ⟨a, vs, rfl, SqL.of q, r⟩
      | scr ns =>
        cases hs
        obtain ⟨a, rfl, q⟩ := q
        exact ⟨a, _, rfl, q, DenAll.ints.mpr rfl⟩
      | tup es => exact absurd (.inl ⟨es, rfl⟩) nt
      | tun es => exact absurd (.inr ⟨es, rfl⟩) nt
      | _ => cases hs
    obtain ⟨a, vs, rfl, q, r⟩ := h2
    exact ⟨a, vs, rfl, T1.fle.seq q, k _ F1 H1 T1 s1 ⟨⟨_, _, by rw [len, ← r.length]; exact walk_enum (K := c.K) (a := a) (xs := vs), fun H l => l.seq q, item r⟩⟩⟩
/-- pairs of two rows -/
def zipD (ds es : List D) : List D := (ds.zip es).map fun p => .tup [p.1, p.2]
theorem I_zip (S : ScOk c vis loc gl) {elts : List Expr} {kk : Nat} {tpos p pos : Pos} {e e2 : Expr} {x y : D} {ds es : List D} (h : EvX c e ρ (.d x) ρ1) (h' : EvX c e2 ρ1 (.d y) ρ2) (hs : (x = .lst ds ∧ y = .lst es) ∨ (x = .tup ds ∧ y = .tup es)) (hx : ("zip" : Str) ∈ gl) (hm : c.mg "zip" = none)
    (h1 : ∀ X : Cx, starEach [e, e2] X.env = (false, eval e X.env) :: starEach [e2] X.env) (h2 : ∀ X : Cx, starEach [e2] X.env = [(false, eval e2 X.env)]) (hpl : ∀ X : Cx, (backTo pos (starEach [e2] X.env)).any (·.1) = false) :
    EiX c (.Tuple elts kk tpos) (.Call (.Name "zip" p) [e, e2] [] pos) ρ (zipD ds es) ρ2 := fun G F σ H R T k => by
  refine ⟨RZ.iZipA c.K (tCons (tE c e) (tCons (tE c e2) tNil)), fun X ok => by have := RZ.pi_zipA (p := p) (pos := pos) (elts := elts) (kk := kk) (tpos := tpos) (ok.glOf S hx) (by rw [ok.mg]; exact hm) (pa_cons (pe_tE ok e) (pa_cons (pe_tE ok e2) pa_nil (h2 X)) (h1 X)) (h1 X) (hpl X); rw [ok.K] at this; exact this, ?_⟩
  refine h G F σ H _ T fun v F1 H1 T1 s1 q1 => h' G F1 σ H1 _ T1 fun w F2 H2 T2 s2 q2 => ?_
  have len : (zipD ds es).length = min ds.length es.length := by simp [zipD]
  have item : ∀ {F1 : Hp} {vs ws : List V}, DenAll c.K F1 ds vs → DenAll c.K F1 es ws → ∀ (i : Nat) (H : Hp) (y : V) (H' Fc : Hp), i < (zipD ds es).length → FLe F1 Fc → FLe Fc H → YPair (fun i => vs[i]?) (fun i => ws[i]?) i H y H' → ∃ F' d, Grow c.z Fc H F' H' ∧ (zipD ds es)[i]? = some d ∧ Den c.z.K F' d y := fun {F1 vs ws} r r' i H y H' Fc hi l1 l2 yy => by
    obtain ⟨T, a, b, rfl, hT, rfl, ea, eb⟩ := yy
    obtain ⟨d, e1, e2⟩ := r.get ea
    obtain ⟨d', e1', e2'⟩ := r'.get eb
    obtain ⟨F', _, g, rfl, dd⟩ := pair_grow (Z := c.z) l2 hT (Den.mono l1 d a e2) (Den.mono l1 d' b e2')
    exact ⟨F', _, g, by unfold zipD; rw [List.getElem?_map, (List.getElem?_zip_eq_some (z := (d, d'))).mpr ⟨e1, e1'⟩]; rfl, dd⟩
  rcases hs with ⟨rfl, rfl⟩ | ⟨rfl, rfl⟩
  · obtain ⟨a, vs, rfl, qa, ra⟩ := Den.mono s2.fle _ _ q1
    obtain ⟨b, ws, rfl, qb, rb⟩ := q2
    exact ⟨a, b, vs, ws, rfl, .inl ⟨SqL.of (T2.fle.eq qa), SqL.of (T2.fle.eq qb), k _ F2 H2 T2 (s1.trans s2) ⟨⟨fun H => SqL c.K H a vs ∧ SqL c.K H b ws, _, by rw [len, ← ra.length, ← rb.length]; exact walk_zip (K := c.K) (a := a) (b := b) rfl, fun H l => ⟨SqL.of (l.eq qa), SqL.of (l.eq qb)⟩, item ra rb⟩⟩⟩⟩
  · obtain ⟨a, vs, rfl, qa, ra⟩ := Den.mono s2.fle _ _ q1
    obtain ⟨b, ws, rfl, qb, rb⟩ := q2
    refine ⟨a, b, vs, ws, rfl, .inr ⟨T2.fle.tup qa, T2.fle.tup qb, k _ F2 H2 T2 (s1.trans s2) ⟨⟨fun H => SqT c.K H a vs ∧ SqT c.K H b ws, _, by rw [len, ← ra.length, ← rb.length]; exact walk_zipT2, fun H l => ⟨l.tup qa, l.tup qb⟩, item ra rb⟩⟩⟩⟩
end
end Fw

set_option Elab.async false
set_option maxRecDepth 100000
set_option maxHeartbeats 4000000
/-! Fw15: dicts over data. -/
namespace Fw
open PySem PySem.Spec PyProof.Rows L2
/-! ### tables of data -/
def valD (kvs : List (Key × D)) (k : Key) : Option D := (kvs.find? fun p => decide (p.1 = k)).map (·.2)
def putD (kvs : List (Key × D)) (k : Key) (d : D) : List (Key × D) :=
  if (kvs.any fun p => decide (p.1 = k)) = true then kvs.map (fun p => if p.1 = k then (p.1, d) else p) else kvs ++ [(k, d)]
def mergeD (kvs more : List (Key × D)) : List (Key × D) := more.foldl (fun acc p => putD acc p.1 p.2) kvs
def keyD : Key → D
  | .inl i => .int i
  | .inr s => .str s
section
variable {K : PySem.W.Frag} {F H : Hp}
theorem den_key {k : Key} {v : V} (h : Den K F (keyD k) v) : v = kV k := by cases k <;> exact h
theorem key_den (k : Key) : Den K F (keyD k) (kV k) := by cases k <;> rfl
theorem DenKv.val : ∀ {kvs : List (Key × D)} {kws : List (Key × V)} {k : Key}, DenKv K F kvs kws → (∀ d, valD kvs k = some d → ∃ v, valV kws k = some v ∧ Den K F d v) ∧ (valD kvs k = none → valV kws k = none)
  | [], _, k, h => by
    rw [show _ = [] from h]
    exact ⟨fun d e => (by cases e), fun _ => rfl⟩
  | (x, d) :: kvs, _, k, h => by
    obtain ⟨v, kws, rfl, q, r⟩ := h
    by_cases e : x = k
    · have e1 : valD ((x, d) :: kvs) k = some d := by simp [valD, List.find?_cons, e]
      have e2 : valV ((x, v) :: kws) k = some v := by simp [valV, List.find?_cons, e]
      rw [e1, e2]
      exact ⟨fun d' z => by cases z; exact ⟨v, rfl, q⟩, fun z => by cases z⟩
    · have e1 : valD ((x, d) :: kvs) k = valD kvs k := by simp [valD, List.find?_cons, e]
      have e2 : valV ((x, v) :: kws) k = valV kws k := by simp [valV, List.find?_cons, e]
      rw [e1, e2]
      exact DenKv.val r
theorem DenKv.any {k : Key} : ∀ {kvs : List (Key × D)} {kws : List (Key × V)}, DenKv K F kvs kws → (kws.any fun p => decide (p.1 = k)) = kvs.any fun p => decide (p.1 = k)
  | [], _, h => by rw [show _ = [] from h]; rfl
  | (x, d) :: kvs, _, h => by
    obtain ⟨v, kws, rfl, q, r⟩ := h
    rw [List.any_cons, List.any_cons, DenKv.any r]
theorem DenKv.repl {k : Key} {d' : D} {v' : V} (hv : Den K F d' v') : ∀ {kvs : List (Key × D)} {kws : List (Key × V)}, DenKv K F kvs kws → DenKv K F (kvs.map fun p => if p.1 = k then (p.1, d') else p) (kws.map fun p => if p.1 = k then (p.1, v') else p)
  | [], _, h => by rw [show _ = [] from h]; rfl
  | (x, d) :: kvs, _, h => by
    obtain ⟨v, kws, rfl, q, r⟩ := h
    rw [List.map_cons, List.map_cons]
    by_cases e : x = k
    · simp only [e, if_true]
      exact ⟨v', _, rfl, hv, DenKv.repl hv r⟩
    · simp only [e, if_false]
      exact ⟨v, _, rfl, q, DenKv.repl hv r⟩
theorem DenKv.snoc {k : Key} {d' : D} {v' : V} (hv : Den K F d' v') : ∀ {kvs : List (Key × D)} {kws : List (Key × V)}, DenKv K F kvs kws → DenKv K F (kvs ++ [(k, d')]) (kws ++ [(k, v')])
  | [], _, h => by rw [show _ = [] from h]; exact ⟨v', [], rfl, hv, rfl⟩
  | (x, d) :: kvs, _, h => by
    obtain ⟨v, kws, rfl, q, r⟩ := h
    exact ⟨v, _, rfl, q, DenKv.snoc hv r⟩
theorem DenKv.put {k : Key} {d' : D} {v' : V} {kvs : List (Key × D)} {kws : List (Key × V)} (h : DenKv K F kvs kws) (hv : Den K F d' v') : DenKv K F (putD kvs k d') (putK kws k v') := by
  unfold putD putK
  rw [h.any]
  by_cases e : (kvs.any fun p => decide (p.1 = k)) = true
  · rw [if_pos e, if_pos e]; exact h.repl hv
  · rw [if_neg e, if_neg e]; exact h.snoc hv
theorem DenKv.merge : ∀ {more : List (Key × D)} {morw : List (Key × V)} {kvs : List (Key × D)} {kws : List (Key × V)}, DenKv K F kvs kws → DenKv K F more morw → DenKv K F (mergeD kvs more) (mergeK kws morw)
  | [], _, kvs, kws, h, h' => by rw [show _ = [] from h']; exact h
  | (x, d) :: more, _, kvs, kws, h, h' => by
    obtain ⟨v, morw, rfl, q, r⟩ := h'
    exact DenKv.merge (kvs := putD kvs x d) (kws := putK kws x v) (h.put q) r
theorem DenKv.length : ∀ {kvs : List (Key × D)} {kws : List (Key × V)}, DenKv K F kvs kws → kws.length = kvs.length
  | [], _, h => by rw [show _ = [] from h]; rfl
  | (x, d) :: kvs, _, h => by
    obtain ⟨v, kws, rfl, q, r⟩ := h
    simp [DenKv.length r]
theorem DenKv.get : ∀ {kvs : List (Key × D)} {kws : List (Key × V)} {i : Nat} {k : Key} {v : V}, DenKv K F kvs kws → kws[i]? = some (k, v) → ∃ d, kvs[i]? = some (k, d) ∧ Den K F d v
  | [], _, i, k, v, h, e => by rw [show _ = [] from h] at e; simp at e
  | (x, d) :: kvs, _, 0, k, v, h, e => by
    obtain ⟨w, kws, rfl, q, r⟩ := h
    simp at e
    obtain ⟨rfl, rfl⟩ := e
    exact ⟨d, rfl, q⟩
  | (x, d) :: kvs, _, i + 1, k, v, h, e => by
    obtain ⟨w, kws, rfl, q, r⟩ := h
    simp at e
    obtain ⟨d', e1, e2⟩ := DenKv.get r e
    exact ⟨d', by simpa using e1, e2⟩
end
theorem len_putD (kvs : List (Key × D)) (k : Key) (d : D) : (putD kvs k d).length ≤ kvs.length + 1 := by
  unfold putD
  split <;> simp
/-! ### locking for good -/
theorem pe_lk {X : Cx} {e : Expr} {t : TE} (h : PE X e t) : PE X e (fun σ H Q => t σ H fun v H1 => ∃ a u, H1 a = some u ∧ Mut (some u) ∧ ∀ od, Q v (upd H1 a (.frz od u))) :=
  ⟨fun pins s σ H Q I hw => thn (h.run pins s σ H _ I hw) fun v s1 hh => by
    obtain ⟨x, H1, I1, rv, a, u, ha, mu, q⟩ := hh
    obtain ⟨od, I2⟩ := I1.lock ha mu
    exact ⟨x, _, I2, rv, q od⟩⟩
theorem pss_lk {X : Cx} {st : List Stmt} {t : TS} (h : PSs X st t) : PSs X st (fun D σ H => ∃ a u, H a = some u ∧ Mut (some u) ∧ ∀ od, t D σ (upd H a (.frz od u))) :=
  ⟨fun pins s σ H D I hw => by
    obtain ⟨a, u, ha, mu, q⟩ := hw
    obtain ⟨od, I2⟩ := I.lock ha mu
    exact h.run pins s σ _ D I2 (q od)⟩
section
variable {Z : Zd} {G : Gd} {F H : Hp} {σ τ : L2.St} {ρ κ : Env'}
/-- a dict's tree, locked: flat, or of things without dicts -/
def Tr.isM : Tr → Option (List (Key × D))
  | .fm kvs => some kvs
  | .m kts => some (toDk kts)
  | _ => none
theorem OwnT.lock {K : PySem.W.Frag} {t : Tr} {kvs : List (Key × D)} {v : V} {as : List Addr} (h : OwnT K F H t v as) (e : t.isM = some kvs) (w : t.whole = true) (nd : as.Nodup) (fl : FLe F H) (fr : ∀ a ∈ as, F a = none) :
    ∃ a kws, v = .ref a ∧ a ∈ as ∧ H a = some (.dK kws) ∧ ∀ od F' , (∀ b o, F b = some o → F' b = some o) → (∀ b ∈ as, b ≠ a → ∀ o, H b = some o → F' b = some o) → F' a = some (.frz od (.dK kws)) → Den K F' (.dic true kvs) v := by
  cases t with
  | fm ks =>
    cases e
    obtain ⟨a, kws, rfl, rfl, ha, r⟩ := h
    exact ⟨a, kws, rfl, by simp, ha, fun od F' k1 _ k3 => ⟨a, kws, rfl, ⟨od, k3⟩, DenKv.mono k1 _ _ r⟩⟩
  | m kts =>
    cases e
    obtain ⟨a, kws, bs, rfl, rfl, ha, r⟩ := h
    have na := List.nodup_cons.mp nd
    exact ⟨a, kws, rfl, by simp, ha, fun od F' k1 k2 k3 => ⟨a, kws, rfl, ⟨od, k3⟩, OwnKs.den k1 kts w r fun b hb o e => k2 b (by simp [hb]) (fun z => na.1 (by rw [← z]; exact hb)) o e⟩⟩
  | d _ => cases e
  | fl _ => cases e
  | l _ => cases e
  | o _ _ _ => cases e
  | hole _ => cases e
/-- cells frozen, one of them locked -/
def frzL (F H : Hp) (as : List Addr) (a : Addr) (u : HO) : Hp := fun b => if b = a then some u else if b ∈ as then H b else F b
theorem frzL_at {as : List Addr} {a : Addr} {u : HO} : frzL F H as a u a = some u := if_pos rfl
theorem frzL_in {as : List Addr} {a b : Addr} {u : HO} (h : b ≠ a) (hb : b ∈ as) : frzL F H as a u b = H b := by unfold frzL; rw [if_neg h, if_pos hb]
theorem frzL_out {as : List Addr} {a b : Addr} {u : HO} (h : b ≠ a) (hb : b ∉ as) : frzL F H as a u b = F b := by unfold frzL; rw [if_neg h, if_neg hb]
theorem frzL_facts {as : List Addr} {a : Addr} {od : Obj} {kws : List (Key × V)} (fl : FLe F H) (fnt : ∀ b o, F b = some o → NT o) (ha : a ∈ as) (fr : ∀ b ∈ as, F b = none) (nd : ∀ b ∈ as, ∃ u, H b = some u ∧ Nd u) :
    FLe F (frzL F H as a (.frz od (.dK kws))) ∧ FLe (frzL F H as a (.frz od (.dK kws))) (upd H a (.frz od (.dK kws))) ∧ ∀ b o, frzL F H as a (.frz od (.dK kws)) b = some o → NT o := by
  refine ⟨fun b o e => ?_, fun b o e => ?_, fun b o e => ?_⟩
  · have h2 : b ∉ as := fun z => by rw [fr b z] at e; cases e
    have h1 : b ≠ a := fun z => h2 (by rw [z]; exact ha)
    rw [frzL_out h1 h2]
    exact e
  · by_cases h1 : b = a
    · rw [h1, frzL_at] at e
      rw [h1, upd_same]
      exact e
    · rw [upd_ne h1]
      by_cases h2 : b ∈ as
      · rw [frzL_in h1 h2] at e; exact e
      · rw [frzL_out h1 h2] at e; exact fl b o e
  · by_cases h1 : b = a
    · rw [h1, frzL_at] at e
      cases e
      exact fun _ z => nomatch z
    · by_cases h2 : b ∈ as
      · rw [frzL_in h1 h2] at e
        obtain ⟨u, hu, k⟩ := nd b h2
        rw [hu] at e
        cases e
        exact k.nt
      · rw [frzL_out h1 h2] at e; exact fnt b o e
theorem Stt.lockT {v : V} {t : Tr} {kvs : List (Key × D)} (S : Stt Z G F (σ ++ [some v]) H (ρ ++ [.ot none t])) (l : σ.length = ρ.length) (e : t.isM = some kvs) (w : t.whole = true) :
    ∃ a kws, H a = some (.dK kws) ∧ ∀ od, ∃ F', FLe F F' ∧ Stt Z G F' σ (upd H a (.frz od (.dK kws))) ρ ∧ Den Z.K F' (.dic true kvs) v := by
  obtain ⟨a1, as, q1, n1, f1, q, nd, nn, fr, off⟩ := S.last l
  obtain ⟨a, kws, rfl, ha, hH, den⟩ := q.lock e w nd S.fle fun b hb => (fr b hb).1
  refine ⟨a, kws, hH, fun od => ?_⟩
  obtain ⟨g1, g2, g3⟩ := frzL_facts (od := od) (kws := kws) S.fle S.fnt ha (fun b hb => (fr b hb).1) (q.there _)
  have na : ∀ b ∈ a1.flatten, b ≠ a := fun b hb z => off a ha (by rw [← z]; exact hb)
  refine ⟨_, g1, ⟨g2, g3, fun b o e n m => ?_, fun b hb => ⟨upd_dom (S.nf b hb).1, ?_⟩, fun b hb => upd_dom (S.dom b hb), tabs_upd S.tabs hH (fun _ z => nomatch z) (fun _ z => nomatch z), a1, q1.grow g1 fun b hb u e _ => by rw [upd_ne (na b hb)]; exact e, n1, fun b hb => ⟨?_, (f1 b hb).2⟩⟩, den od _ g1 (fun b hb h1 o e => by rw [frzL_in h1 hb]; exact e) frzL_at⟩
  · have h1 : b ≠ a := fun z => by
      rcases (fr a ha).2 with y | y
      · rw [z, y] at e; cases e
      · exact n (by rw [z]; exact y)
    rw [upd_ne h1]
    exact S.keep b o e n m
  · have h1 : b ∉ as := fun z => nn b z hb
    rw [frzL_out (fun z => h1 (by rw [z]; exact ha)) h1]
    exact (S.nf b hb).2
  · rw [frzL_out (na b hb) (fun z => off b z hb)]
    exact (f1 b hb).1
end
section
variable {c : CD} {vis loc : List Nat} {gl : List Str} {ρ ρ1 ρ2 ρ3 : Env'} {P : Out → Prop}
/-- a new dict is frozen and locked -/
theorem E_frzD {e : Expr} {t : Tr} {kvs : List (Key × D)} (h : EvX c e ρ (.fr t) ρ1) (hm : t.isM = some kvs) (w : t.whole = true) (hl : ρ1.length = ρ.length) : EvX c e ρ (.d (.dic true kvs)) ρ1 := fun G F σ H Q T k =>
  ⟨_, fun X ok => pe_lk (pe_tE ok e), h G F σ H _ T fun v F' H' S s q => by
    obtain ⟨a, kws, ha, lk⟩ := Stt.lockT q (by rw [T.len, hl]) hm w
    refine ⟨a, _, ha, trivial, fun od => ?_⟩
    obtain ⟨F2, l, S2, d⟩ := lk od
    exact k v F2 _ S2 (s.trans ⟨l, fun _ h => upd_dom h⟩) d⟩
/-- a slot's own dict is frozen and locked -/
theorem S_freezeD {st : List Stmt} {i : Nat} {t : Tr} {kvs : List (Key × D)} (hr : ρ[i]? = some (.ot none t)) (hm : t.isM = some kvs) (w : t.whole = true) (h : EsX c st (ρ.set i (.d (.dic true kvs))) P) : EsX c st ρ P := fun G F σ H D T k => by
  obtain ⟨v, e1, S1⟩ := T.take hr
  have l : σ.length = (ρ.set i .un).length := by rw [List.length_set, T.len]
  obtain ⟨a, kws, ha, lk⟩ := Stt.lockT S1 l hm w
  refine ⟨_, fun X ok => pss_lk (pss_tSs ok st), a, _, ha, trivial, fun od => ?_⟩
  obtain ⟨F2, lf, S2, d⟩ := lk od
  have S3 := S2.put (i := i) d
  rw [st_self e1, List.set_set] at S3
  exact h G F2 σ _ D S3 fun o p => (k o p).step ⟨lf, fun _ h => upd_dom h⟩
/-! ### reading -/
theorem units1 {X : Cx} (ok : c.Ok X) : X.A.units + 1 < cLine := by
  have := ok.room.room.un
  omega
theorem E_dget {a b : Expr} {pos : Pos} {ra : Res} {k : Key} {lk : Bool} {kvs : List (Key × D)} {z : D} (ha : EvX c a ρ ra ρ1) (hb : EvX c b ρ1 (.d (keyD k)) ρ2) (la : Lk ρ2 ra (.dic lk kvs)) (hz : valD kvs k = some z) (hs : NoSl b) (st : ra.st = true := by rfl) : EvX c (.Subscript a b pos) ρ (.d z) ρ2 := fun G F σ H Q T kk =>
  ⟨tDGet (tE c a) (tE c b), fun X ok => pe_dget (units1 ok) (pe_tE ok a) (pe_tE ok b) hs, ha G F σ H _ T fun vx F1 H1 T1 s1 q1 => hb G F1 σ H1 _ T1 fun vy F2 H2 T2 s2 q2 => by
    obtain ⟨ad, kws, rfl, hr, r⟩ := la.vw T2 (ResOk.mono s2.fle st q1)
    obtain ⟨v, ev, dv⟩ := (r.val (k := k)).1 z hz
    refine ⟨ad, v, rfl, .inl ⟨kws, k, hr, den_key q2, ev.symm⟩, kk v F2 H2 T2 (s1.trans s2) dv⟩⟩
theorem isD_vw {F H : Hp} {lk : Bool} {kvs : List (Key × D)} {v : V} (h : Vw c.K F H (.dic lk kvs) v) : ∃ a, v = .ref a ∧ IsD H a := by
  obtain ⟨a, kws, rfl, hr, _⟩ := h
  exact ⟨a, rfl, .inl ⟨kws, hr⟩⟩
/-- d.get(k, e) -/
theorem E_dget2 {a b e : Expr} {apos cpos : Pos} {ra re : Res} {k : Key} {lk lk0 : Bool} {kvs kvs0 : List (Key × D)} {x z : D} (ha : EvX c a ρ ra ρ1) (la0 : Lk ρ1 ra (.dic lk0 kvs0)) (hb : EvX c b ρ1 (.d (keyD k)) ρ2) (he : EvX c e ρ2 (.d x) ρ3) (la : Lk ρ3 ra (.dic lk kvs)) (hz : (valD kvs k).getD x = z)
    (m : ∀ X : Cx, M2 X a "get" apos b e cpos) (st : ra.st = true := by rfl) : EvX c (.Call (.Attribute a "get" apos) [b, e] [] cpos) ρ (.d z) ρ3 := fun G F σ H Q T kk =>
  ⟨tDGet2 (tE c a) (tE c b) (tE c e), fun X ok => pe_dget2 (units1 ok) (pe_tE ok a) (pe_tE ok b) (pe_tE ok e) (m X), ha G F σ H _ T fun vx F1 H1 T1 s1 q1 => by
    obtain ⟨ad, rfl, isd⟩ := isD_vw (la0.vw T1 q1)
    refine ⟨ad, rfl, isd, hb G F1 σ H1 _ T1 fun vy F2 H2 T2 s2 q2 => he G F2 σ H2 _ T2 fun vz F3 H3 T3 s3 q3 => ?_⟩
    obtain ⟨ad2, kws, e2, hr, r⟩ := la.vw T3 (ResOk.mono (s2.trans s3).fle st q1)
    cases e2
    refine ⟨valV kws k, .inl ⟨kws, k, hr, den_key q2, rfl⟩, ?_⟩
    subst hz
    have step := (s1.trans s2).trans s3
    cases ez : valD kvs k with
    | none =>
      rw [(r.val (k := k)).2 ez]
      rw [ez] at kk
      exact kk vz F3 H3 T3 step q3
    | some d =>
      obtain ⟨v, ev, dv⟩ := (r.val (k := k)).1 d ez
      rw [ev]
      rw [ez] at kk
      exact kk v F3 H3 T3 step dv⟩
/-! ### walking -/
def itemsD (kvs : List (Key × D)) : List D := kvs.map fun p => .tup [keyD p.1, p.2]
theorem I_items {elts : List Expr} {kk : Nat} {tpos apos cpos : Pos} {e : Expr} {kvs : List (Key × D)} (h : EvX c e ρ (.d (.dic true kvs)) ρ1) (hb : ∀ X : Cx, attributeBase e "items" X.env (eval e X.env) = eval e X.env) (hl : (apos.endLine == cpos.line) = true) :
    EiX c (.Tuple elts kk tpos) (.Call (.Attribute e "items" apos) [] [] cpos) ρ (itemsD kvs) ρ1 := fun G F σ H R T k =>
  ⟨iItems (tE c e), fun X ok => pi_items (pe_tE ok e) (hb X) hl, h G F σ H _ T fun v F1 H1 T1 s1 q => by
    obtain ⟨a, kws, rfl, ⟨od, ca⟩, r⟩ := q
    refine ⟨a, od, kws, rfl, T1.fle a _ ca, k _ F1 H1 T1 s1 ⟨⟨fun H => H a = some (.frz od (.dK kws)), _, by rw [show (itemsD kvs).length = kws.length by rw [r.length]; simp [itemsD]]; exact walk_items, fun H l => l a _ ca, fun i H y H' Fc hi l1 l2 yy => ?_⟩⟩⟩
    obtain ⟨Tt, x1, x2, rfl, hT, rfl, ea, eb⟩ := yy
    have ea : kws[i]?.map (fun kv => kV kv.1) = some x1 := ea
    have eb : kws[i]?.map Prod.snd = some x2 := eb
    cases ek : kws[i]? with
    | none => rw [ek] at ea; cases ea
    | some p =>
      obtain ⟨kk', vv⟩ := p
      rw [ek] at ea eb
      cases ea
      cases eb
      obtain ⟨d, e1, e2⟩ := r.get ek
      obtain ⟨F', _, g, rfl, dd⟩ := pair_grow (Z := c.z) l2 hT (key_den kk') (Den.mono l1 d vv e2)
      exact ⟨F', _, g, by simp [itemsD, e1], dd⟩⟩
theorem I_values {tg : Expr} {apos cpos : Pos} {e : Expr} {kvs : List (Key × D)} (h : EvX c e ρ (.d (.dic true kvs)) ρ1) (hb : ∀ X : Cx, attributeBase e "values" X.env (eval e X.env) = eval e X.env) (hl : (apos.endLine == cpos.line) = true) :
    EiX c tg (.Call (.Attribute e "values" apos) [] [] cpos) ρ (kvs.map (·.2)) ρ1 := fun G F σ H R T k =>
  ⟨iVals (tE c e), fun X ok => pi_values (pe_tE ok e) (hb X) hl, h G F σ H _ T fun v F1 H1 T1 s1 q => by
    obtain ⟨a, kws, rfl, ⟨od, ca⟩, r⟩ := q
    refine ⟨a, od, kws, rfl, T1.fle a _ ca, k _ F1 H1 T1 s1 ⟨⟨fun H => H a = some (.frz od (.dK kws)), _, by rw [show (kvs.map (·.2)).length = kws.length by rw [r.length]; simp]; exact walk_values, fun H l => l a _ ca, fun i H y H' Fc hi l1 l2 yy => ?_⟩⟩⟩
    obtain ⟨rfl, kk', ek⟩ := yy
    obtain ⟨d, e1, e2⟩ := r.get ek
    exact ⟨Fc, d, .refl l2, by simp [e1], Den.mono l1 d y e2⟩⟩
theorem I_keys {tg e : Expr} {kvs : List (Key × D)} (h : EvX c e ρ (.d (.dic true kvs)) ρ1) : EiX c tg e ρ (kvs.map fun p => keyD p.1) ρ1 := fun G F σ H R T k =>
  ⟨iKeys (tE c e), fun X ok => pi_keys (pe_tE ok e), h G F σ H _ T fun v F1 H1 T1 s1 q => by
    obtain ⟨a, kws, rfl, ⟨od, ca⟩, r⟩ := q
    refine ⟨a, od, rfl, .inl ⟨kws, T1.fle a _ ca, k _ F1 H1 T1 s1 ⟨⟨fun H => H a = some (.frz od (.dK kws)), _, by rw [show (kvs.map fun p => keyD p.1).length = kws.length by rw [r.length]; simp]; exact walk_keys, fun H l => l a _ ca, fun i H y H' Fc hi l1 l2 yy => ?_⟩⟩⟩⟩
    obtain ⟨rfl, kk', vv, ek, rfl⟩ := yy
    obtain ⟨d, e1, e2⟩ := r.get ek
    exact ⟨Fc, keyD kk', .refl l2, by simp [e1], key_den kk'⟩⟩
end
end Fw

set_option Elab.async false
set_option maxRecDepth 100000
set_option maxHeartbeats 4000000
/-! Fw16: methods of lists, tuples, dicts; while; stores into dicts. -/
namespace Fw
open PySem PySem.Spec PyProof.Rows L2
section
variable {c : CD} {vis loc : List Nat} {gl : List Str} {ρ ρ1 ρ2 ρ3 : Env'} {P : Out → Prop}
theorem DenAll.erase {K : PySem.W.Frag} {F : Hp} : ∀ {ds : List D} {vs : List V} (n : Nat), DenAll K F ds vs → DenAll K F (ds.eraseIdx n) (vs.eraseIdx n)
  | [], vs, n, h => by rw [show vs = [] from h]; simp [DenAll]
  | d :: ds, vs, 0, h => by
    obtain ⟨v, vs', rfl, _, r⟩ := h
    exact r
  | d :: ds, vs, n + 1, h => by
    obtain ⟨v, vs', rfl, q, r⟩ := h
    exact ⟨v, vs'.eraseIdx n, rfl, q, DenAll.erase n r⟩
/-- x.pop(e), x a name -/
theorem E_popAt (S : ScOk c vis loc gl) {x : Str} {e : Expr} {xp ap cpos : Pos} (i : Nat) {bb : Option Addr} {es ds : List D} {n : Int} {j : Nat} {d : D} (hr0 : ρ[i]? = some (.ot bb (.fl es))) (he : EvX c e ρ (.d (.int n)) ρ1) (hr : ρ1[i]? = some (.ot bb (.fl ds))) (hN : c.N[i]? = some x) (hi : vis.contains i = true)
    (hn : -(2 ^ 63) ≤ n ∧ n < 2 ^ 63) (hj : seqIndex? n ds.length = some j) (hd : ds[j]? = some d)
    (hbm : ∀ (X : Cx) (te ta : _), PE X (.Name x xp) te → PA X [e] ta → PE X (.Call (.Attribute (.Name x xp) "pop" ap) [e] [] cpos) (tBM X.K "list" rPopAt te ta)) (h1s : ∀ X : Cx, starEach [e] X.env = [(false, eval e X.env)]) :
    EvX c (.Call (.Attribute (.Name x xp) "pop" ap) [e] [] cpos) ρ (.d d) (ρ1.set i (.ot bb (.fl (ds.eraseIdx j)))) := fun G F σ H Q T k => by
  obtain ⟨h1, h2, h3⟩ := S.visOf hi hN
  obtain ⟨v0, w0, bs0, e0, f0, _⟩ := T.node0 hr0 (p := []) rfl
  cases f0
  refine ⟨tBM c.K "list" rPopAt (tVar i) (tCons (tE c e) tNil), fun X ok => by have := hbm X _ _ (pe_var (i := i) (by rw [ok.N]; exact hN) (by rw [ok.sc]; exact h1) h2 h3) (pa_cons (pe_tE ok e) pa_nil (h1s X)); rw [ok.K] at this; exact this, ?_⟩
  obtain ⟨a, vs, ea, ha, _⟩ := meth_run (ds' := es) T hr0 (p := []) rfl e0 rfl
  refine ⟨v0, e0, (by rw [ea]; exact .inl ⟨rfl, vs, SqL.of ha⟩), he G F σ H _ T fun u F2 H2 T2 s2 q => ?_⟩
  have q : u = .int n := q
  subst q
  obtain ⟨a', vs', ea', ha', hd', wr⟩ := meth_run (ds' := ds.eraseIdx j) T2 hr (p := []) rfl e0 rfl
  obtain ⟨v, ev, dv⟩ := hd'.get' hd
  exact ⟨a', vs', n, j, v, ea', rfl, ha', hn.1, hn.2, by rw [hd'.length]; exact hj, ev, k v F2 _ (wr _ (hd'.erase j)) (s2.trans .upd) dv⟩
/-- o.insert(e, f) -/
theorem S_insert {o e f : Expr} {ap pos cpos : Pos} {i : Nat} {p : List Pst} {bb : Option Addr} {t : Tr} {ds : List D} {n : Int} {d : D} (ho : PaX c o ρ i p) (hn : PuX c e ρ (.int n)) (hf : PuX c f ρ d) (hr : ρ[i]? = some (.ot bb t)) (hpt : t.get p = some (.fl ds)) (hl : ds.length ≤ 1000000) (h0 : 0 ≤ n ∧ n < 2 ^ 63)
    (hp : P (.nx (ρ.set i (.ot bb (t.put p (.fl (ds.take n.toNat ++ [d] ++ ds.drop n.toNat)))))))
    (hs : ∀ X : Cx, swapsWith (.Call (.Attribute o "insert" ap) [e, f] [] cpos) none pos.line X.env = pure false)
    (hbm : ∀ (X : Cx) (te ta : _), PE X o te → PA X [e, f] ta → PE X (.Call (.Attribute o "insert" ap) [e, f] [] cpos) (tBM X.K "list" (fun x vs H Q => ∃ (l : Addr) (xs : List V) (i : Int) (y : V), x = .ref l ∧ vs = [.int i, y] ∧ H l = some (.lst xs) ∧ xs.length < sizeLine ∧ 0 ≤ i ∧ i < 2 ^ 63 ∧ Q .non (upd H l (.lst (xs.take i.toNat ++ [y] ++ xs.drop i.toNat)))) te ta))
    (h1s : ∀ X : Cx, starEach [e, f] X.env = [(false, eval e X.env), (false, eval f X.env)]) (h2s : ∀ X : Cx, starEach [f] X.env = [(false, eval f X.env)]) : EsX1 c (.Expr (.Call (.Attribute o "insert" ap) [e, f] [] cpos) pos) ρ P := fun G F σ H D T k => by
  refine ⟨_, fun X ok => ps_expr (by have := hbm X _ _ (pe_tE ok o) (pa_cons (pe_tE ok e) (pa_cons (pe_tE ok f) pa_nil (h2s X)) (by rw [h1s X, h2s X])); rw [ok.K] at this; exact this) (hs X), ?_⟩
  refine ho G F σ H _ T fun v v0 F1 H1 g1 e0 f0 => ?_
  obtain ⟨a, vs, rfl, ha, hd, _⟩ := meth_run (ds' := ds) (T.grow g1) hr hpt e0 f0
  refine ⟨.inl ⟨rfl, vs, SqL.of ha⟩, hn G F1 σ H1 _ (T.grow g1) fun u F2 H2 g2 q => hf G F2 σ H2 _ ((T.grow g1).grow g2) fun w F3 H3 g3 q3 => ?_⟩
  have f0' := fol.mono (H' := H3) (fun a o e m => (g2.trans g3).same a o e m) f0
  obtain ⟨a', vs', ea, ha', hd', wr⟩ := meth_run (ds' := ds.take n.toNat ++ [d] ++ ds.drop n.toNat) (((T.grow g1).grow g2).grow g3) hr hpt e0 f0'
  cases ea
  have q : u = .int n := q
  subst q
  exact ⟨a, vs', n, w, rfl, rfl, ha', by rw [hd'.length, sizeLine_eq]; omega, h0.1, h0.2, k _ hp F3 σ _ (wr _ (((hd'.take _).append (.single q3)).append (hd'.drop _))) (((g1.trans g2).trans g3).step.trans .upd)⟩
/-- o.extend(e), e a list -/
theorem S_extend {o e : Expr} {ap pos cpos : Pos} {i : Nat} {p : List Pst} {bb : Option Addr} {t : Tr} {ds es : List D} (ho : PaX c o ρ i p) (he : PuX c e ρ (.lst es)) (hr : ρ[i]? = some (.ot bb t)) (hpt : t.get p = some (.fl ds)) (hl : ds.length + es.length ≤ 1000000)
    (hp : P (.nx (ρ.set i (.ot bb (t.put p (.fl (ds ++ es)))))))
    (hs : ∀ X : Cx, swapsWith (.Call (.Attribute o "extend" ap) [e] [] cpos) none pos.line X.env = pure false)
    (hbm : ∀ (X : Cx) (te ta : _), PE X o te → PA X [e] ta → PE X (.Call (.Attribute o "extend" ap) [e] [] cpos) (tBM X.K "list" rExtend te ta))
    (h1s : ∀ X : Cx, starEach [e] X.env = [(false, eval e X.env)]) : EsX1 c (.Expr (.Call (.Attribute o "extend" ap) [e] [] cpos) pos) ρ P := fun G F σ H D T k => by
  refine ⟨_, fun X ok => ps_expr (by have := hbm X _ _ (pe_tE ok o) (pa_cons (pe_tE ok e) pa_nil (h1s X)); rw [ok.K] at this; exact this) (hs X), ?_⟩
  refine ho G F σ H _ T fun v v0 F1 H1 g1 e0 f0 => ?_
  obtain ⟨a, vs, rfl, ha, hd, _⟩ := meth_run (ds' := ds) (T.grow g1) hr hpt e0 f0
  refine ⟨.inl ⟨rfl, vs, SqL.of ha⟩, he G F1 σ H1 _ (T.grow g1) fun u F2 H2 g2 q => ?_⟩
  have f0' := fol.mono (H' := H2) (fun a o e m => g2.same a o e m) f0
  obtain ⟨a', vs', ea, ha', hd', wr⟩ := meth_run (ds' := ds ++ es) ((T.grow g1).grow g2) hr hpt e0 f0'
  cases ea
  obtain ⟨b, zs, rfl, hb, hz⟩ := q
  exact ⟨a, b, vs', zs, rfl, rfl, ha', ((T.grow g1).grow g2).fle b _ hb, by rw [hd'.length, hz.length, sizeLine_eq]; omega, k _ hp F2 σ _ (wr _ (hd'.append hz)) ((g1.trans g2).step.trans .upd)⟩
/-! ### while -/
theorem S_while {e : Expr} {body : List Stmt} {pos : Pos} (I : Nat → Env' → Prop) (h0 : ∃ m, I m ρ)
    (turn : ∀ m ρ, I m ρ → ∃ b ρ', EtX c e ρ b ρ' ∧ (b = false → P (.nx ρ')) ∧ (b = true → EsX c body ρ' (fun o => match o with
      | .nx r => ∃ m', m' < m ∧ I m' r
      | .ct r => ∃ m', m' < m ∧ I m' r
      | .bk r => P (.nx r)
      | .rt x r => P (.rt x r)
      | .rz C fs r => P (.rz C fs r)))) : EsX1 c (.While e body [] pos) ρ P := fun G F σ H D T k => by
  refine ⟨tWhile (tT c e) (tSs c body), fun X ok => ps_while ok.po (pt_tT ok e) (pss_tSs ok body), fun m σ' H' => ∃ F' ρ', Stt c.z G F' σ' H' ρ' ∧ FStep F H F' H' ∧ I m ρ', h0.imp fun m hm => ⟨F, ρ, T, .refl F H, hm⟩, ?_⟩
  rintro m σ' H' ⟨F', ρ', T', s', hI⟩
  obtain ⟨b, ρ2, ht, hf, hb⟩ := turn m ρ' hI
  refine ht G F' σ' H' _ T' fun F2 H2 T2 s2 => ?_
  cases b with
  | false => rw [if_neg Bool.false_ne_true]; exact k _ (hf rfl) F2 σ' H2 T2 (s'.trans s2)
  | true =>
    rw [if_pos rfl]
    refine ⟨fun σ3 H3 => ∃ m', m' < m ∧ ∃ F3 ρ3, Stt c.z G F3 σ3 H3 ρ3 ∧ FStep F H F3 H3 ∧ I m' ρ3, fun σ3 H3 h => h, ?_⟩
    refine hb rfl G F2 σ' H2 _ T2 fun o p => ?_
    have st := s'.trans s2
    cases o with
    | nx r =>
      obtain ⟨m', lt, hI'⟩ := p
      exact fun F4 σ4 H4 S4 s4 => ⟨m', lt, F4, r, S4, st.trans s4, hI'⟩
    | ct r =>
      obtain ⟨m', lt, hI'⟩ := p
      exact fun F4 σ4 H4 S4 s4 => ⟨m', lt, F4, r, S4, st.trans s4, hI'⟩
    | bk r => exact fun F4 σ4 H4 S4 s4 => k _ p F4 σ4 H4 S4 (st.trans s4)
    | rt x r => exact fun F4 σ4 H4 v S4 s4 q => k _ p F4 σ4 H4 v S4 (st.trans s4) q
    | rz C fs r => exact fun F4 σ4 H4 d S4 s4 q => k _ p F4 σ4 H4 d S4 (st.trans s4) q
/-! ### dicts of one's own -/
/-- {} -/
theorem E_dnew {pos : Pos} : EvX c (.Dict [] [] pos) ρ (.fr (.fm [])) ρ := fun G F σ H Q T k =>
  ⟨tDNewK, fun X ok => pe_dnewK, fun p n => k _ F _ (T.grow (by
    exact ⟨fun b u e _ => by rw [upd_ne (ne_of_none e n)]; exact e, .refl F, fun b u e => by rw [upd_ne (ne_of_none (T.fle b u e) n)]; exact T.fle b u e, fun _ _ e => e, fun a h => upd_dom h, (fun h => h.ext fun b u e => by rw [upd_ne (ne_of_none e n)]; exact e), fun h => h⟩)) .upd (T.newT n ⟨p, [], rfl, rfl, upd_same, rfl⟩)⟩
theorem dict_run {i : Nat} {p : List Pst} {bb : Option Addr} {t : Tr} {kvs kvs' : List (Key × D)} {G : Gd} {F : Hp} {σ : L2.St} {H : Hp} (T : Stt c.z G F σ H ρ) (hr : ρ[i]? = some (.ot bb t)) (hp : t.get p = some (.fm kvs)) {v0 v : V} (e0 : σ[i]? = some (some v0)) (f0 : fol H v0 p = some v) :
    ∃ a kws, v = .ref a ∧ H a = some (.dK kws) ∧ DenKv c.z.K F kvs kws ∧ ∀ kws', DenKv c.z.K F kvs' kws' → Stt c.z G F σ (upd H a (.dK kws')) (ρ.set i (.ot bb (t.put p (.fm kvs')))) := by
  obtain ⟨v1, w, bs, e1, f1, ⟨a, kws, rfl, rfl, ha, hd⟩, nb, _, mk⟩ := T.node0 hr hp
  rw [e0] at e1
  cases e1
  rw [f0] at f1
  cases f1
  refine ⟨a, kws, rfl, ha, hd, fun kws' hd' => mk (n' := .fm kvs') (bs' := [a]) (fun x hx u hu => ?_) (fun x hx => ?_) (tabs_upd T.tabs ha (fun _ z => nomatch z) fun _ z => nomatch z) ⟨a, kws', rfl, rfl, upd_same, hd'⟩ nb fun x hx => .inl hx⟩
  · rw [upd_ne (fun z => hx (by simp [z]))]
    exact hu
  · rw [List.mem_singleton.mp hx, upd_same]
    exact fun z => nomatch z
/-- o[k] = e, o a path to a flat own dict -/
theorem S_dput {o ix e : Expr} {sp pos : Pos} {i : Nat} {p : List Pst} {bb : Option Addr} {t : Tr} {kvs : List (Key × D)} {d : D} {k : Key} (he : EvX c e ρ (.d d) ρ1) (ho : PaX c o ρ1 i p) (hix : PuX c ix ρ1 (keyD k)) (hr : ρ1[i]? = some (.ot bb t)) (hpt : t.get p = some (.fm kvs)) (hl : kvs.length ≤ 1000000)
    (hp : P (.nx (ρ1.set i (.ot bb (t.put p (.fm (putD kvs k d))))))) (hs : ∀ X : Cx, swapsWith e (some (.Subscript o ix sp)) pos.line X.env = pure false) : EsX1 c (.Assign [.Subscript o ix sp] e pos) ρ P := fun G F σ H D T kk => by
  refine ⟨sDPut (tE c o) (tE c ix) (tE c e), fun X ok => ps_dput (units1 ok) (pe_tE ok o) (pe_tE ok ix) (pe_tE ok e) (hs X), he G F σ H _ T fun v F1 H1 T1 s1 q => ?_⟩
  refine ho G F1 σ H1 _ T1 fun vo v0 F2 H2 g2 e0 f0 => hix G F2 σ H2 _ (T1.grow g2) fun vi F3 H3 g3 q3 => ?_
  have f0' := fol.mono (H' := H3) (fun a o e m => g3.same a o e m) f0
  obtain ⟨a, kws, rfl, ha, hd, wr⟩ := dict_run (kvs' := putD kvs k d) ((T1.grow g2).grow g3) hr hpt e0 f0'
  rw [den_key q3]
  exact ⟨a, _, rfl, DPut.k ha (by rw [hd.length, sizeLine_eq]; omega), kk _ hp F3 σ _ (wr _ (hd.put (Den.mono (g2.trans g3).fle _ _ q))) ((s1.trans (g2.trans g3).step).trans .upd)⟩
end
end Fw

set_option Elab.async false
set_option maxRecDepth 100000
set_option maxHeartbeats 4000000
/-! Fw17: tuples with methods; attributes stored; instances made; methods of an instance that is being made. -/
namespace Fw
open PySem PySem.Spec PyProof.Rows L2
theorem call_tupN {X : Cx} : CallR X (.type "tuple") (fun xs H Q => ∃ p ys, xs = [.ref p] ∧ SqL X.K H p ys ∧ ∀ l o, H l = none → o.dict = none → Q (.ref l) (upd H l (.frz o (.tup ys)))) := by
  rintro pins s σ H xs us Q I r ⟨p, ys, rfl, hq, q⟩
  obtain ⟨u, rfl, ru⟩ := Vals.one r
  obtain rfl : u = Value.ref p := ru
  obtain ⟨its, rv, pl, hz⟩ := I.list hq
  have hl := rv.length
  refine call_tuple_list pl.isList (fun h1 kp => ?_) (by simp only [List.size_toArray]; omega)
  have I1 : Inv X pins σ H { s with heap := h1 } := I.kept (t' := s.toks) kp
  have ok : ∀ H', ObjOk X.prog X.w H' (h1.push { cls := .type "tuple", data := .seq its.toArray }) h1.objs.size (.frz { cls := .type "tuple", data := .seq its.toArray } (.tup ys)) := fun H' =>
    ⟨Heap.get?_push_size _ rfl, hz, its, rv, IsTup.new _ _⟩
  exact ⟨.ref h1.objs.size, _, I1.laid (t' := s.toks) (o := .frz { cls := .type "tuple", data := .seq its.toArray } (.tup ys)) (fun b o e => Heap.get?_push_of_some _ e) (Nat.le_refl _) (ok _), rfl, q _ _ (I1.hok.fresh (Nat.le_refl _)) rfl⟩
def tBN (r : V → List V → Hp → VK → Prop) (to : TE) (t : TA) : TE := fun σ H Q => to σ H fun x H1 => (∃ a vs, x = .ref a ∧ SqN H1 a vs) ∧ t σ H1 fun xs H2 => r x xs H2 Q
theorem pe_bmN {X : Cx} {o e : Expr} {es : List Expr} {to : TE} {t : TA} {name : Str} {apos cpos : Pos} {id : String} {r : V → List V → Hp → VK → Prop} (slot : Slot "tuple" name id) (hty : typeOf (.builtin id) = pure (.type "method_descriptor")) (hm : MtR X id r) (ho : PE X o to) (ha : PA X (e :: es) t)
    (hbase : attributeBase o name X.env (eval o X.env) = eval o X.env)
    (hfew : ((backTo cpos (starEach (e :: es) X.env)).all (fun x => !x.1) && (backToKw cpos (keywordEach [] X.env)).all (fun x => x.1.isSome) && decide ((e :: es).length + ([] : List Keyword).length + (if ([] : List Keyword).isEmpty then 0 else 1) < 30)) = true)
    (hline : (apos.endLine == cpos.line) = true) (hs : starEach (e :: es) X.env = (false, eval e X.env) :: starEach es X.env) (hplain : (backTo cpos (starEach es X.env)).any (·.1) = false) : PE X (.Call (.Attribute o name apos) (e :: es) [] cpos) (tBN r to t) := by
  refine ⟨fun pins s σ H Q I h => wpAny_Call_method_late hbase hfew hline rfl (thn (ho.run pins s σ H _ I h) fun v s1 hh => ?_)⟩
  obtain ⟨x, H1, I1, r1, ⟨a, vs, rfl, ob, hN, hnd⟩, q1⟩ := hh
  obtain rfl : v = Value.ref a := r1
  obtain ⟨hob, tp⟩ := I1.hok a _ hN
  obtain ⟨_, its, rv, oo, ho2, hc, n, hd⟩ := tp
  rw [hob] at ho2
  cases ho2
  refine ⟨"tuple", id, PySem.F.plainAttrs_tuple, slot, hty, ⟨ob, hob, hc⟩, fun b e2 => by cases e2; exact ⟨ob, hob, hnd⟩, ?_⟩
  have hA := ha.run cpos pins s1 σ H1 _ I1 q1
  rw [hs] at hA ⊢
  refine Calls.callWith_builtin ?_ (Calls.evalArgs_plain (thn hA fun us s2 h2 => ?_))
  · show (false || (backTo cpos (starEach es X.env)).any (·.1)) = false
    rw [hplain]
    rfl
  · obtain ⟨ws, H2, I2, r2, q2⟩ := h2
    exact hm pins s2 σ H2 (.ref a) ws (.ref a) us Q I2 rfl r2 q2
section
variable {c : CD} {vis loc : List Nat} {gl : List Str} {ρ ρ1 ρ2 ρ3 : Env'} {P : Out → Prop}
/-- a tuple is a tuple -/
theorem E_forget {e : Expr} {xs : List D} (h : EvX c e ρ (.d (.tun xs)) ρ1) : EvX c e ρ (.d (.tup xs)) ρ1 := fun G F σ H Q T k => h G F σ H Q T fun v F' H' S s q => k v F' H' S s (by
  obtain ⟨a, vs, rfl, n, r⟩ := q
  exact ⟨a, vs, rfl, n.sq, r⟩)
/-- tuple(a list) -/
theorem b_tun {x : D} {ds : List D} (hs : (match x with | .lst ds => some ds | .scr ns => some (ns.map D.int) | _ => none) = some ds) : Cb c (.type "tuple") [x] (.tun ds) := by
  intro F H vs Q l h k
  obtain ⟨v, _, rfl, hv, rfl⟩ := h
  refine ⟨_, fun X ok => by have := call_tupN (X := X); rw [ok.K] at this; exact this, ?_⟩
  have h2 : ∃ a ws, v = .ref a ∧ SqL c.K H a ws ∧ DenAll c.K F ds ws := by
    cases x with
    | lst es =>
      cases hs
      obtain ⟨a, ws, rfl, q, r⟩ := hv
      exact ⟨a, ws, rfl, SqL.of q, r⟩
    | scr ns =>
      cases hs
      obtain ⟨a, rfl, q⟩ := hv
      exact ⟨a, _, rfl, l.seq q, DenAll.ints.mpr rfl⟩
    | _ => cases hs
  obtain ⟨a, ws, rfl, q, r⟩ := h2
  exact ⟨a, ws, rfl, q, fun p o n nd => k _ _ _ (Grow.alloc l n) ⟨p, ws, rfl, ⟨o, upd_same, nd⟩, DenAll.mono (FLe.new (l.none n)) _ _ r⟩⟩
/-- t.index(s), a tuple of texts -/
theorem E_idxT {o e : Expr} {ap cpos : Pos} {xs : List Str} {z : Str} {j : Nat} (ho : EvX c o ρ (.d (.tun (xs.map D.str))) ρ1) (he : EvX c e ρ1 (.d (.str z)) ρ2) (hj : xs[j]? = some z) (hno : ∀ m, m < j → xs[m]? ≠ some z)
    (hb : ∀ X : Cx, attributeBase o "index" X.env (eval o X.env) = eval o X.env) (h1s : ∀ X : Cx, starEach [e] X.env = [(false, eval e X.env)])
    (hf : ∀ X : Cx, ((backTo cpos (starEach [e] X.env)).all (fun x => !x.1) && (backToKw cpos (keywordEach [] X.env)).all (fun x => x.1.isSome) && decide (([e] : List Expr).length + ([] : List Keyword).length + (if ([] : List Keyword).isEmpty then 0 else 1) < 30)) = true)
    (hl : (ap.endLine == cpos.line) = true) : EvX c (.Call (.Attribute o "index" ap) [e] [] cpos) ρ (.d (.int (j : Nat))) ρ2 := fun G F σ H Q T k => by
  refine ⟨_, fun X ok => by have := pe_bmN (X := X) PySem.F.slot_tuple_index PySem.F.type_tuple_index mt_tup_index (pe_tE ok o) (pa_cons (pe_tE ok e) pa_nil (h1s X)) (hb X) (hf X) hl (h1s X) rfl; rw [ok.K] at this; exact this, ?_⟩
  refine ho G F σ H _ T fun v F1 H1 T1 s1 q1 => ?_
  obtain ⟨a, vs, rfl, q, r⟩ := q1
  rw [DenAll.strs.mp r] at q
  refine ⟨⟨a, _, rfl, q.mono T1.fle⟩, he G F1 σ H1 _ T1 fun u F2 H2 T2 s2 q2 => ?_⟩
  have q2 : u = .str z := q2
  subst q2
  exact ⟨a, xs, z, j, rfl, rfl, ((q.mono s2.fle).mono T2.fle).sq, hj, hno, k _ F2 H2 T2 (s1.trans s2) rfl⟩
/-! ### attributes -/
def putFd (f : Str) (t : Tr) (fts : List (Str × Tr)) : List (Str × Tr) := fts ++ [(f, t)]
theorem OwnFs.fresh {K : PySem.W.Frag} {F F' H H' : Hp} {f : Str} {v : V} {gs : List (Str × V)} {t : Tr} {bs : List Addr} (l : FLe F F') : ∀ {fts : List (Str × Tr)} {as : List Addr}, OwnFs K F H fts gs as → getFd f fts = none → (∀ b ∈ as, ∀ u, H b = some u → NT u → H' b = some u) → OwnT K F' H' t v bs → OwnFs K F' H' (putFd f t fts) (putF f v gs) (as ++ bs)
  | [], as, h, _, _, ht => by
    rw [show as = [] from h]
    exact ⟨v, bs, [], by rw [lookup_putF, if_pos rfl], by simp, ht, rfl⟩
  | (g, u) :: fts, as, h, hn, k, ht => by
    obtain ⟨w, b1, c1, e, rfl, q, r⟩ := h
    unfold getFd at hn
    by_cases z : g = f
    · rw [if_pos z] at hn; cases hn
    · rw [if_neg z] at hn
      exact ⟨w, b1, c1 ++ bs, by rw [lookup_putF, if_neg z]; exact e, by simp, q.grow l _ fun b hb => k b (by simp [hb]), OwnFs.fresh l r hn (fun b hb => k b (by simp only [List.mem_append]; exact .inr hb)) ht⟩
/-- o.f = e, a new field, frozen data -/
theorem S_fld {o e : Expr} {f : Str} {ap pos : Pos} {i : Nat} {p : List Pst} {bb : Option Addr} {t : Tr} {C : Addr} {nm : List Str} {fts : List (Str × Tr)} {d : D} (he : EvX c e ρ (.d d) ρ1) (ho : PaX c o ρ1 i p) (hr : ρ1[i]? = some (.ot bb t)) (hpt : t.get p = some (.o C nm fts)) (hf : getFd f fts = none) (hn : nm.contains f = true) (hc : Cls c.K C) (hA : NoAttr c.K C f)
    (hl : fts.length < 900) (hp : P (.nx (ρ1.set i (.ot bb (t.put p (.o C nm (putFd f (.d d) fts))))))) (hs : ∀ X : Cx, swapsWith e (some (.Attribute o f ap)) pos.line X.env = pure false) : EsX1 c (.Assign [.Attribute o f ap] e pos) ρ P := fun G F σ H D T k => by
  refine ⟨sFld c.K (tE c o) (tE c e) f, fun X ok => by have := ps_fld (pe_tE ok o) (pe_tE ok e) (hs X); rw [ok.K] at this; exact this, he G F σ H _ T fun y F1 H1 T1 s1 q => ?_⟩
  refine ho G F1 σ H1 _ T1 fun x v0 F2 H2 g2 e0 f0 => ?_
  have T2 := T1.grow g2
  obtain ⟨v1, w, bs, e1, f1, ⟨a, dx, gs, cs, rfl, rfl, ha, ⟨n1, n2⟩, hfs⟩, nb, _, mk⟩ := T2.node0 hr hpt
  rw [e0] at e1
  cases e1
  rw [f0] at f1
  cases f1
  have na := List.nodup_cons.mp nb
  refine ⟨a, C, dx, gs, rfl, ha, hc, hA, by omega, k _ hp F2 σ _ (mk (n' := .o C nm (putFd f (.d d) fts)) (bs' := a :: (cs ++ [])) (fun z hz u hu => ?_) (fun z hz => ?_) (tabs_upd T2.tabs ha (fun _ z => nomatch z) fun _ z => nomatch z) ⟨a, dx, putF f y gs, cs ++ [], rfl, rfl, upd_same, ⟨fun m hm => ?_, ?_⟩, hfs.fresh (.refl F2) hf (fun b hb u hu _ => ?_) ⟨rfl, Den.mono g2.fle _ _ q⟩⟩ (by simpa using nb) fun z hz => .inl (by simpa using hz)) ((s1.trans g2.step).trans .upd)⟩
  · rw [upd_ne (fun e => hz (by simp [e]))]
    exact hu
  · exact upd_dom (by
      rcases List.mem_cons.mp hz with rfl | hz
      · rw [ha]; exact fun z => nomatch z
      · obtain ⟨u, hu, _⟩ := OwnFs.there _ hfs z hz
        rw [hu]; exact fun z => nomatch z)
  · rw [lookup_putF, if_neg (fun e => by rw [e, hn] at hm; cases hm)]
    exact n1 m hm
  · have := length_putF f y gs
    unfold putFd
    rw [List.length_append]
    simp only [List.length_cons, List.length_nil]
    omega
  · rw [upd_ne (fun e => na.1 (by rw [← e]; exact hb))]
    exact hu
end
end Fw

set_option Elab.async false
set_option maxRecDepth 100000
set_option maxHeartbeats 4000000
/-! Fw18: instances made. -/
namespace Fw
open PySem PySem.Spec PyProof.Rows L2
/-- a class of the text by its name: its __init__ keeps sp where there is room for k -/
structure KnC (Z : Zd) (k : Nat) (x : Str) (C : Addr) (sp : Sp) : Prop where
  ex : ∃ f fd ps, Z.mg x = some (.ref C) ∧ Mk Z.K C f ∧ Binds Z.K fd ps [] ∧ FnK Z.P Z.w Z.K Z.mg Z.base (L2.CX Z.P Z.w) k f fd ps sp
theorem empty_of {H : Hp} {F : Hp} {io : List Addr} {nf : Addr → Prop} {Z : Zd} {σ : L2.St} {es : Env'} {bss : List (List Addr)} (qa : EntsOk Z nf F H es σ bss) (fra : ∀ a ∈ bss.flatten, F a = none ∧ (H a = none ∨ a ∈ ([] : List Addr))) : bss.flatten = [] := by
  cases z : bss.flatten with
  | nil => rfl
  | cons y ys =>
    have := fra y (by rw [z]; exact List.mem_cons_self)
    obtain ⟨u, hu, _⟩ := qa.there y (by rw [z]; exact List.mem_cons_self)
    rcases this.2 with w | w
    · rw [w] at hu; cases hu
    · cases w
section
variable {c : CD} {vis loc : List Nat} {gl : List Str} {ρ ρ1 ρ2 ρ3 : Env'} {P : Out → Prop}
/-- C(args): a new thing -/
theorem E_make (S : ScOk c vis loc gl) {j : Nat} {x : Str} {p pos : Pos} {e : Expr} {es : List Expr} {C : Addr} {nm : List Str} {t' : Tr} {xs : List D} {Sd : List Ent → (Res → List Ent → Prop) → (Value → List (Str × D) → List Ent → Prop) → Prop} (F : KnC c.z j x C (SpE c.z Sd)) (hj : j < c.k) (ha : EaX c (e :: es) ρ (xs.map Res.d) ρ1)
    (hS : ∀ (a : Addr) (Q : Res → List Ent → Prop) R, Q (.d .non) (.ot (some a) t' :: xs.map Ent.d) → Sd (.ot (some a) (.o C nm []) :: xs.map Ent.d) Q R) (hx : x ∈ gl)
    (he : ∀ X : Cx, starEach (e :: es) X.env = (false, eval e X.env) :: starEach es X.env) (hpl : ∀ X : Cx, (backTo pos (starEach es X.env)).any (·.1) = false) (hl : ρ1.length = ρ.length) : EvX c (.Call (.Name x p) (e :: es) [] pos) ρ (.fr t') ρ1 := fun G F0 σ H Q T k => by
  obtain ⟨f, fd, ps, hm, hM, hb, hF⟩ := F.ex
  refine ⟨tMake C (SpE c.z Sd) [] c.E (tA c (e :: es)), fun X ok => ?_, ha G F0 σ H _ T fun vs F1 H1 T1 s1 l q => fun a dx ea ed ne => ?_⟩
  · have hF' : FnK X.prog X.w X.K X.mg X.base (L2.CX X.prog X.w) j f fd ps (SpE c.z Sd) := by rw [ok.P, ok.w, ok.K, ok.mg, ok.base]; exact hF
    exact pk_make (by rw [ok.K]; exact hM) hF' (ok.room.mono (by omega)) (ok.glOf S hx) (by rw [ok.mg]; exact hm) (by rw [ok.K]; exact hb) .nil ok.pass (pa_tA ok _) (S.glOf hx).2.1 (he X) (hpl X)
  rw [List.append_nil]
  have hd := denAll_of l q
  have g1 : Grow c.z F1 H1 (upd F1 dx (.own a)) (upd H1 dx (.own a)) := Grow.alloc T1.fle ed
  have T2 := T1.grow g1
  have ea' : upd H1 dx (.own a) a = none := by rw [upd_ne (fun z => ne z.symm)]; exact ea
  have T3 := Stt.newT (t := .o C nm []) (o := .ins C dx []) T2 ea' ⟨a, dx, [], [], rfl, rfl, upd_same, ⟨fun _ _ => rfl, Nat.le_refl _⟩, rfl⟩
  have lσ : σ.length = ρ1.length := T1.len
  have hi : (ρ1 ++ [.ot none (.o C nm [])])[ρ1.length]? = some (.ot none (.o C nm [])) := by simp
  obtain ⟨w0, as0, e1, qt, nd0, fr0, back, backF⟩ := T3.call1 hi
  have hw : w0 = .ref a := by
    rw [← lσ] at e1
    simp at e1
    exact e1.symm
  subst hw
  have hd2 := DenAll.mono g1.fle _ _ hd
  have A := stt_args T3 hd2
  obtain ⟨bss, qa, nda, fra⟩ := A.ents
  have fl : bss.flatten = [] := empty_of (io := []) qa fra
  refine ⟨_, Ent.ot (some a) (.o C nm []) :: xs.map Ent.d, as0, fun z => nfOf (upd F1 dx (.own a)) (upd (upd H1 dx (.own a)) a (.ins C dx [])) z ∧ z ∉ as0, ⟨T3.fle, T3.fnt, fun b o e _ _ => e, fun b h => h.1, fun b h => h, T3.tabs, as0 :: bss, ⟨_, vs.map some, as0, bss, rfl, rfl, ⟨_, rfl, qt, ⟨fun _ a ha z => z.2 ha, fun y z => by cases z; rfl⟩⟩, qa.less fun a ha _ => by rw [fl] at ha; cases ha⟩, by simpa [fl] using nd0, fun y hy => ?_⟩, hS a _ _ fun v F2 H2 S2 s2 q2 => ⟨q2, ?_⟩⟩
  · simp only [List.flatten_cons, fl, List.append_nil] at hy
    exact ⟨fr0 y hy, .inr hy⟩
  · have B := back S2 s2
    have hset : (ρ1 ++ [Ent.ot none (.o C nm [])]).set ρ1.length (Ent.ot none t') = ρ1 ++ [Ent.ot none t'] := by
      rw [List.set_append_right _ _ (Nat.le_refl _)]
      simp
    rw [hset] at B
    exact k _ F2 H2 (B.drops lσ) ((s1.trans (g1.step.trans .upd)).trans s2) B
end
end Fw

set_option Elab.async false
set_option maxRecDepth 100000
set_option maxHeartbeats 4000000
/-! Fw19: methods of an instance that is being made: only its own cell is lent. -/
namespace Fw
open PySem PySem.Spec PyProof.Rows L2
mutual
/-- data without instances -/
def D.nobj : D → Bool
  | .tup ds => nobjs ds
  | .tun ds => nobjs ds
  | .lst ds => nobjs ds
  | .dic _ kvs => nobjk kvs
  | .obj _ _ _ => false
  | .exc _ _ => false
  | _ => true
def nobjs : List D → Bool
  | [] => true
  | d :: ds => d.nobj && nobjs ds
def nobjk : List (Key × D) → Bool
  | [] => true
  | (_, d) :: ds => d.nobj && nobjk ds
end
section
variable {K : PySem.W.Frag} {F F2 : Hp}
/-- all but instances stands there still -/
def NoIns (F F2 : Hp) : Prop := ∀ a o, F a = some o → (∀ C dx gs, o ≠ .ins C dx gs) → F2 a = some o
mutual
theorem Den.nobj (k : NoIns F F2) : ∀ (d : D) {v : V}, d.nobj = true → Den K F d v → Den K F2 d v
  | .non, _, _, h => h
  | .bl _, _, _, h => h
  | .int _, _, _, h => h
  | .str _, _, _, h => h
  | .ty _, _, _, h => h
  | .cls _, _, _, h => h
  | .ptr _, _, _, h => h
  | .tun ds, v, b, h => by
    obtain ⟨a, vs, e, ⟨o, q, n⟩, r⟩ := h
    exact ⟨a, vs, e, ⟨o, k a _ q (fun _ _ _ z => nomatch z), n⟩, Den.nobjs k ds b r⟩
  | .tup ds, v, b, h => by
    obtain ⟨a, vs, e, q, r⟩ := h
    refine ⟨a, vs, e, ?_, Den.nobjs k ds b r⟩
    rcases q with (q | ⟨o, q⟩) | q
    · exact .inl (.inl (k a _ q fun _ _ _ z => nomatch z))
    · exact .inl (.inr ⟨o, k a _ q fun _ _ _ z => nomatch z⟩)
    · exact .inr q
  | .lst ds, v, b, h => by
    obtain ⟨a, vs, e, q, r⟩ := h
    exact ⟨a, vs, e, k a _ q (fun _ _ _ z => nomatch z), Den.nobjs k ds b r⟩
  | .scr ns, v, b, h => by
    obtain ⟨a, e, q⟩ := h
    refine ⟨a, e, ?_⟩
    rcases q with (q | ⟨o, q⟩) | q
    · exact .inl (.inl (k a _ q fun _ _ _ z => nomatch z))
    · exact .inl (.inr ⟨o, k a _ q fun _ _ _ z => nomatch z⟩)
    · exact .inr q
  | .dic lk kvs, v, b, h => by
    obtain ⟨a, vs, e, q, r⟩ := h
    refine ⟨a, vs, e, ?_, Den.nobjk k kvs b r⟩
    cases lk with
    | true => exact q.imp fun od h => k a _ h fun _ _ _ z => nomatch z
    | false => exact k a _ q fun _ _ _ z => nomatch z
  | .obj _ _ _, _, b, _ => by cases b
  | .exc _ _, _, b, _ => by cases b
theorem Den.nobjs (k : NoIns F F2) : ∀ (ds : List D) {vs : List V}, Fw.nobjs ds = true → DenAll K F ds vs → DenAll K F2 ds vs
  | [], _, _, h => h
  | d :: ds, vs, b, h => by
    obtain ⟨v, vs', e, q, r⟩ := h
    have b : (d.nobj && Fw.nobjs ds) = true := b
    rw [Bool.and_eq_true] at b
    exact ⟨v, vs', e, Den.nobj k d b.1 q, Den.nobjs k ds b.2 r⟩
theorem Den.nobjk (k : NoIns F F2) : ∀ (ds : List (Key × D)) {vs : List (Key × V)}, Fw.nobjk ds = true → DenKv K F ds vs → DenKv K F2 ds vs
  | [], _, _, h => h
  | (x, d) :: ds, vs, b, h => by
    obtain ⟨v, vs', e, q, r⟩ := h
    have b : (d.nobj && Fw.nobjk ds) = true := b
    rw [Bool.and_eq_true] at b
    exact ⟨v, vs', e, Den.nobj k d b.1 q, Den.nobjk k ds b.2 r⟩
end
end
mutual
/-- trees whose frozen leaves hold no instances -/
def Tr.nobj : Tr → Bool
  | .d x => x.nobj
  | .fl ds => nobjs ds
  | .fm kvs => nobjk kvs
  | .l ts => tnobjs ts
  | .m kts => tnobjk kts
  | .o _ _ fts => tnobjf fts
  | .hole _ => true
def tnobjs : List Tr → Bool
  | [] => true
  | t :: ts => t.nobj && tnobjs ts
def tnobjk : List (Key × Tr) → Bool
  | [] => true
  | (_, t) :: ts => t.nobj && tnobjk ts
def tnobjf : List (Str × Tr) → Bool
  | [] => true
  | (_, t) :: ts => t.nobj && tnobjf ts
end
section
variable {K : PySem.W.Frag} {F F2 H : Hp}
mutual
theorem OwnT.nobj (k : NoIns F F2) : ∀ (t : Tr) {v : V} {as : List Addr}, t.nobj = true → OwnT K F H t v as → OwnT K F2 H t v as
  | .d x, v, as, b, h => ⟨h.1, Den.nobj k x b h.2⟩
  | .fl ds, v, as, b, h => by
    obtain ⟨a, vs, rfl, rfl, e, r⟩ := h
    exact ⟨a, vs, rfl, rfl, e, Den.nobjs k ds b r⟩
  | .fm ds, v, as, b, h => by
    obtain ⟨a, vs, rfl, rfl, e, r⟩ := h
    exact ⟨a, vs, rfl, rfl, e, Den.nobjk k ds b r⟩
  | .l ts, v, as, b, h => by
    obtain ⟨a, vs, bs, rfl, rfl, e, r⟩ := h
    exact ⟨a, vs, bs, rfl, rfl, e, OwnTs.nobj k ts b r⟩
  | .m ts, v, as, b, h => by
    obtain ⟨a, vs, bs, rfl, rfl, e, r⟩ := h
    exact ⟨a, vs, bs, rfl, rfl, e, OwnKs.nobj k ts b r⟩
  | .o C nm fts, v, as, b, h => by
    obtain ⟨a, dx, gs, bs, rfl, rfl, e, n, r⟩ := h
    exact ⟨a, dx, gs, bs, rfl, rfl, e, n, OwnFs.nobj k fts b r⟩
  | .hole a, v, as, b, h => h
theorem OwnTs.nobj (k : NoIns F F2) : ∀ (ts : List Tr) {vs : List V} {as : List Addr}, tnobjs ts = true → OwnTs K F H ts vs as → OwnTs K F2 H ts vs as
  | [], _, _, _, h => h
  | t :: ts, vs, as, b, h => by
    obtain ⟨v, vs', bs, cs, rfl, rfl, q, r⟩ := h
    have b : (t.nobj && tnobjs ts) = true := b
    rw [Bool.and_eq_true] at b
    exact ⟨v, vs', bs, cs, rfl, rfl, OwnT.nobj k t b.1 q, OwnTs.nobj k ts b.2 r⟩
theorem OwnKs.nobj (k : NoIns F F2) : ∀ (ts : List (Key × Tr)) {vs : List (Key × V)} {as : List Addr}, tnobjk ts = true → OwnKs K F H ts vs as → OwnKs K F2 H ts vs as
  | [], _, _, _, h => h
  | (x, t) :: ts, vs, as, b, h => by
    obtain ⟨v, vs', bs, cs, rfl, rfl, q, r⟩ := h
    have b : (t.nobj && tnobjk ts) = true := b
    rw [Bool.and_eq_true] at b
    exact ⟨v, vs', bs, cs, rfl, rfl, OwnT.nobj k t b.1 q, OwnKs.nobj k ts b.2 r⟩
theorem OwnFs.nobj (k : NoIns F F2) {gs : List (Str × V)} : ∀ (ts : List (Str × Tr)) {as : List Addr}, tnobjf ts = true → OwnFs K F H ts gs as → OwnFs K F2 H ts gs as
  | [], _, _, h => h
  | (x, t) :: ts, as, b, h => by
    obtain ⟨v, bs, cs, e, rfl, q, r⟩ := h
    have b : (t.nobj && tnobjf ts) = true := b
    rw [Bool.and_eq_true] at b
    exact ⟨v, bs, cs, e, rfl, OwnT.nobj k t b.1 q, OwnFs.nobj k ts b.2 r⟩
end
end
/-- the fields that are frozen data -/
def leafD : List (Str × Tr) → List (Str × D)
  | [] => []
  | (f, .d x) :: fts => (f, x) :: leafD fts
  | (_, _) :: fts => leafD fts
theorem OwnFs.leaf {K : PySem.W.Frag} {F H : Hp} {gs : List (Str × V)} : ∀ {fts : List (Str × Tr)} {as : List Addr}, OwnFs K F H fts gs as → DenFs K F (leafD fts) gs
  | [], _, _ => trivial
  | (f, t) :: fts, as, h => by
    obtain ⟨v, bs, cs, e, rfl, q, r⟩ := h
    cases t with
    | d x => exact ⟨⟨v, e, q.2⟩, OwnFs.leaf r⟩
    | _ =>
      show DenFs K F (leafD fts) gs
      exact OwnFs.leaf r
section
variable {Z : Zd} {G : Gd} {F H : Hp} {σ : L2.St} {ρ : Env'}
theorem hide_ents {nf : Addr → Prop} : ∀ {ρ : Env'} {σ : L2.St} {as : List (List Addr)}, EntsOk Z nf F H ρ σ as → ∀ {nf' : Addr → Prop} {F' : Hp}, FLe F F' → EntsOk Z nf' F' H (Fw.hide ρ) σ (List.replicate ρ.length [])
  | [], _, _, h, _, _, _ => ⟨h.1, rfl⟩
  | e :: ρ, _, _, h, nf', F', l => by
    obtain ⟨o, σ', bs, as', rfl, rfl, q, r⟩ := h
    refine ⟨o, σ', [], List.replicate ρ.length [], rfl, rfl, ?_, hide_ents r l⟩
    cases e with
    | un => exact rfl
    | d x => exact ⟨rfl, q.2.imp fun v h => ⟨h.1, Den.mono l x v h.2⟩⟩
    | fn k kp S => exact ⟨rfl, q.2.imp fun v h => ⟨h.1, h.2.mono l⟩⟩
    | ot b t => exact rfl
/-- slot i's instance lent: its frozen fields; all other own things are hidden -/
theorem Stt.lendO (S : Stt Z G F σ H ρ) {i : Nat} {b : Option Addr} {C : Addr} {nm : List Str} {fts : List (Str × Tr)} (hi : ρ[i]? = some (.ot b (.o C nm fts))) :
    ∃ F1, FLe F F1 ∧ Stt Z ⟨H, [], nfOf F1 H⟩ F1 σ H ((Fw.hide ρ).set i (.d (.obj C nm (leafD fts)))) ∧
    ∀ {F2 H2 : Hp} {σ2 : L2.St} {ρ2 : Env'}, Stt Z ⟨H, [], nfOf F1 H⟩ F2 σ2 H2 ρ2 → FStep F1 H F2 H2 → ∃ F3, Grow Z F H F3 H2 ∧ FLe F3 F2 ∧ NoIns F2 F3 := by
  obtain ⟨ass, q, nd, fr⟩ := S.ents
  obtain ⟨o0, as0, e1, e2, e3⟩ := q.at hi
  obtain ⟨v0, rfl, ⟨a, dx, gs, bs, rfl, rfl, ha, hn, hfs⟩, ob⟩ := e3
  have hF : F a = none := (fr a (mem_flat e2 (by simp))).1
  have ht : ∃ u, H a = some u ∧ Nd u := ⟨_, ha, .ins⟩
  have fl : FLe F (frz F H [a]) := frz_fle fun b hb => by rw [List.mem_singleton.mp hb]; exact hF
  have hlt : i < ρ.length := (List.getElem?_eq_some_iff.mp hi).1
  have S0 : Stt Z ⟨H, [], nfOf (frz F H [a]) H⟩ (frz F H [a]) σ H (Fw.hide ρ) :=
    ⟨frz_le S.fle, frz_nt S.fnt fun b hb => by rw [List.mem_singleton.mp hb]; exact ht, fun b o e _ _ => e, fun a h => h, fun a h => h, S.tabs, _, hide_ents q fl, by simp, by simp⟩
  refine ⟨frz F H [a], fl, ?_, fun {F2 H2 σ2 ρ2} S2 s => ?_⟩
  · have := S0.put (i := i) (x := .obj C nm (leafD fts)) (v := .ref a) ⟨a, dx, gs, rfl, by rw [frz_in (by simp)]; exact ha, hn.1, DenFs.mono fl _ hfs.leaf⟩
    rw [st_self e1] at this
    exact this
  · have g := fun b o (e : H b = some o) n => S2.keep b o e (by simp) n
    have h2a : F2 a = some (.ins C dx gs) := s.fle a _ (by rw [frz_in (by simp)]; exact ha)
    refine ⟨fun b => if b = a then none else F2 b, ⟨g, fun b o e => ?_, fun b o e => ?_, fun x h e => ?_, s.dom, (fun _ => S2.tabs), fun _ b o e => ?_⟩, fun b o e => ?_, fun b o e n => ?_⟩
    · have hb : b ≠ a := fun z => by rw [z, hF] at e; cases e
      show (if b = a then none else F2 b) = _
      rw [if_neg hb]
      exact s.fle b o (fl b o e)
    · by_cases hb : b = a
      · have e : (if b = a then none else F2 b) = some o := e
        rw [if_pos hb] at e
        cases e
      · have e : (if b = a then none else F2 b) = some o := e
        rw [if_neg hb] at e
        exact S2.fle b o e
    · show (if x = a then none else F2 x) = _
      by_cases hb : x = a
      · rw [if_pos hb]
      · rw [if_neg hb]
        exact (S2.nf x ⟨h, by rw [frz_out (by simpa using hb)]; exact e⟩).2
    · by_cases hb : b = a
      · have e : (if b = a then none else F2 b) = some o := e
        rw [if_pos hb] at e
        cases e
      · have e : (if b = a then none else F2 b) = some o := e
        rw [if_neg hb] at e
        exact S2.fnt b o e
    · by_cases hb : b = a
      · have e : (if b = a then none else F2 b) = some o := e
        rw [if_pos hb] at e
        cases e
      · have e : (if b = a then none else F2 b) = some o := e
        rw [if_neg hb] at e
        exact e
    · show (if b = a then none else F2 b) = _
      have hb : b ≠ a := fun z => by
        rw [z, h2a] at e
        cases e
        exact n _ _ _ rfl
      rw [if_neg hb]
      exact e
/-- a new thing made meanwhile is new for the frame -/
theorem Stt.lentF (S : Stt Z G F σ H ρ) {F1 F2 F3 H2 : Hp} {σ2 : L2.St} {ρ2 : Env'} {v : V} {t : Tr} (S2 : Stt Z ⟨H, [], nfOf F1 H⟩ F2 (σ2 ++ [some v]) H2 (ρ2 ++ [.ot none t])) (l2 : σ2.length = ρ2.length) (g : Grow Z F H F3 H2) (l : FLe F3 F2) (n : NoIns F2 F3) (hn : t.nobj = true) : Stt Z G F3 (σ ++ [some v]) H2 (ρ ++ [.ot none t]) := by
  obtain ⟨_, as, _, _, _, q, nd, nn, fr, _⟩ := S2.last l2
  refine S.call0 (τ := []) (κ := []) ⟨g.le, g.nt S.fnt, fun b o e _ m => g.same b o e m, fun a h => ⟨g.dom a h.1, g.new a h.1 h.2⟩, g.dom, g.tabs S.tabs, [as], ⟨some v, [], as, [], rfl, rfl, ⟨v, rfl, OwnT.nobj n t hn q, fun _ a ha z => ?_, fun _ z => nomatch z⟩, rfl, rfl⟩, by simpa using nd, fun a ha => ?_⟩ rfl g.step
  · rcases (fr a ha).2 with y | y
    · exact z.1 y
    · cases y
  · have ha : a ∈ as := by simpa using ha
    exact ⟨l.none (fr a ha).1, (fr a ha).2⟩
end
section
variable {c : CD} {ρ ρ2 : Env'}
/-- an expression over the instance that is being made: data without instances -/
theorem Pu_self {e : Expr} {x : D} {i : Nat} {b : Option Addr} {C : Addr} {nm : List Str} {fts : List (Str × Tr)} (hi : ρ[i]? = some (.ot b (.o C nm fts))) (h : EvX c e ((hide ρ).set i (.d (.obj C nm (leafD fts)))) (.d x) ρ2) (hb : x.nobj = true) : PuX c e ρ x := fun G F σ H Q T k => by
  obtain ⟨F1, l, T1, bk⟩ := T.lendO hi
  refine h _ F1 σ H Q T1 fun v F' H' S' s q => ?_
  obtain ⟨F3, g, _, n⟩ := bk S' s
  exact k v F3 H' g (Den.nobj n x hb q)
/-- .. a new thing -/
theorem E_selfF {e : Expr} {t : Tr} {i : Nat} {b : Option Addr} {C : Addr} {nm : List Str} {fts : List (Str × Tr)} (hi : ρ[i]? = some (.ot b (.o C nm fts))) (h : EvX c e ((hide ρ).set i (.d (.obj C nm (leafD fts)))) (.fr t) ρ2) (hb : t.nobj = true) : EvX c e ρ (.fr t) ρ := fun G F σ H Q T k => by
  obtain ⟨F1, l, T1, bk⟩ := T.lendO hi
  refine h _ F1 σ H Q T1 fun v F' H' S' s q => ?_
  obtain ⟨F3, g, l3, n⟩ := bk S' s
  exact k v F3 H' (T.grow g) g.step (T.lentF q S'.len g l3 n hb)
end
end Fw

set_option Elab.async false
set_option maxRecDepth 100000
set_option maxHeartbeats 4000000
/-! Fw20: defaults. -/
namespace Fw
open PySem PySem.Spec PyProof.Rows L2
/-- a class whose __init__ has defaults: those that fill up stand for ys -/
structure KnCD (Z : Zd) (k : Nat) (x : Str) (C : Addr) (ys : List D) (sp : Sp) : Prop where
  ex : ∃ f fd ps dvs ds, Z.mg x = some (.ref C) ∧ Mk Z.K C f ∧ Binds Z.K fd ps ds ∧ Vals dvs ds ∧ (∀ F, DenAll Z.K F ys dvs) ∧ FnK Z.P Z.w Z.K Z.mg Z.base (L2.CX Z.P Z.w) k f fd ps sp
structure KnD (Z : Zd) (k : Nat) (x : Str) (ys : List D) (sp : Sp) : Prop where
  ex : ∃ f fd ps dvs ds, Z.mg x = some (.ref f) ∧ PySem.W.keepIn Z.K (.ref f) = true ∧ Binds Z.K fd ps ds ∧ Vals dvs ds ∧ (∀ F, DenAll Z.K F ys dvs) ∧ FnK Z.P Z.w Z.K Z.mg Z.base (L2.CX Z.P Z.w) k f fd ps sp
section
variable {c : CD} {vis loc : List Nat} {gl : List Str} {ρ ρ1 ρ2 ρ3 : Env'} {P : Out → Prop}
/-- C(args): a new thing -/
theorem E_makeD (S : ScOk c vis loc gl) {j : Nat} {x : Str} {p pos : Pos} {e : Expr} {es : List Expr} {C : Addr} {nm : List Str} {t' : Tr} {xs ys : List D} {Sd : List Ent → (Res → List Ent → Prop) → (Value → List (Str × D) → List Ent → Prop) → Prop} (F : KnCD c.z j x C ys (SpE c.z Sd)) (hj : j < c.k) (ha : EaX c (e :: es) ρ (xs.map Res.d) ρ1)
    (hS : ∀ (a : Addr) (Q : Res → List Ent → Prop) R, Q (.d .non) (.ot (some a) t' :: (xs ++ ys).map Ent.d) → Sd (.ot (some a) (.o C nm []) :: (xs ++ ys).map Ent.d) Q R) (hx : x ∈ gl)
    (he : ∀ X : Cx, starEach (e :: es) X.env = (false, eval e X.env) :: starEach es X.env) (hpl : ∀ X : Cx, (backTo pos (starEach es X.env)).any (·.1) = false) (hl : ρ1.length = ρ.length) : EvX c (.Call (.Name x p) (e :: es) [] pos) ρ (.fr t') ρ1 := fun G F0 σ H Q T k => by
  obtain ⟨f, fd, ps, dvs, ds, hm, hM, hb, hv, hy, hF⟩ := F.ex
  refine ⟨tMake C (SpE c.z Sd) dvs c.E (tA c (e :: es)), fun X ok => ?_, ha G F0 σ H _ T fun vs F1 H1 T1 s1 l q => fun a dx ea ed ne => ?_⟩
  · have hF' : FnK X.prog X.w X.K X.mg X.base (L2.CX X.prog X.w) j f fd ps (SpE c.z Sd) := by rw [ok.P, ok.w, ok.K, ok.mg, ok.base]; exact hF
    exact pk_make (by rw [ok.K]; exact hM) hF' (ok.room.mono (by omega)) (ok.glOf S hx) (by rw [ok.mg]; exact hm) (by rw [ok.K]; exact hb) hv ok.pass (pa_tA ok _) (S.glOf hx).2.1 (he X) (hpl X)
  have hd := (denAll_of l q).append (hy F1)
  have g1 : Grow c.z F1 H1 (upd F1 dx (.own a)) (upd H1 dx (.own a)) := Grow.alloc T1.fle ed
  have T2 := T1.grow g1
  have ea' : upd H1 dx (.own a) a = none := by rw [upd_ne (fun z => ne z.symm)]; exact ea
  have T3 := Stt.newT (t := .o C nm []) (o := .ins C dx []) T2 ea' ⟨a, dx, [], [], rfl, rfl, upd_same, ⟨fun _ _ => rfl, Nat.le_refl _⟩, rfl⟩
  have lσ : σ.length = ρ1.length := T1.len
  have hi : (ρ1 ++ [.ot none (.o C nm [])])[ρ1.length]? = some (.ot none (.o C nm [])) := by simp
  obtain ⟨w0, as0, e1, qt, nd0, fr0, back, backF⟩ := T3.call1 hi
  have hw : w0 = .ref a := by
    rw [← lσ] at e1
    simp at e1
    exact e1.symm
  subst hw
  have hd2 := DenAll.mono g1.fle _ _ hd
  have A := stt_args T3 hd2
  obtain ⟨bss, qa, nda, fra⟩ := A.ents
  have fl : bss.flatten = [] := empty_of (io := []) qa fra
  refine ⟨_, Ent.ot (some a) (.o C nm []) :: (xs ++ ys).map Ent.d, as0, fun z => nfOf (upd F1 dx (.own a)) (upd (upd H1 dx (.own a)) a (.ins C dx [])) z ∧ z ∉ as0, ⟨T3.fle, T3.fnt, fun b o e _ _ => e, fun b h => h.1, fun b h => h, T3.tabs, as0 :: bss, ⟨_, (vs ++ dvs).map some, as0, bss, rfl, rfl, ⟨_, rfl, qt, ⟨fun _ a ha z => z.2 ha, fun y z => by cases z; rfl⟩⟩, qa.less fun a ha _ => by rw [fl] at ha; cases ha⟩, by simpa [fl] using nd0, fun y hy => ?_⟩, hS a _ _ fun v F2 H2 S2 s2 q2 => ⟨q2, ?_⟩⟩
  · simp only [List.flatten_cons, fl, List.append_nil] at hy
    exact ⟨fr0 y hy, .inr hy⟩
  · have B := back S2 s2
    have hset : (ρ1 ++ [Ent.ot none (.o C nm [])]).set ρ1.length (Ent.ot none t') = ρ1 ++ [Ent.ot none t'] := by
      rw [List.set_append_right _ _ (Nat.le_refl _)]
      simp
    rw [hset] at B
    exact k _ F2 H2 (B.drops lσ) ((s1.trans (g1.step.trans .upd)).trans s2) B

theorem E_callD (S : ScOk c vis loc gl) {j : Nat} {x : Str} {p pos : Pos} {e : Expr} {es : List Expr} {ds ys : List D} {r : Res} {Sd : SpD} (F : KnD c.z j x ys (SpP c.z Sd)) (hj : j ≤ c.k) (ha : EaX c (e :: es) ρ (ds.map Res.d) ρ1)
    (hS : ∀ Q R, Q r → Sd (ds ++ ys) Q R) (hx : x ∈ gl) (he : ∀ X : Cx, starEach (e :: es) X.env = (false, eval e X.env) :: starEach es X.env) (hpl : ∀ X : Cx, (backTo pos (starEach es X.env)).any (·.1) = false) (hr : r.ret = true := by rfl) : EvX c (.Call (.Name x p) (e :: es) [] pos) ρ r ρ1 := fun G F0 σ H Q T k => by
  obtain ⟨f, fd, ps, dvs, dd, hm, hk, hb, hv, hy, hF⟩ := F.ex
  refine ⟨tCall (SpP c.z Sd) dvs c.E (tA c (e :: es)), fun X ok => ?_, ha G F0 σ H _ T fun vs F1 H1 T1 s1 l q => ?_⟩
  · have hF' : FnK X.prog X.w X.K X.mg X.base (L2.CX X.prog X.w) j f fd ps (SpP c.z Sd) := by rw [ok.P, ok.w, ok.K, ok.mg, ok.base]; exact hF
    exact pk_call hF' (ok.room.mono hj) (ok.glOf S hx) (by rw [ok.mg]; exact hm) (by rw [ok.K]; exact hk) (by rw [ok.K]; exact hb) hv ok.pass (pa_tA ok _) (S.glOf hx).2.1 (he X) (hpl X)
  · exact spP_run T1 ((denAll_of l q).append (hy F1)) hr hS fun v F2 H2 g q2 => k v F2 H2 (T1.grow g) (s1.trans g.step) q2
end
end Fw

set_option Elab.async false
set_option maxRecDepth 100000
set_option maxHeartbeats 4000000
/-! Fw21: methods called on the instance that is being made; its fields get new things. -/
namespace Fw
open PySem PySem.Spec PyProof.Rows L2
def Res.nobj : Res → Bool
  | .d x => x.nobj
  | .fr t => t.nobj
  | .sub _ _ => false
theorem self_run {Z : Zd} {G : Gd} {F H : Hp} {σ : L2.St} {ρ : Env'} {i : Nat} {b : Option Addr} {C a : Addr} {nm : List Str} {fts : List (Str × Tr)} {vs : List V} {xs : List D} {r : Res} {Sd : SpD} {Q : VK} {E : XK} (T : Stt Z G F σ H ρ) (hi : ρ[i]? = some (.ot b (.o C nm fts))) (e0 : σ[i]? = some (some (.ref a))) (hd : DenAll Z.K F xs vs)
    (hb : r.nobj = true) (hS : ∀ Q R, Q r → Sd (.obj C nm (leafD fts) :: xs) Q R) (k : ∀ v F' H', Grow Z F H F' H' → ResOk Z G F' σ H' ρ v r → Q v H') : SpP Z Sd (.ref a :: vs) H Q E := by
  obtain ⟨F1, l, T1, bk⟩ := T.lendO hi
  have hlt : i < ρ.length := (List.getElem?_eq_some_iff.mp hi).1
  obtain ⟨v1, e1, q1⟩ := T1.at (i := i) (x := .obj C nm (leafD fts)) (by rw [List.getElem?_set_self (by unfold Fw.hide; rw [List.length_map]; exact hlt)])
  rw [e0] at e1
  cases e1
  refine spP_run (ds := .obj C nm (leafD fts) :: xs) T1 ⟨_, vs, rfl, q1, DenAll.mono l _ _ hd⟩ (r := r) (by cases r with | sub _ _ => cases hb | _ => rfl) hS fun v F2 H2 g q2 => ?_
  have T2 := T1.grow g
  obtain ⟨F3, g3, l3, n3⟩ := bk T2 g.step
  refine k v F3 H2 g3 ?_
  cases r with
  | d x => exact Den.nobj n3 x hb q2
  | fr t => exact T.lentF q2 T2.len g3 l3 n3 hb
  | sub _ _ => cases hb
section
variable {c : CD} {vis loc : List Nat} {gl : List Str} {ρ ρ1 ρ2 ρ3 : Env'} {P : Out → Prop}
theorem meth_self {j : Nat} {pl : Sem Bool} {C : Addr} {m : Str} {o : Expr} {apos pos : Pos} {e : Expr} {es : List Expr} {i : Nat} {b : Option Addr} {nm : List Str} {fts : List (Str × Tr)} {xs : List D} {r : Res} {Sd : SpD} (F : KnM c.z j C m (SpP c.z Sd)) (hj : j ≤ c.k)
    (ho : PaX c o ρ i []) (hi : ρ[i]? = some (.ot b (.o C nm fts))) (hn : nm.contains m = false) (ha : PusX c (e :: es) ρ xs) (hS : ∀ Q R, Q r → Sd (.obj C nm (leafD fts) :: xs) Q R)
    (hst : ∀ X : Cx, starEach (e :: es) X.env = (false, eval e X.env) :: starEach es X.env) (hpl : ∀ X : Cx, (backTo pos (starEach es X.env)).any (·.1) = false)
    (ht : ∀ X : Cx, eval (.Call (.Attribute o m apos) (e :: es) [] pos) X.env = (eval o X.env >>= fun ov => standAt apos.atName >>= fun _ => holding [ov] (getMethod ov m pl) >>= fun q => callWith pos q.1 q.2 (backTo pos (starEach (e :: es) X.env)) (backToKw pos (keywordEach [] X.env)))) (hb : r.nobj = true) :
    ∀ G F0 σ H Q, Stt c.z G F0 σ H ρ → (∀ v F' H', Grow c.z F0 H F' H' → ResOk c.z G F' σ H' ρ v r → Q v H') → tE c (.Call (.Attribute o m apos) (e :: es) [] pos) σ H Q := fun G F0 σ H Q T k => by
  obtain ⟨f, fd, ps, hm, hbi, hF⟩ := F.ex
  refine ⟨tMeth C m (SpP c.z Sd) [] c.E (tE c o) (tA c (e :: es)), fun X ok => meth_pe ok F.cls hm hbi hF hj hst hpl ht, ho G F0 σ H _ T fun v v0 F1 H1 g1 e0 f0 => ?_⟩
  have T1 := T.grow g1
  obtain ⟨v1, w, bs, e1, f1, ⟨a, dx, gs, cs, rfl, _, ha1, ⟨n1, _⟩, _⟩, _⟩ := T1.node0 hi (p := []) rfl
  cases f1
  rw [e0] at e1
  cases e1
  cases f0
  refine ⟨a, dx, gs, rfl, ha1, n1 m hn, ha G F1 σ H1 _ T1 fun vs F2 H2 g2 q => ?_⟩
  rw [List.append_nil]
  exact self_run (T1.grow g2) hi e0 q hb hS fun v F3 H3 g q3 => k v F3 H3 ((g1.trans g2).trans g) q3
theorem meth_self0 {j : Nat} {pl : Sem Bool} {C : Addr} {m : Str} {o : Expr} {apos pos : Pos} {i : Nat} {b : Option Addr} {nm : List Str} {fts : List (Str × Tr)} {r : Res} {Sd : SpD} (F : KnM c.z j C m (SpP c.z Sd)) (hj : j ≤ c.k)
    (ho : PaX c o ρ i []) (hi : ρ[i]? = some (.ot b (.o C nm fts))) (hn : nm.contains m = false) (hS : ∀ Q R, Q r → Sd [.obj C nm (leafD fts)] Q R)
    (ht : ∀ X : Cx, eval (.Call (.Attribute o m apos) [] [] pos) X.env = (eval o X.env >>= fun ov => standAt apos.atName >>= fun _ => holding [ov] (getMethod ov m pl) >>= fun q => callWith pos q.1 q.2 (backTo pos (starEach [] X.env)) (backToKw pos (keywordEach [] X.env)))) (hb : r.nobj = true) :
    ∀ G F0 σ H Q, Stt c.z G F0 σ H ρ → (∀ v F' H', Grow c.z F0 H F' H' → ResOk c.z G F' σ H' ρ v r → Q v H') → tE c (.Call (.Attribute o m apos) [] [] pos) σ H Q := fun G F0 σ H Q T k => by
  obtain ⟨f, fd, ps, hm, hbi, hF⟩ := F.ex
  refine ⟨tMeth C m (SpP c.z Sd) [] c.E (tE c o) tNil, fun X ok => meth_pe0 ok F.cls hm hbi hF hj ht, ho G F0 σ H _ T fun v v0 F1 H1 g1 e0 f0 => ?_⟩
  have T1 := T.grow g1
  obtain ⟨v1, w, bs, e1, f1, ⟨a, dx, gs, cs, rfl, _, ha1, ⟨n1, _⟩, _⟩, _⟩ := T1.node0 hi (p := []) rfl
  cases f1
  rw [e0] at e1
  cases e1
  cases f0
  refine ⟨a, dx, gs, rfl, ha1, n1 m hn, ?_⟩
  show SpP c.z Sd (.ref a :: ([] ++ [])) H1 Q c.E
  exact self_run (xs := []) (vs := []) T1 hi e0 rfl hb hS fun v F3 H3 g q3 => k v F3 H3 (g1.trans g) q3
/-- o.f = e, a new field, a new thing -/
theorem S_fldF {o e : Expr} {f : Str} {ap pos : Pos} {i : Nat} {p : List Pst} {bb : Option Addr} {t t' : Tr} {C : Addr} {nm : List Str} {fts : List (Str × Tr)} (he : EvX c e ρ (.fr t') ρ1) (hl1 : ρ1.length = ρ.length) (ho : PaX c o ρ1 i p) (hr : ρ1[i]? = some (.ot bb t)) (hpt : t.get p = some (.o C nm fts)) (hf : getFd f fts = none) (hn : nm.contains f = true) (hc : Cls c.K C) (hA : NoAttr c.K C f)
    (hl : fts.length < 900) (hp : P (.nx (ρ1.set i (.ot bb (t.put p (.o C nm (putFd f t' fts))))))) (hs : ∀ X : Cx, swapsWith e (some (.Attribute o f ap)) pos.line X.env = pure false) : EsX1 c (.Assign [.Attribute o f ap] e pos) ρ P := fun G F σ H D T k => by
  refine ⟨sFld c.K (tE c o) (tE c e) f, fun X ok => by have := ps_fld (pe_tE ok o) (pe_tE ok e) (hs X); rw [ok.K] at this; exact this, he G F σ H _ T fun y F1 H1 T1 s1 q => ?_⟩
  have lσ : σ.length = ρ1.length := by rw [T.len, hl1]
  obtain ⟨io, nf, Th, bk⟩ := Stt.hold q lσ
  refine ho _ F1 σ H1 _ Th fun x v0 F2 H2 g2 e0 f0 => ?_
  have T2 := bk (Th.grow g2) g2.step
  obtain ⟨v1, w, bs, cs0, e1, f1, ⟨a, dx, gs, cs, rfl, rfl, ha, ⟨n1, n2⟩, hfs⟩, nb, ⟨bss, qk, rfl⟩, nk, hk, _, mk⟩ := T2.node lσ hr hpt
  obtain ⟨oy, τ', ys, bss', ey, rfl, ⟨y', ey', qt, oby⟩, qn⟩ := qk
  cases ey
  cases ey'
  have en : bss' = [] := qn.2
  subst en
  simp only [List.flatten_cons, List.flatten_nil, List.append_nil] at nk hk mk
  rw [e0] at e1
  cases e1
  rw [f0] at f1
  cases f1
  have na := List.nodup_cons.mp nb
  have nay : a ∉ ys := fun z => hk a z (by simp)
  refine ⟨a, C, dx, gs, rfl, ha, hc, hA, by omega, k _ hp F2 σ _ (mk (n' := .o C nm (putFd f t' fts)) (bs' := a :: (cs ++ ys)) (fun z hz u hu => ?_) (fun z hz => ?_) (tabs_upd T2.tabs ha (fun _ z => nomatch z) fun _ z => nomatch z) ⟨a, dx, putF f y gs, cs ++ ys, rfl, rfl, upd_same, ⟨fun m hm => ?_, ?_⟩, hfs.fresh (.refl F2) hf (fun b hb u hu _ => ?_) (qt.grow (.refl F2) _ fun b hb u hu _ => ?_)⟩ ?_ (fun z hz => ?_) fun hb z hz hz2 => ?_) ((s1.trans g2.step).trans .upd)⟩
  · rw [upd_ne (fun e => hz (by simp [e]))]
    exact hu
  · exact upd_dom (by
      rcases List.mem_cons.mp hz with rfl | hz
      · rw [ha]; exact fun z => nomatch z
      · obtain ⟨u, hu, _⟩ := OwnFs.there _ hfs z hz
        rw [hu]; exact fun z => nomatch z)
  · rw [lookup_putF, if_neg (fun e => by rw [e, hn] at hm; cases hm)]
    exact n1 m hm
  · have := length_putF f y gs
    unfold putFd
    rw [List.length_append]
    simp only [List.length_cons, List.length_nil]
    omega
  · rw [upd_ne (fun e => na.1 (by rw [← e]; exact hb))]
    exact hu
  · rw [upd_ne (fun e => nay (by rw [← e]; exact hb))]
    exact hu
  · refine List.nodup_cons.mpr ⟨fun z => ?_, List.nodup_append.mpr ⟨na.2, nk, fun z hz w hw e => hk w hw (by rw [← e]; simp [hz])⟩⟩
    rcases List.mem_append.mp z with z | z
    · exact na.1 z
    · exact nay z
  · rcases List.mem_cons.mp hz with rfl | hz
    · exact .inl (by simp)
    · rcases List.mem_append.mp hz with z1 | z1
      · exact .inl (by simp [z1])
      · exact .inr (.inl z1)
  · exact oby.1 rfl z hz2
end
end Fw

set_option Elab.async false
set_option maxRecDepth 100000
set_option maxHeartbeats 4000000
/-! Fw22: a part of an own thing is cut out, and given back. -/
namespace Fw
open PySem PySem.Spec PyProof.Rows L2
theorem Stt.cut {Z : Zd} {G : Gd} {F H : Hp} {σ : L2.St} {ρ : Env'} (S : Stt Z G F σ H ρ) {i : Nat} {b : Option Addr} {t n : Tr} {p : List Pst} (hi : ρ[i]? = some (.ot b t)) (hp : t.get p = some n) (hn : n.isN = true) :
    ∃ v0 a, σ[i]? = some (some v0) ∧ fol H v0 p = some (.ref a) ∧ Stt Z G F (σ ++ [some (.ref a)]) H (ρ.set i (.ot b (t.put p (.hole a))) ++ [.ot (some a) n]) := by
  obtain ⟨ass, q, nd, fr⟩ := S.ents
  obtain ⟨o0, as0, e1, e2, v0, rfl, qt, ob⟩ := q.at hi
  obtain ⟨w, c1, bs, c2, e3, rfl, q2, f2⟩ := OwnT.node qt hp
  obtain ⟨a, rfl⟩ := OwnT.ref hn q2
  refine ⟨v0, a, e1, e3, ?_⟩
  have nd0 : (c1 ++ bs ++ c2).Nodup := by
    obtain ⟨x, y, z, _⟩ := flat_split e2
    rw [z] at nd
    simp only [List.flatten_append, List.flatten_cons] at nd
    exact (List.nodup_append.mp (List.nodup_append.mp nd).2.1).1
  rw [List.append_assoc] at nd0
  obtain ⟨m1, m2, m3⟩ := List.nodup_append.mp nd0
  obtain ⟨m4, m5, m6⟩ := List.nodup_append.mp m2
  have h1 : EntOk Z G.nf F H (.ot b (t.put p (.hole a))) (some v0) (c1 ++ [] ++ c2) := ⟨v0, rfl, f2 (.refl F) (fun x _ u hu _ => hu) ⟨rfl, rfl⟩, fun hb x hx => ob.1 hb x (by
    simp only [List.append_nil, List.append_assoc, List.mem_append] at hx ⊢
    rcases hx with z | z
    · exact .inl z
    · exact .inr (.inr z)), ob.2⟩
  have Q := q.set i h1
  rw [st_self e1] at Q
  have nd1 : (ass.set i (c1 ++ [] ++ c2)).flatten.Nodup := nodup_set e2 nd (by
    rw [List.append_nil]
    exact List.nodup_append.mpr ⟨m1, m5, fun x hx y hy => m3 x hx y (List.mem_append_right _ hy)⟩) fun x hx => .inl (by
    simp only [List.append_nil, List.append_assoc, List.mem_append] at hx ⊢
    rcases hx with z | z
    · exact .inl z
    · exact .inr (.inr z))
  have fr1 : ∀ x ∈ (ass.set i (c1 ++ [] ++ c2)).flatten, F x = none ∧ (G.H0 x = none ∨ x ∈ G.io) := fun x hx => by
    rcases flat_set_sub hx with z | z
    · refine fr x (mem_flat e2 ?_)
      simp only [List.append_nil, List.append_assoc, List.mem_append] at z ⊢
      rcases z with z | z
      · exact .inl z
      · exact .inr (.inr z)
    · exact fr x z
  have S1 : Stt Z G F σ H (ρ.set i (.ot b (t.put p (.hole a)))) := ⟨S.fle, S.fnt, S.keep, S.nf, S.dom, S.tabs, _, Q, nd1, fr1⟩
  refine S1.snoc Q nd1 fr1 (e := .ot (some a) n) (o := some (.ref a)) ⟨_, rfl, q2, fun _ x hx => ob.1 rfl x (by simp [hx]), fun y z => by cases z; rfl⟩ m4 (fun x hx => fr x (mem_flat e2 (by simp [hx]))) fun x hx z => ?_
  obtain ⟨l, hl, hb⟩ := List.mem_flatten.mp z
  obtain ⟨j, hj⟩ := List.getElem?_of_mem hl
  have hlt : i < ass.length := (List.getElem?_eq_some_iff.mp e2).1
  by_cases ej : i = j
  · subst ej
    rw [List.getElem?_set_self hlt] at hj
    cases hj
    simp only [List.append_nil, List.mem_append] at hb
    rcases hb with w | w
    · exact m3 x w x (List.mem_append_left _ hx) rfl
    · exact m6 x hx x w rfl
  · rw [List.getElem?_set_ne ej] at hj
    exact flat_off e2 nd hj hb (fun z => ej z.symm) (by simp [hx])
/-- a temporary's thing into a slot -/
theorem Stt.giveB {Z : Zd} {G : Gd} {F H : Hp} {σ : L2.St} {ρ : Env'} {bb : Option Addr} {v : V} {t : Tr} (S : Stt Z G F (σ ++ [some v]) H (ρ ++ [.ot bb t])) (l : σ.length = ρ.length) {i : Nat} (hi : i < ρ.length) : Stt Z G F (σ.set i (some v)) H (ρ.set i (.ot bb t)) := by
  obtain ⟨o0, as0, cs, e1, e3, nd0, fr0, ⟨bss, hb1, hb2⟩, ncs, fcs, mk⟩ := S.slot l (List.getElem?_eq_getElem hi)
  obtain ⟨o, σ', bs, bss', ee, rfl, ⟨v1, ee2, q3, ob⟩, q4⟩ := hb1
  cases ee
  cases ee2
  obtain ⟨_, rfl⟩ := q4
  have ec : cs = bs := by rw [hb2]; simp
  subst ec
  exact (mk (e := .ot bb t) (o := some v) (as := cs) (.refl F) S.fle S.fnt (fun b hb _ => .inl hb) (fun a ha => (fcs a ha).1) (fun a ha => (S.nf a ha).2) (fun x _ _ u hu _ => hu) (fun x hx => hx) S.tabs ⟨v, rfl, q3, ob⟩ ncs fun x hx => .inr (.inl hx)).1
/-- a slot's thing as a temporary -/
theorem Stt.takeB {Z : Zd} {G : Gd} {F H : Hp} {σ : L2.St} {ρ : Env'} {bb : Option Addr} (S : Stt Z G F σ H ρ) {i : Nat} {t : Tr} (hi : ρ[i]? = some (.ot bb t)) : ∃ v, σ[i]? = some (some v) ∧ Stt Z G F (σ ++ [some v]) H (ρ.set i .un ++ [.ot bb t]) := by
  obtain ⟨ass, q, nd, fr⟩ := S.ents
  obtain ⟨o, as, e1, e2, v, rfl, qt, ob⟩ := q.at hi
  have e3 : EntsOk Z G.nf F H (ρ.set i .un) σ (ass.set i []) := by
    have := q.set i (e := .un) (o := some v) (as := []) rfl
    rw [st_self e1] at this
    exact this
  have sub : ∀ a ∈ (ass.set i []).flatten, a ∈ ass.flatten := fun a ha => by
    rcases flat_set_sub ha with z | z
    · cases z
    · exact z
  have S1 : Stt Z G F σ H (ρ.set i .un) := by
    have := S.drop (i := i) (o := some v)
    rw [st_self e1] at this
    exact this
  obtain ⟨p, q', rfl, rfl⟩ := flat_split e2
  rw [set_split] at e3 sub
  simp only [List.flatten_append, List.flatten_cons] at nd
  obtain ⟨n1, n2, n3⟩ := List.nodup_append.mp nd
  obtain ⟨n4, n5, n6⟩ := List.nodup_append.mp n2
  refine ⟨v, e1, S1.snoc e3 ?_ (fun a ha => fr a (sub a ha)) ⟨v, rfl, qt, ob⟩ n4 (fun a ha => fr a (mem_flat e2 ha)) fun a ha z => ?_⟩
  · simp only [List.flatten_append, List.flatten_cons, List.nil_append]
    exact List.nodup_append.mpr ⟨n1, n5, fun a ha b hb => n3 a ha b (List.mem_append_right _ hb)⟩
  · simp only [List.flatten_append, List.flatten_cons, List.nil_append, List.mem_append] at z
    rcases z with z | z
    · exact n3 a z a (List.mem_append_left _ ha) rfl
    · exact n6 a ha a z rfl
/-- a part that was cut out is given back -/
theorem Stt.mend {Z : Zd} {G : Gd} {F H : Hp} {σ : L2.St} {ρ : Env'} (S : Stt Z G F σ H ρ) {i j : Nat} {b : Option Addr} {a : Addr} {t n : Tr} {p : List Pst} (hij : i ≠ j) (hi : ρ[i]? = some (.ot b t)) (hp : t.get p = some (.hole a)) (hj : ρ[j]? = some (.ot (some a) n)) :
    Stt Z G F σ H ((ρ.set j .un).set i (.ot b (t.put p n))) := by
  obtain ⟨v, e, T⟩ := S.takeB hj
  have l : σ.length = (ρ.set j .un).length := by rw [List.length_set]; exact S.len
  obtain ⟨v0, w, bs, cs, e1, f1, ⟨rfl, rfl⟩, nb, ⟨bss, qk, rfl⟩, nk, hk, _, mk⟩ := T.node l (by rw [List.getElem?_set_ne (fun z => hij z.symm)]; exact hi) hp
  obtain ⟨oy, τ', ys, bss', ey, rfl, ⟨y', ey', qt, oby⟩, qn⟩ := qk
  cases ey
  cases ey'
  have en : bss' = [] := qn.2
  subst en
  simp only [List.flatten_cons, List.flatten_nil, List.append_nil] at nk hk mk
  have ev := oby.2 a rfl
  subst ev
  exact mk (n' := n) (H' := H) (bs' := ys) (fun x _ u hu => hu) (fun x hx => by cases hx) T.tabs qt nk (fun x hx => .inr (.inl hx)) fun hb x hx _ => oby.1 rfl x hx
end Fw

set_option Elab.async false
set_option maxRecDepth 100000
set_option maxHeartbeats 4000000
/-! Fw23: aliases of parts. -/
namespace Fw
open PySem PySem.Spec PyProof.Rows L2
section
variable {c : CD} {vis loc : List Nat} {gl : List Str} {ρ ρ1 ρ2 ρ3 : Env'} {P : Out → Prop}
/-- x = a part of an own thing: the part is x's until it is given back -/
theorem S_alias (S : ScOk c vis loc gl) {x : Str} {e : Expr} {p pos : Pos} (j : Nat) {i : Nat} {pt : List Pst} {b : Option Addr} {t n : Tr} (he : PaX c e ρ i pt) (hi : ρ[i]? = some (.ot b t)) (hp : t.get pt = some n) (hn : n.isN = true) (hN : c.N[j]? = some x) (hj : loc.contains j = true) (hjl : j < ρ.length)
    (hP : ∀ a, P (.nx ((ρ.set i (.ot b (t.put pt (.hole a)))).set j (.ot (some a) n))))
    (hs : ∀ X : Cx, c.Ok X → swapsWithSole [.Name x p] e pos.line X.env = pure false) (hw : ∀ X : Cx, c.Ok X → swappedStores [.Name x p] e X.env = pure none) : EsX1 c (.Assign [.Name x p] e pos) ρ P := fun G F σ H D T k => by
  obtain ⟨h1, h2⟩ := S.locOf hj hN
  refine ⟨tAsg (tE c e) (gName j), fun X ok => ps_asg (pe_tE ok e) (pg_name (by rw [ok.N]; exact S.nd) (by rw [ok.N]; exact hN) (by rw [ok.sc]; exact h1) (by rw [ok.fn, ok.sc]; exact h2)) (hs X ok) (hw X ok), ?_⟩
  refine he G F σ H _ T fun v v0 F1 H1 g1 e0 f0 => ?_
  have T1 := T.grow g1
  obtain ⟨v1, a, e1, f1, T2⟩ := T1.cut hi hp hn
  rw [e0] at e1
  cases e1
  rw [f0] at f1
  cases f1
  exact k _ (hP a) F1 _ H1 (T2.giveB (by rw [List.length_set]; exact T.len) (by rw [List.length_set]; exact hjl)) g1.step
/-- one state tells less than another -/
def Weak (ρ ρ' : Env') : Prop := ∀ {Z : Zd} {G : Gd} {F H : Hp} {σ : L2.St}, Stt Z G F σ H ρ → Stt Z G F σ H ρ'
theorem Weak.mend {i j : Nat} {b : Option Addr} {a : Addr} {t n : Tr} {p : List Pst} (hij : i ≠ j) (hi : ρ[i]? = some (.ot b t)) (hp : t.get p = some (.hole a)) (hj : ρ[j]? = some (.ot (some a) n)) : Weak ρ ((ρ.set j .un).set i (.ot b (t.put p n))) := fun S => S.mend hij hi hp hj
theorem EsX.pre {ss : List Stmt} (w : Weak ρ ρ1) (h : EsX c ss ρ1 P) : EsX c ss ρ P := fun G F σ H D T k => h G F σ H D (w T) k
theorem EsX1.pre {s : Stmt} (w : Weak ρ ρ1) (h : EsX1 c s ρ1 P) : EsX1 c s ρ P := fun G F σ H D T k => h G F σ H D (w T) k
theorem EvX.pre {e : Expr} {r : Res} (w : Weak ρ ρ1) (h : EvX c e ρ1 r ρ2) : EvX c e ρ r ρ2 := fun G F σ H Q T k => h G F σ H Q (w T) k
/-- an end that tells more is an end that tells less -/
inductive WeakO : Out → Out → Prop
  | nx {r r' : Env'} (w : Weak r r') : WeakO (.nx r) (.nx r')
  | ct {r r' : Env'} (w : Weak r r') : WeakO (.ct r) (.ct r')
  | bk {r r' : Env'} (w : Weak r r') : WeakO (.bk r) (.bk r')
  | rt {x : D} {r r' : Env'} (w : Weak r r') : WeakO (.rt (.d x) r) (.rt (.d x) r')
  | same {o : Out} : WeakO o o
theorem WeakO.sat {Z : Zd} {G : Gd} {F H : Hp} {E : XK} {D : Ends} : ∀ {o o' : Out}, WeakO o o' → Sat Z G E F H D o' → Sat Z G E F H D o
  | _, _, .nx w, h => fun F' σ' H' S b => h F' σ' H' (w S) b
  | _, _, .ct w, h => fun F' σ' H' S b => h F' σ' H' (w S) b
  | _, _, .bk w, h => fun F' σ' H' S b => h F' σ' H' (w S) b
  | _, _, .rt w, h => fun F' σ' H' v S b q => h F' σ' H' v (w S) b q
  | _, _, .same, h => h
theorem EsX.post {ss : List Stmt} (h : EsX c ss ρ fun o => ∃ o', WeakO o o' ∧ P o') : EsX c ss ρ P := fun G F σ H D T k => h G F σ H D T fun o p => by
  obtain ⟨o', w, q⟩ := p
  exact w.sat (k o' q)
theorem EsX1.post {s : Stmt} (h : EsX1 c s ρ fun o => ∃ o', WeakO o o' ∧ P o') : EsX1 c s ρ P := fun G F σ H D T k => h G F σ H D T fun o p => by
  obtain ⟨o', w, q⟩ := p
  exact w.sat (k o' q)
theorem Weak.drop {i : Nat} : Weak ρ (ρ.set i .un) := fun {Z G F H σ} S => by
  cases e : σ[i]? with
  | none =>
    have : ρ.length ≤ i := by
      have := S.len
      have := List.getElem?_eq_none_iff.mp e
      omega
    rw [List.set_eq_of_length_le this]
    exact S
  | some o =>
    have := S.drop (i := i) (o := o)
    rw [st_self e] at this
    exact this
end
end Fw

set_option Elab.async false
set_option maxRecDepth 100000
set_option maxHeartbeats 4000000
/-! Fw24: divmod and more. -/
namespace Fw
open PySem PySem.Spec PyProof.Rows L2
theorem get_listP {X : Cx} : PGet X (rIxL X.K) := by
  intro pins s σ H x y v u Q I rx ry h
  obtain ⟨p, xs, i, z, rfl, rfl, hq, he, q⟩ := h
  cases rx
  obtain ⟨t, rfl⟩ := ry
  obtain ⟨its, r, pl, hz⟩ := I.list hq
  obtain ⟨j, h1, h2, h3, h4, h5⟩ := atI_get he
  obtain ⟨w, ew, rw'⟩ := r.get h2
  have hl := r.length
  have hn := line63
  have fin : EP X pins σ Q w s := ⟨z, H, I, rw', q⟩
  by_cases h0 : 0 ≤ i
  · have hj : i.toNat = j := by
      rw [seqIndex_of h0 h5] at h1
      exact Option.some.inj h1
    exact wpAny_getItem_list pl.isList h0 (by omega) (by rw [hj]; simpa using ew) fin
  · have hj : (i + (its.toArray.size : Int)).toNat = j := by
      rw [seqIndex_neg (by omega) h4] at h1
      rw [List.size_toArray, ← hl]
      exact Option.some.inj h1
    exact wpAny_getItem_list_neg pl.isList (by omega) (by rw [List.size_toArray] <;> omega) (by omega) (by rw [hj]; simpa using ew) fin
section
variable {c : CD} {vis loc : List Nat} {gl : List Str} {ρ ρ1 ρ2 ρ3 : Env'} {P : Out → Prop}
theorem b_divmod {i j : Int} (h : CDiv i j) : Cb c (.builtin "divmod") [.int i, .int j] (.tup [.int (i / j), .int (i % j)]) := by
  intro F H vs Q l hv k
  obtain ⟨v, _, rfl, hv, hr⟩ := hv
  obtain ⟨u, _, rfl, hu, rfl⟩ := hr
  refine ⟨_, fun X ok => call_divmod, i, j, ?_, h, fun p n => k _ _ _ (Grow.alloc l n) (den_tup (l.none n) ⟨_, _, rfl, rfl, _, _, rfl, rfl, rfl⟩)⟩
  rw [show v = .int i from hv, show u = .int j from hu]
/-- x += e of ints -/
theorem S_augI (S : ScOk c vis loc gl) {x : Str} {e : Expr} {op : Operator} {p pos : Pos} {f : Int → Int → Int} (j : Nat) {a b : Int} (hop : ∀ X : Cx, PIp X op (ipI f)) (hi : ρ[j]? = some (.d (.int a))) (he : EvX c e ρ (.d (.int b)) ρ1) (hN : c.N[j]? = some x) (hj : loc.contains j = true)
    (hP : P (.nx (ρ1.set j (.d (.int (f a b)))))) : EsX1 c (.AugAssign (.Name x p) op e pos) ρ P := fun G F σ H D T k => by
  obtain ⟨h1, h2⟩ := S.locOf hj hN
  obtain ⟨v, ev, qv⟩ := T.at hi
  have qv : v = .int a := qv
  subst qv
  refine ⟨tAug j (tE c e) (ipI f), fun X ok => ps_aug (by rw [ok.N]; exact S.nd) (by rw [ok.N]; exact hN) (by rw [ok.sc]; exact h1) (pe_tE ok e) (hop X) (by rw [ok.fn, ok.sc]; exact h2), _, ev, he G F σ H _ T fun y F1 H1 T1 s1 q => ?_⟩
  have q : y = .int b := q
  subst q
  exact ⟨a, b, rfl, rfl, k _ hP F1 _ H1 (T1.put rfl) s1⟩
/-- o[n] += e of ints, an own flat list -/
theorem S_augN {o ix e : Expr} {op : Operator} {sp pos : Pos} {f : Int → Int → Int} {i j : Nat} {p : List Pst} {bb : Option Addr} {t : Tr} {ds : List D} {n a b : Int} (hop : ∀ X : Cx, PIp X op (ipI f)) (ho : PaX c o ρ i p) (hix : PuX c ix ρ (.int n)) (he : PuX c e ρ (.int b)) (hr : ρ[i]? = some (.ot bb t)) (hpt : t.get p = some (.fl ds)) (hj : ixN ds.length n = some j) (hd : ds[j]? = some (.int a))
    (hp : P (.nx (ρ.set i (.ot bb (t.put p (.fl (ds.set j (.int (f a b)))))))))
    (ha : ∀ ov iv new, augStore ix ov iv new = (do holding [new, ov, iv] (setItem ov iv new); release [new, ov, iv] []; pure .next)) : EsX1 c (.AugAssign (.Subscript o ix sp) op e pos) ρ P := fun G F σ H D T k => by
  refine ⟨tAugS (tE c o) (tE c ix) (tE c e) (rIxL c.K) (ipI f) rSetL, fun X ok => ps_augS (pe_tE ok o) (pe_tE ok ix) (by have := get_listP (X := X); rw [ok.K] at this; exact this) (pe_tE ok e) (hop X) set_list ha, ?_⟩
  refine ho G F σ H _ T fun vo v0 F2 H2 g2 e0 f0 => hix G F2 σ H2 _ (T.grow g2) fun vi F3 H3 g3 q3 => ?_
  have q3 : vi = .int n := q3
  subst q3
  have f0' := fol.mono (H' := H3) (fun a o e m => g3.same a o e m) f0
  obtain ⟨ad, vs, rfl, ha0, hd0, _⟩ := meth_run (ds' := ds) ((T.grow g2).grow g3) hr hpt e0 f0'
  obtain ⟨u, eu, qu⟩ := hd0.get' hd
  have qu : u = .int a := qu
  subst qu
  refine ⟨ad, vs, n, _, rfl, rfl, SqL.of ha0, by unfold atI; rw [hd0.length, hj]; exact eu, he G F3 σ H3 _ ((T.grow g2).grow g3) fun y F4 H4 g4 q4 => ?_⟩
  have q4 : y = .int b := q4
  subst q4
  have f0'' := fol.mono (H' := H4) (fun a o e m => g4.same a o e m) f0'
  obtain ⟨ad', vs', e9, ha', hd', wr⟩ := meth_run (ds' := ds.set j (.int (f a b))) (((T.grow g2).grow g3).grow g4) hr hpt e0 f0''
  cases e9
  exact ⟨a, b, rfl, rfl, ad, vs', n, j, rfl, rfl, ha', by rw [hd'.length]; exact hj, k _ hp F4 σ _ (wr _ (hd'.set j rfl)) (((g2.trans g3).trans g4).step.trans .upd)⟩
end
end Fw

set_option Elab.async false
set_option maxRecDepth 100000
set_option maxHeartbeats 4000000
/-! Fw25: comprehensions whose elements are new things. -/
namespace Fw
open PySem PySem.Spec PyProof.Rows L2
section
variable {Z : Zd} {G : Gd} {F H : Hp} {σ : L2.St} {ρ : Env'}
/-- two temporaries change places -/
theorem Stt.swap2 {u v : V} {e f : Ent} (S : Stt Z G F ((σ ++ [some u]) ++ [some v]) H ((ρ ++ [e]) ++ [f])) (l : σ.length = ρ.length) : Stt Z G F ((σ ++ [some v]) ++ [some u]) H ((ρ ++ [f]) ++ [e]) := by
  obtain ⟨ass, q, nd, fr⟩ := S.ents
  obtain ⟨a12, a3, rfl, q12, q3⟩ := q.split (by simp [l])
  obtain ⟨a1, a2, rfl, q1, q2⟩ := q12.split l
  refine ⟨S.fle, S.fnt, S.keep, S.nf, S.dom, S.tabs, (a1 ++ a3) ++ a2, (q1.app q3).app q2, ?_, fun a ha => fr a ?_⟩
  · simp only [List.flatten_append, List.append_assoc] at nd ⊢
    obtain ⟨n1, n2, n3⟩ := List.nodup_append.mp nd
    obtain ⟨n4, n5, n6⟩ := List.nodup_append.mp n2
    refine List.nodup_append.mpr ⟨n1, List.nodup_append.mpr ⟨n5, n4, fun x hx y hy e => n6 y hy x hx e.symm⟩, fun x hx y hy => n3 x hx y ?_⟩
    simp only [List.mem_append] at hy ⊢
    exact hy.symm
  · simp only [List.flatten_append, List.mem_append] at ha ⊢
    rcases ha with (z | z) | z
    · exact .inl (.inl z)
    · exact .inr z
    · exact .inl (.inr z)
theorem OwnTs.snoc {K : PySem.W.Frag} {F H H' : Hp} {t : Tr} {v : V} {bs : List Addr} : ∀ {ts : List Tr} {vs : List V} {as : List Addr}, OwnTs K F H ts vs as → (∀ b ∈ as, ∀ u, H b = some u → NT u → H' b = some u) → OwnT K F H' t v bs → OwnTs K F H' (ts ++ [t]) (vs ++ [v]) (as ++ bs)
  | [], vs, as, h, _, q => by
    obtain ⟨rfl, rfl⟩ := h
    exact ⟨v, [], bs, [], rfl, by simp, q, rfl, rfl⟩
  | t' :: ts, vs, as, h, k, q => by
    obtain ⟨v', vs', b1, c1, rfl, rfl, q', r⟩ := h
    exact ⟨v', vs' ++ [v], b1, c1 ++ bs, rfl, by simp, q'.grow (.refl F) _ fun b hb => k b (by simp [hb]), r.snoc (fun b hb => k b (by simp [hb])) q⟩
theorem OwnTs.len {K : PySem.W.Frag} {F H : Hp} : ∀ {ts : List Tr} {vs : List V} {as : List Addr}, OwnTs K F H ts vs as → vs.length = ts.length
  | [], vs, as, h => by rw [h.1]; rfl
  | t :: ts, vs, as, h => by
    obtain ⟨_, _, _, _, rfl, _, _, r⟩ := h
    simp [r.len]
/-- a new thing is put at the end of a list of one's own (both temporaries) -/
theorem Stt.push {v : V} {D : Addr} {t : Tr} {ts : List Tr} (S : Stt Z G F ((σ ++ [some v]) ++ [some (.ref D)]) H ((ρ ++ [.ot none t]) ++ [.ot none (.l ts)])) (l : σ.length = ρ.length) :
    ∃ vs, H D = some (.lst vs) ∧ vs.length = ts.length ∧ Stt Z G F (σ ++ [some (.ref D)]) (upd H D (.lst (vs ++ [v]))) (ρ ++ [.ot none (.l (ts ++ [t]))]) := by
  have B := S.swap2 l
  have hi : (ρ ++ [Ent.ot none (.l ts)])[ρ.length]? = some (.ot none (.l ts)) := by simp
  obtain ⟨v1, w, bs, cs0, e1, f1, ⟨a, vs, cs, rfl, rfl, ha, hts⟩, nb, ⟨bss, qk, rfl⟩, nk, hk, _, mk⟩ := B.node (by simp [l]) hi (p := []) rfl
  obtain ⟨oy, τ', ys, bss', ey, rfl, ⟨y', ey', qt, oby⟩, qn⟩ := qk
  cases ey
  cases ey'
  have en : bss' = [] := qn.2
  subst en
  simp only [List.flatten_cons, List.flatten_nil, List.append_nil] at nk hk mk
  rw [← l] at e1
  simp at e1
  subst e1
  cases f1
  have na := List.nodup_cons.mp nb
  have nay : D ∉ ys := fun z => hk D z (by simp)
  refine ⟨vs, ha, hts.len, ?_⟩
  have M := mk (n' := .l (ts ++ [t])) (H' := upd H D (.lst (vs ++ [v]))) (bs' := D :: (cs ++ ys)) (fun x hx u hu => ?_) (fun x hx => ?_) (tabs_upd S.tabs ha (fun _ z => nomatch z) fun _ z => nomatch z)
    ⟨D, vs ++ [v], cs ++ ys, rfl, rfl, upd_same, hts.snoc (fun b hb u hu _ => by rw [upd_ne (fun e => na.1 (by rw [← e]; exact hb))]; exact hu) (qt.grow (.refl F) _ fun b hb u hu _ => by rw [upd_ne (fun e => nay (by rw [← e]; exact hb))]; exact hu)⟩ ?_ (fun z hz => ?_) fun _ z hz hz2 => oby.1 rfl z hz2
  · have e : (ρ ++ [Ent.ot none (.l ts)]).set ρ.length (.ot none ((Tr.l ts).put [] (.l (ts ++ [t])))) = ρ ++ [Ent.ot none (.l (ts ++ [t]))] := by
      rw [List.set_append_right _ _ (Nat.le_refl _)]
      simp [Tr.put]
    rw [e] at M
    exact M
  · rw [upd_ne (fun e => hx (by simp [e]))]
    exact hu
  · exact upd_dom (by
      rcases List.mem_cons.mp hx with rfl | hx
      · rw [ha]; exact fun z => nomatch z
      · obtain ⟨u, hu, _⟩ := OwnTs.there _ hts x hx
        rw [hu]; exact fun z => nomatch z)
  · refine List.nodup_cons.mpr ⟨fun z => ?_, List.nodup_append.mpr ⟨na.2, nk, fun z hz w hw e => hk w hw (by rw [← e]; simp [hz])⟩⟩
    rcases List.mem_append.mp z with z | z
    · exact na.1 z
    · exact nay z
  · rcases List.mem_cons.mp hz with rfl | hz
    · exact .inl (by simp)
    · rcases List.mem_append.mp hz with z1 | z1
      · exact .inl (by simp [z1])
      · exact .inr (.inl z1)
end
section
variable {Z : Zd} {G : Gd} {F H : Hp} {σ τ : L2.St} {ρ κ : Env'}
theorem Stt.wipeT (S : Stt Z G F (σ ++ τ) H (ρ ++ κ)) (l : σ.length = ρ.length) (vs : List Nat) : Stt Z G F (L2.wipe σ vs ++ τ) H (wipeE ρ vs ++ κ) := by
  obtain ⟨io, nf, Sh, bk⟩ := S.hold l
  exact bk (Sh.wipe vs) (.refl F H)
theorem Stt.swapT {σ' : L2.St} (S : Stt Z G F (σ ++ τ) H (ρ ++ κ)) (l : σ.length = ρ.length) (l' : σ'.length = σ.length) (k : ∀ (j : Nat) (e : Ent), ρ[j]? = some e → e ≠ Ent.un → σ'[j]? = σ[j]?) : Stt Z G F (σ' ++ τ) H (ρ ++ κ) := by
  obtain ⟨io, nf, Sh, bk⟩ := S.hold l
  exact bk (Sh.swap l' k) (.refl F H)
end
section
variable {c : CD} {vis loc : List Nat} {gl : List Str} {ρ ρ1 ρ2 : Env'}
/-- frozen data as a thing of one's own -/
theorem E_lift {e : Expr} {x : D} (h : EvX c e ρ (.d x) ρ1) : EvX c e ρ (.fr (.d x)) ρ1 := fun G F σ H Q T k => h G F σ H Q T fun v F' H' S s q => k v F' H' S s (by
  obtain ⟨ass, qe, nd, fr⟩ := S.ents
  exact S.snoc (o := some v) (e := .ot none (.d x)) (as := []) qe nd fr ⟨v, rfl, ⟨rfl, q⟩, ⟨(fun _ a ha => by cases ha), fun _ z => nomatch z⟩⟩ (by simp) (by simp) (by simp))
inductive LcTurnF (c : CD) (tg elt : Expr) (ifs : List Expr) (own : List Nat) (ρ : Env') (d : D) : Option Tr → Env' → Prop
  | yes {ρa ρb ρc ρ' : Env'} {t : Tr} : EgX c own tg ρ d ρa → EtsX c ifs ρa true ρb → EvX c elt ρb (.fr t) ρc → ρc.length = ρb.length → ρ' = wipeE ρc own → LcTurnF c tg elt ifs own ρ d (some t) ρ'
  | no {ρa ρb ρ' : Env'} : EgX c own tg ρ d ρa → EtsX c ifs ρa false ρb → ρ' = wipeE ρb own → LcTurnF c tg elt ifs own ρ d none ρ'
theorem Ev_lcF {tg elt iter : Expr} {ifs : List Expr} {scope : Scope} (own : List (Str × Nat)) {ds : List D} (ρs : Nat → Env') (accs : Nat → List Tr) (hi : EiX c tg iter ρ ds (ρs 0))
    (hw : wipeE (ρs 0) (own.map (·.2)) = ρs 0) (h0 : accs 0 = [])
    (turn : ∀ j d, ds[j]? = some d → ∃ o, LcTurnF (c.blk scope) tg elt ifs (own.map (·.2)) (ρs j) d o (ρs (j + 1)) ∧ accs (j + 1) = accs j ++ o.toList)
    (hl : ds.length ≤ 1000000) : Ev c.z (tLcX c tg iter ifs elt scope own) ρ (.fr (.l (accs ds.length))) (ρs ds.length) := fun G F σ H Q T k => by
  refine hi G F σ H _ T fun J F1 H1 T1 s1 W => ?_
  obtain ⟨Gp, Y, w, hG, hY⟩ := W.w
  intro D nD
  have B0 := Stt.newT (t := .l []) (o := .lst []) T1 nD ⟨D, [], [], rfl, rfl, upd_same, rfl, rfl⟩
  refine lc_it w (fun i H' => ∃ F', Stt c.z G F' (L2.wipe σ (own.map (·.2)) ++ [some (.ref D)]) H' (ρs i ++ [.ot none (.l (accs i))]) ∧ FStep F1 H1 F' H' ∧ wipeE (ρs i) (own.map (·.2)) = ρs i ∧ (accs i).length ≤ i) ?_ (fun i H' _ h => ?_) (fun i x H' H'' hj h y => ?_) fun H' h => ?_
  · refine ⟨F1, ?_, .upd, hw, by rw [h0]; exact Nat.le_refl 0⟩
    have := B0.wipeT T1.len (own.map (·.2))
    rw [hw] at this
    rw [h0]
    exact this
  · obtain ⟨F', S', s', _⟩ := h
    exact hG H' (s'.fle.trans S'.fle)
  · obtain ⟨F', S', s', hwi, hlen⟩ := h
    obtain ⟨F2, d, g, e, hd'⟩ := hY i H' x H'' F' hj s'.fle S'.fle y
    obtain ⟨o, ht, ha⟩ := turn i d e
    have ll : (L2.wipe σ (own.map (·.2))).length = (ρs i).length := by simpa using S'.len
    obtain ⟨io, nf, Sh, bk⟩ := (S'.grow g).hold ll
    cases ht with
    | yes hg htt he hlc hρ =>
      refine hg _ F2 _ H'' x _ Sh hd' fun F3 σ3 H3 S3 s3 w3 => ?_
      have w3' : L2.wipe σ3 (own.map (·.2)) = L2.wipe σ (own.map (·.2)) := w3.trans (wipe_idem _ _)
      refine ⟨w3', htt _ F3 σ3 H3 _ S3 fun F4 H4 S4 s4 => ?_⟩
      rw [if_pos rfl]
      refine he _ F4 σ3 H4 _ S4 fun v F5 H5 S5 s5 q5 => ?_
      have q6 := q5.wipeT S5.len (own.map (·.2))
      rw [w3', ← hρ] at q6
      have st : FStep F2 H'' F5 H5 := (s3.trans s4).trans s5
      have B := bk q6 st
      have l6 : (L2.wipe σ (own.map (·.2))).length = (ρs (i + 1)).length := by simpa using q6.len
      obtain ⟨vs, hD, hvl, M⟩ := B.push l6
      have lacc : vs.length < sizeLine := by
        rw [hvl]
        have : sizeLine = 16777216 := sizeLine_eq
        omega
      exact ⟨vs, hD, lacc, F5, by rw [ha]; exact M, ((s'.trans g.step).trans st).trans .upd, by rw [hρ]; exact wipeE_idem _ _, by rw [ha]; simp; omega⟩
    | no hg htt hρ =>
      refine hg _ F2 _ H'' x _ Sh hd' fun F3 σ3 H3 S3 s3 w3 => ?_
      have w3' : L2.wipe σ3 (own.map (·.2)) = L2.wipe σ (own.map (·.2)) := w3.trans (wipe_idem _ _)
      refine ⟨w3', htt _ F3 σ3 H3 _ S3 fun F4 H4 S4 s4 => ?_⟩
      rw [if_neg Bool.false_ne_true]
      have S5 := S4.wipe (own.map (·.2))
      rw [w3', ← hρ] at S5
      exact ⟨F4, by rw [ha]; simpa using bk S5 (s3.trans s4), (s'.trans g.step).trans (s3.trans s4), by rw [hρ]; exact wipeE_idem _ _, by rw [ha]; simp; omega⟩
  · obtain ⟨F', S', s', hwi, hlen⟩ := h
    have ll : (L2.wipe σ (own.map (·.2))).length = (ρs ds.length).length := by simpa using S'.len
    have S2 := S'.swapT (σ' := σ) ll (wipe_length _ _).symm fun j e h n => by
      rw [← hwi] at h
      rw [wipe_out (wipeE_get h n).2]
    have l2 : σ.length = (ρs ds.length).length := by simpa using S2.len
    exact k (.ref D) F' H' (S2.drops l2) (s1.trans s') S2
theorem E_lcF {tg elt iter : Expr} {ifs : List Expr} {scope : Scope} {pos : Pos} (own : List (Str × Nat)) {ds : List D} (ρs : Nat → Env') (accs : Nat → List Tr) (hN : c.N.Nodup) (hok : BlkOk c.N c.sc scope own) (hi : EiX c tg iter ρ ds (ρs 0))
    (hw : wipeE (ρs 0) (own.map (·.2)) = ρs 0) (h0 : accs 0 = [])
    (turn : ∀ j d, ds[j]? = some d → ∃ o, LcTurnF (c.blk scope) tg elt ifs (own.map (·.2)) (ρs j) d o (ρs (j + 1)) ∧ accs (j + 1) = accs j ++ o.toList)
    (hl : ds.length ≤ 1000000) (hf : ∀ (X : Cx) x, foldedSetIterable iter X.env x = pure x) : EvX c (.ListComp elt [⟨tg, iter, ifs, 0⟩] scope pos) ρ (.fr (.l (accs ds.length))) (ρs ds.length) :=
  E_lcX hN hok (Ev_lcF own ρs accs hi hw h0 turn hl) hf
end
end Fw

set_option Elab.async false
set_option maxRecDepth 100000
set_option maxHeartbeats 4000000
namespace PySem
namespace FwX
open PySem.HandSPX
section
open Builtin Builtin.ObjectAttr
variable {M : Model} {A : Around} {E : Value → Shared → Prop} {h : Heap} {g : Array GenState} {d : Drawn} {t : Nat} {os : OsState}
variable {nm q : Str} {C N : Addr} {bs bm bmB : List Value} {hdct : Bool} {sn : List Str} {sub : List Value} {ab : Bool} {col : Option Bool} {dd : Option Addr} {k0 k1 k2 k3 k5 : Option Value} {B newId initId : String}
/-- C(.., k = ..) of an exception's class: what is checked -/
theorem xChkNew (F : ExcBaseFacts B newId initId bmB) (hT : ∀ X : String, bm.contains (.type X) = bmB.contains (.type X)) {rest : List Value} {kw : List (Str × Value)} {Q : Unit → Shared → Prop}
    (hC : h.get? C = some (excClassObj nm q C N bs bm hdct sn sub ab col dd k0 k1 k2 k3 k5 newId)) (hq : Q () ⟨h, g, d, t, os⟩) : wpAny M A (checkBuiltinCall newId ⟨.ref C :: rest, kw⟩) Q E ⟨h, g, d, t, os⟩ := by
  have hcB : (Value.ref C :: bm).contains (.type B) = true := by rw [List.contains_cons, hT, F.hasB, Bool.or_true]
  have hst := F.noStar
  simp only [checkBuiltinCall, F.newKind, F.newSplit, F.newRow]
  repeat (first | refine wpAny_loadPart_at hC ?_ | (refine wpAny_isSubtype_exc hC ?_; rw [hcB]) | refine wpAny_staticBase_exc hC ?_ | refine wpAny_madeBy_exc hC ?_ | simp only [bne_self_eq_false, Bool.false_eq_true, if_false] | wp_step)
  exact hq
theorem xChkCall {rest : List Value} {kw : List (Str × Value)} {Q : Unit → Shared → Prop} (hC : h.get? C = some (excClassObj nm q C N bs bm hdct sn sub ab col dd k0 k1 k2 k3 k5 newId))
    (hq : Q () ⟨h, g, d, t, os⟩) : wpAny M A (checkBuiltinCall "type.__call__" ⟨.ref C :: rest, kw⟩) Q E ⟨h, g, d, t, os⟩ := by
  have f3 := tc_sub
  have hT : (⟨h, g, d, t, os⟩ : Shared).TypeIs (.ref C) "type" := ⟨_, hC, rfl⟩
  simp only [checkBuiltinCall, tc_kind, tc_split]
  repeat (any_goals (first | assumption | with_reducible refine wpAny_loadPart_at hC ?_ | with_reducible refine wpAny_onRaise ?_ | with_reducible refine wpAny_map ?_ | wp_step))
end
section
open Builtin Builtin.ObjectAttr
variable {prog : Program} {w : World} {A : Around} {E : Value → Shared → Prop} {R : Result → Shared → Prop} {h : Heap} {g : Array GenState} {d : Drawn} {t : Nat} {os : OsState}
variable {nm q : Str} {C N : Addr} {bs bm bmB : List Value} {hdct : Bool} {sn : List Str} {sub : List Value} {ab : Bool} {col : Option Bool} {dd : Option Addr} {k0 k1 k2 k3 k5 : Option Value} {B newId initId : String}
theorem xNew (F : ExcBaseFacts B newId initId bmB) (hT : ∀ X : String, bm.contains (.type X) = bmB.contains (.type X)) {rest : List Value} {kw : List (Str × Value)}
    (hC : h.get? C = some (excClassObj nm q C N bs bm hdct sn sub ab col dd k0 k1 k2 k3 k5 newId))
    (hq : R (.ok (.ret (.ref (h.objs.size + 1)))) ⟨(h.push (W.kdv_tup rest)).push (excO C h.objs.size), g, d, t, os⟩) (hrest : rest.length ≤ sizeLine) :
    codeAny (model prog w) A (.builtin newId ⟨.ref C :: rest, kw⟩) R ⟨h, g, d, t, os⟩ := by
  have hends := F.ends
  have c1 : (Value.ref C :: bm).contains (.type B) = true := by rw [List.contains_cons, hT, F.hasB, Bool.or_true]
  have c2 : (Value.ref C :: bm).contains (.type "AttributeError") = false := by rw [List.contains_cons, hT, F.noAttr]; rfl
  have c3 : (Value.ref C :: bm).contains (.type "NameError") = false := by rw [List.contains_cons, hT, F.noName]; rfl
  refine codeAny_builtinAt F.entry ?_
  unfold Builtin.«BaseException.__new__»
  refine wpAt_bind ?_
  show wpAt _ _ _ (stack >>= _) _ _ _
  refine wpAt_bind (wpAt_stack fun p below => wpAt_of_wpAny ?_)
  wp_walk
  refine wpAt_of_wpAny ?_
  rw [F.owner]
  repeat (first | with_reducible refine wpAny_madeHere_exc F.canon hC ?_ | with_reducible refine wpAny_loadPart_at hC ?_ | (with_reducible refine wpAny_isSubtype_exc hC ?_; first | rw [c1] | rw [c2] | rw [c3]) | wp_step)
  show R _ _
  rw [Heap.size_push]
  exact hq
theorem xCallTy (F : ExcBaseFacts B newId initId bmB) (hT : ∀ X : String, bm.contains (.type X) = bmB.contains (.type X)) {rest : List Value} {kw : List (Str × Value)} {iv : Value} {Q : Fin → Shared → Prop}
    (hC : h.get? C = some (excClassObj nm q C N bs bm hdct sn sub ab col dd k0 k1 k2 k3 k5 newId))
    (hi : W.Looks (model prog w) h (typeLookup (.ref C) "__init__") (some iv)) (hb : ∀ self, W.Looks (model prog w) h (bindSpecial iv self) (iv, [self])) (hrest : rest.length ≤ sizeLine)
    (hq : codeAny (model prog w) A (.call iv ⟨.ref (h.objs.size + 1) :: rest, kw⟩)
      (fun r s' => match r with | .ok (.ret v) => v = .none ∧ Q (.done (.ret (.ref (h.objs.size + 1)))) s' | .ok _ => False | .error e => E e s')
      ⟨(h.push (W.kdv_tup rest)).push (excO C h.objs.size), g, d, t, os⟩) :
    wpAny (model prog w) A (Builtin.«type.__call__» ⟨.ref C :: rest, kw⟩) Q E ⟨h, g, d, t, os⟩ := by
  repeat (first | with_reducible refine wpAny_loadPart_at hC ?_ | with_reducible refine wpAny_madeBy_exc hC ?_ | wp_step)
  refine codeAny_call_builtin_code (Code.quiet_builtin _ F.quiet) (xChkNew F hT hC ?_)
  refine xNew F hT hC ?_ hrest
  show wpAny _ _ _ _ _ _
  have k : ∀ b o, h.get? b = some o → ((h.push (W.kdv_tup rest)).push (excO C h.objs.size)).get? b = some o := fun b o e => Heap.get?_push_of_some _ (Heap.get?_push_of_some _ e)
  have hC1 := k _ _ hC
  have hget : ((h.push (W.kdv_tup rest)).push (excO C h.objs.size)).get? (h.objs.size + 1) = some (excO C h.objs.size) := by heap_get
  have hcC : (Value.ref C :: bm).contains (.ref C) = true := by simp
  have i1 := hi.keeps k
  have b1 := (hb (.ref (h.objs.size + 1))).keeps k
  unfold isInstance
  repeat (first | with_reducible refine wpAny_loadPart_at hget ?_ | (with_reducible refine wpAny_isSubtype_exc hC1 ?_; rw [hcC]) | wp_step)
  show wpAny _ _ (typeLookup (.ref C) _) _ _ _
  refine i1.at ?_
  refine wpAny_holding (wpAny_bind (b1.at ?_))
  refine wpAny_bind (wpAny_call (codeAny_mono hq fun r s' z => ?_))
  rcases r with e | (v | _ | _ | _) <;> first | exact z | exact z.elim | skip
  obtain ⟨rfl, z⟩ := z
  first
    | exact wpAny_pure (wpAny_pure z)
    | (wp_walk; exact z)
theorem xCall (F : ExcBaseFacts B newId initId bmB) (hT : ∀ X : String, bm.contains (.type X) = bmB.contains (.type X)) {rest : List Value} {kw : List (Str × Value)} {iv : Value}
    (hC : h.get? C = some (excClassObj nm q C N bs bm hdct sn sub ab col dd k0 k1 k2 k3 k5 newId))
    (hi : W.Looks (model prog w) h (typeLookup (.ref C) "__init__") (some iv)) (hb : ∀ self, W.Looks (model prog w) h (bindSpecial iv self) (iv, [self])) (hrest : rest.length ≤ sizeLine)
    (hq : codeAny (model prog w) (A.under (.builtin "type.__call__" ⟨.ref C :: rest, kw⟩)) (.call iv ⟨.ref (h.objs.size + 1) :: rest, kw⟩) (W.InitBack (h.objs.size + 1) R)
      ⟨(h.push (W.kdv_tup rest)).push (excO C h.objs.size), g, d, t, os⟩) :
    codeAny (model prog w) A (.call (.ref C) ⟨rest, kw⟩) R ⟨h, g, d, t, os⟩ := by
  have f1 := tc_lookup
  have f2 := tc_bind (.ref C)
  have hTy : (⟨h, g, d, t, os⟩ : Shared).TypeIs (.ref C) "type" := ⟨_, hC, rfl⟩
  refine codeAny_of_tree ?_
  show wpAny _ _ (callAny (.ref C) _) _ _ _
  repeat (any_goals (first | assumption | with_reducible refine wpAny_loadPart_at hC ?_ | wp_step))
  refine ⟨rfl, ?_⟩
  refine codeAny_call_builtin_at (Code.quiet_builtin _ (by decide +kernel)) entry_typeCall (xChkCall hC (xCallTy F hT hC hi hb hrest ?_))
  refine codeAny_mono hq fun r s' z => ?_
  rcases r with e | (v | _ | _ | _) <;> exact z
end
end FwX
end PySem

set_option Elab.async false
set_option maxRecDepth 100000
set_option maxHeartbeats 4000000
/-! Fw27: exceptions of own classes as data: made, asked for their class, their fields. -/
namespace Fw
open PySem PySem.Spec PyProof.Rows L2
/-- nothing may leave -/
def E0 : XK := fun _ _ _ => False
section
variable {X : Cx} {pins : List (Addr × Obj)} {σ : L2.St} {H : Hp} {s : Shared} {Q : VK} {C fI : Addr} {k : Nat} {fd : FuncData} {ps : List Str} {sp : Sp} {CX : CXT}
theorem xLaid {hp : Heap} {g : Array GenState} {dr : Drawn} {tk : Nat} {os : OsState} (I : Inv X pins σ H ⟨hp, g, dr, tk, os⟩) (us : List Value) (C : Addr) :
    Inv X pins σ (upd H (hp.objs.size + 1) (exo (hp.objs.size + 1) C none)) ⟨(hp.push (PySem.W.kdv_tup us)).push (PySem.HandSPX.excO C hp.objs.size), g, dr, tk, os⟩ := by
  have kk : ∀ b o, hp.get? b = some o → ((hp.push (PySem.W.kdv_tup us)).push (PySem.HandSPX.excO C hp.objs.size)).get? b = some o := fun b o e => Heap.get?_push_of_some _ (Heap.get?_push_of_some _ e)
  have hget : ((hp.push (PySem.W.kdv_tup us)).push (PySem.HandSPX.excO C hp.objs.size)).get? (hp.objs.size + 1) = some (PySem.HandSPX.excO C hp.objs.size) := by heap_get
  exact I.laid (t' := tk) (a := hp.objs.size + 1) (o := exo (hp.objs.size + 1) C none) kk (Nat.le_succ _) (exo_ok hget)
/-- C(..): its own __init__ is run -/
theorem xGo {us bs : List Value} {kw : List (Str × Value)} {vs : List V} (T : OexC X.K C) (iC : PySem.W.findIn X.K (.ref C) "__init__" = some (some (.ref fI))) (tI : PySem.W.typeIn X.K (.ref fI) = some (.type "function"))
    (F : FnK X.prog X.w X.K X.mg X.base CX k fI fd ps sp) (hr : Rm (k + 1) X.A) (hx : Passes CX X E0) (I : Inv X pins σ H s) (hl : us.length ≤ sizeLine) (hb : ∀ (s' : Shared) (x : Value), X.K.In s'.heap → BindsTo s' fd ⟨x :: us, kw⟩ (ps.zip (x :: bs))) (r : Vals vs bs)
    (h : ∀ a, H a = none → sp (.ref a :: vs) (upd H a (exo a C none)) (fun v H2 => v = .non ∧ Q (.ref a) H2) E0) : wpAny (model X.prog X.w) X.A (call (.ref C) us kw) (EP X pins σ Q) X.xe s := by
  obtain ⟨nm, q, N, bs', bm, sn, sub, ab, col, dd, k0, k1, k2, k3, k5, hC, hbm⟩ := T.cls
  obtain ⟨hp, g, dr, tk, os⟩ := s
  have hn : H (hp.objs.size + 1) = none := I.hok.fresh (Nat.le_succ _)
  have J := xLaid I us C
  have rr : Vals (V.ref (hp.objs.size + 1) :: vs) (Value.ref (hp.objs.size + 1) :: bs) := .cons rfl r
  refine wpAny_call (PySem.FwX.xCall PySem.F.excBase_ValueError (fun Y => PySem.HandSPX.refsVE_contains Y bm hbm) (I.kIn _ _ hC) (PySem.W.looks_findIn I.kIn iC) (fun self => PySem.W.bind_fn I.kIn self tI) hl
    (codeAny_mono (F.run _ X.stack _ _ ⟨Value.ref (hp.objs.size + 1) :: us, kw⟩ (Value.ref (hp.objs.size + 1) :: bs) _ _ E0 (hr.make C us kw) (J.env0.make C us kw) (hb _ (Value.ref (hp.objs.size + 1)) J.kIn) rr (h _ hn)) fun r s' q => ?_))
  have z := back_of J hx q
  cases r with
  | error e => exact z
  | ok fl =>
    cases fl with
    | ret u =>
      obtain ⟨v, H', I3, rv, ev, q3⟩ := z
      subst ev
      exact ⟨rv, V.ref (hp.objs.size + 1), H', I3, rfl, q3⟩
    | next => exact z.elim
    | brk => exact z.elim
    | cont => exact z.elim
/-- C() where __init__ is ValueError's -/
theorem xGo0 (T : OexC X.K C) (iC : PySem.W.findIn X.K (.ref C) "__init__" = some (some (.builtin "ValueError.__init__"))) (I : Inv X pins σ H s)
    (h : ∀ a, H a = none → Q (.ref a) (upd H a (exo a C none))) : wpAny (model X.prog X.w) X.A (call (.ref C) []) (EP X pins σ Q) X.xe s := by
  obtain ⟨nm, q, N, bs', bm, sn, sub, ab, col, dd, k0, k1, k2, k3, k5, hC, hbm⟩ := T.cls
  obtain ⟨hp, g, dr, tk, os⟩ := s
  have hn : H (hp.objs.size + 1) = none := I.hok.fresh (Nat.le_succ _)
  have J := xLaid I [] C
  refine wpAny_call (PySem.FwX.xCall PySem.F.excBase_ValueError (fun Y => PySem.HandSPX.refsVE_contains Y bm hbm) (I.kIn _ _ hC) (PySem.W.looks_findIn I.kIn iC) (fun self => ?_) (Nat.zero_le _) ?_)
  · exact PySem.W.Looks.of_pure (by unfold bindSpecial; first | rfl | kernel_rfl)
  · obtain ⟨t1, ho⟩ := exo_at (e := hp.objs.size + 1) (C := C) (d := none) J.hok (by rw [upd_same])
    refine PySem.HandSPX.init_base PySem.F.excBase_ValueError (fun Y => PySem.HandSPX.refsVE_contains Y bm hbm) (J.kIn _ _ hC) ho (Nat.zero_le _) fun h' t2 k hx => ?_
    refine ⟨rfl, ?_⟩
    have J2 := J.write (t' := tk) (x := hp.objs.size + 1) (e := hp.objs.size + 1) (o := exo (hp.objs.size + 1) C none) (by rw [upd_same]; exact True.intro) (.inl rfl) k ⟨_, hx⟩ (exo_ok hx)
    rw [upd_upd] at J2
    exact ⟨V.ref (hp.objs.size + 1), _, J2, rfl, h _ hn⟩
end
end Fw

set_option Elab.async false
set_option maxRecDepth 100000
set_option maxHeartbeats 4000000
/-! Fw28: exceptions as data: the readings and the rules. -/
namespace Fw
open PySem PySem.Spec PyProof.Rows L2
/-- what the text says of an own exception's class -/
structure ExK (K : PySem.W.Frag) (C : Addr) : Prop where
  o : OexC K C
  e : ExcC K C
section
variable {X : Cx} {pins : List (Addr × Obj)} {σ : L2.St} {H : Hp} {s : Shared}
/-- an own exception of the class at C stands at a -/
def ExAt (X : Cx) (H : Hp) (a C : Addr) : Prop := ∀ pins σ s, Inv X pins σ H s → ∃ ox od, PySem.W.InstAt s.heap a ox C od
theorem exAt_of {a C : Addr} {d : Option Addr} (h : H a = some (exo a C d)) (hd : ∀ dx, d = some dx → ∃ gs, H dx = some (exd dx gs)) : ExAt X H a C := fun pins σ s I => by
  obtain ⟨t1, ho⟩ := exo_at I.hok h
  cases d with
  | none => exact ⟨_, none, ho, rfl, rfl, trivial⟩
  | some dx =>
    obtain ⟨gs, e⟩ := hd dx rfl
    obtain ⟨mA, ⟨o, _, _, e1, _⟩, _⟩ := exd_at I.hok e
    exact ⟨_, some o, ho, rfl, rfl, e1⟩
theorem ExcC.kit {K : PySem.W.Frag} {C x : Addr} {ox : Obj} {od : Option Obj} (h : ExcC K C) : PySem.W.KitX K (.ref x) (.ref C) (fun h => PySem.W.InstAt h x ox C od) := by
  refine PySem.W.kitx_exc ?_ h.hg h.hk h.hs h.ha h.hn h.ht h.hm
  obtain ⟨cd, hc, _⟩ := PySem.W.any_some h.hd
  rw [hc]; rfl
/-- isinstance(e, c) -/
def rIse (X : Cx) : List V → Hp → VK → Prop := fun xs H Q => ∃ (a C : Addr) (c : V) (cv : Value) (b : Bool), xs = [.ref a, c] ∧ ClsV c cv ∧ ExcC X.K C ∧ PySem.W.kitOne X.K (.ref C) cv = some b ∧ ExAt X H a C ∧ Q (.bl b) H
theorem call_isx : CallR X (.builtin "isinstance") (rIse X) := by
  intro pins s σ H xs us Q I r h
  obtain ⟨a, C, c, cv, b, rfl, k, hC, e, ha, q⟩ := h
  obtain ⟨u1, u2, rfl, r1, r2⟩ := vals2 r
  cases (show u1 = Value.ref a from r1)
  have e2 := k.eq r2
  subst e2
  obtain ⟨ox, od, J⟩ := ha pins σ s I
  exact PySem.W.kia_one (ExcC.kit hC) I.kIn J e (fun z => nomatch z) fun tk => ⟨.bl b, H, I.tok tk, rfl, q⟩
/-- isinstance(e, (c1, c2, ..)) -/
def rIseT (X : Cx) : List V → Hp → VK → Prop := fun xs H Q => ∃ (a C tp : Addr) (cs : List V) (us : List Value) (b : Bool), xs = [.ref a, .ref tp] ∧ SqT X.K H tp cs ∧ Paired ClsV cs us ∧ ExcC X.K C ∧ PySem.W.kitAny X.K (.ref C) us = some b ∧ ExAt X H a C ∧ Q (.bl b) H
theorem call_isxT : CallR X (.builtin "isinstance") (rIseT X) := by
  intro pins s σ H xs us Q I r h
  obtain ⟨a, C, tp, cs, ws, b, rfl, hT, k, hC, e, ha, q⟩ := h
  obtain ⟨u1, u2, rfl, r1, r2⟩ := vals2 r
  cases (show u1 = Value.ref a from r1)
  cases (show u2 = Value.ref tp from r2)
  obtain ⟨ox, od, J⟩ := ha pins σ s I
  obtain ⟨its, rv, ⟨o, h1, h2, n, h3⟩, _⟩ := I.tuple hT
  have e3 := ClsV.all k rv
  subst e3
  obtain ⟨oc, od', dt, sl⟩ := o
  simp only at h2 h3
  subst h2 h3
  exact PySem.W.kia_tup (ExcC.kit hC) I.kIn J h1 e (fun z => nomatch z) fun tk => ⟨.bl b, H, I.tok tk, rfl, q⟩
/-- e.f -/
def tXg (K : PySem.W.Frag) (f : Str) (te : TE) : TE := fun σ H Q => te σ H fun x H1 => ∃ (a C dx : Addr) (gs : List (Str × V)) (v : V), x = .ref a ∧ ExcC K C ∧ PySem.W.findIn K (.ref C) f = some none ∧ H1 a = some (exo a C (some dx)) ∧ H1 dx = some (exd dx gs) ∧ gs.lookup f = some v ∧ Q v H1
theorem pe_xg {e : Expr} {te : TE} {f : Str} {pos : Pos} (he : PE X e te) (hb : attributeBase e f X.env (eval e X.env) = eval e X.env) : PE X (.Attribute e f pos) (tXg X.K f te) := by
  refine ⟨fun pins s σ H Q I h => attr_of hb (thn (he.run pins s σ H _ I h) fun u s1 hh => ?_)⟩
  obtain ⟨x, H1, I1, rx, a, C, dx, gs, v, ex, T, hno, ea, ed, l, q⟩ := hh
  subst ex
  obtain rfl : u = Value.ref a := rx
  obtain ⟨t1, ho⟩ := exo_at I1.hok ea
  obtain ⟨mA, hns, hr⟩ := exd_at I1.hok ed
  obtain ⟨od, hod, hl⟩ := lookIn_ns hns
  obtain ⟨u, hu, ru⟩ := RelO.some_of (v := v) (o := mA f) (by rw [← l]; exact hr f)
  have J : PySem.W.InstAt s1.heap a _ C (some od) := ⟨ho, rfl, rfl, hod⟩
  exact PySem.HandSPX.exc_get I1.kIn J T.hg T.hk T.hs (PySem.W.findObj_own T.hd hno rfl (by rw [hl, hu])) (handed_of ru) ⟨v, H1, I1.tok _, ru, q⟩
/-! ### making -/
/-- what __init__(self, f): self.f = f keeps -/
def SpXI (K : PySem.W.Frag) (f : Str) : Sp := fun vs H Q _ => ∃ (a C : Addr) (y : V), vs = [.ref a, y] ∧ OexC K C ∧ PySem.W.findIn K (.ref C) f = some none ∧ H a = some (exo a C none) ∧ ∀ dx, H dx = none → dx ≠ a → Q .non (upd (upd H dx (exd dx [(f, y)])) a (exo a C (some dx)))
theorem xInit {P : Program} {w : World} {K : PySem.W.Frag} {mg : Str → Option Value} {base : Heap} {CX : CXT} {x qual : Str} {params : Arguments} {scope : Scope} {fI : Addr} {fd : FuncData} {g f : Str} {p1 p2 p3 p4 : Pos} {k : Nat}
    (F : FunD K x qual params [.Assign [.Attribute (.Name "self" p1) f p2] (.Name g p3) p4] scope [] [] fI fd) (S : FnScope ["self", g] ["self", g] scope) (h1 : (g == ("__debug__" : Str)) = false) (h2 : (g == ("__classdict__" : Str)) = false)
    (hs : ∀ env : Env, swapsWith (.Name g p3) (some (.Attribute (.Name "self" p1) f p2)) p4.line env = pure false) : FnK P w K mg base CX (k + 1) fI fd ["self", g] (SpXI K f) := by
  refine fnK_of F S (fun vs H Q E h => by obtain ⟨a, C, y, rfl, _⟩ := h; rfl) fun cdv A outer s H vs Q E hc hr h => ?_
  obtain ⟨a, C, y, rfl, T, hno, ha, hq⟩ := h
  have vis : ∀ z ∈ (["self", g] : List Str), Vis scope z := fun z hz => by
    rcases S.par z hz with q | q
    · exact .inl q
    · exact .inr (.inl q)
  refine ⟨_, pss_cons (ps_ost (pe_var (i := 0) rfl (vis _ (by simp))) (pe_var (i := 1) rfl (vis _ (by simp)) h1 h2) (hs _)) pss_nil, ?_⟩
  exact ⟨y, rfl, V.ref a, rfl, a, C, rfl, T, hno, .inl ⟨ha, fun dx n ne => hq dx n ne⟩⟩
theorem upd_xo {H : Hp} {a dx : Addr} {o u v : HO} (h : dx ≠ a) : upd (upd (upd H a o) dx u) a v = upd (upd H dx u) a v := by
  funext b
  by_cases hb : b = a
  · rw [hb, upd_same, upd_same]
  · rw [upd_ne hb, upd_ne hb]
    by_cases hd : b = dx
    · rw [hd, upd_same, upd_same]
    · rw [upd_ne hd, upd_ne hd, upd_ne hb]
/-- C(y): the exception, its field f -/
def tXm (C : Addr) (f : Str) (ta : TA) : TE := fun σ H Q => ta σ H fun vs H1 => ∃ y, vs = [y] ∧ ∀ a dx, H1 a = none → H1 dx = none → dx ≠ a → Q (.ref a) (upd (upd H1 dx (exd dx [(f, y)])) a (exo a C (some dx)))
def tXm0 (C : Addr) : TE := fun σ H Q => ∀ a, H a = none → Q (.ref a) (upd H a (exo a C none))
end
/-- a class of exceptions by its name, kept in the field f -/
structure KnE (Z : Zd) (k : Nat) (x : Str) (C : Addr) (f : Str) : Prop where
  mg : Z.mg x = some (.ref C)
  kp : PySem.W.keepIn Z.K (.ref C) = true
  c : ExK Z.K C
  no : PySem.W.findIn Z.K (.ref C) f = some none
  ini : ∃ fI fd, PySem.W.findIn Z.K (.ref C) "__init__" = some (some (.ref fI)) ∧ PySem.W.typeIn Z.K (.ref fI) = some (.type "function") ∧ FnK Z.P Z.w Z.K Z.mg Z.base (L2.CX Z.P Z.w) k fI fd ["self", f] (SpXI Z.K f) ∧
    (∀ (s : Shared) (x u : Value), BindsTo s fd ⟨[x, u], []⟩ [(("self" : Str), x), (f, u)]) ∧ ∀ (s : Shared) (x u : Value), BindsTo s fd ⟨[x], [(f, u)]⟩ [(("self" : Str), x), (f, u)]
/-- .. that keeps nothing -/
structure KnE0 (Z : Zd) (x : Str) (C : Addr) : Prop where
  mg : Z.mg x = some (.ref C)
  kp : PySem.W.keepIn Z.K (.ref C) = true
  c : ExK Z.K C
  ini : PySem.W.findIn Z.K (.ref C) "__init__" = some (some (.builtin "ValueError.__init__"))
end Fw

set_option Elab.async false
set_option maxRecDepth 100000
set_option maxHeartbeats 4000000
/-! Fw29: exceptions as data: the rules over data. -/
namespace Fw
open PySem PySem.Spec PyProof.Rows L2
theorem den_exc {K : PySem.W.Frag} {F : Hp} {a dx C : Addr} {f : Str} {y : V} {d : D} (n1 : F dx = none) (n2 : F a = none) (ne : dx ≠ a) (h : Den K F d y) : Den K (upd (upd F dx (exd dx [(f, y)])) a (exo a C (some dx))) (.exc C [(f, d)]) (.ref a) := by
  refine ⟨a, some dx, [(f, y)], rfl, upd_same, fun x e => ?_, (fun z => nomatch z), ⟨y, by simp [List.lookup], ?_⟩, trivial⟩
  · cases e
    rw [upd_ne ne, upd_same]
  · exact Den.mono (FLe.trans (FLe.new n1) (FLe.new (by rw [upd_ne (fun z => ne z.symm)]; exact n2))) d y h
theorem den_exc0 {K : PySem.W.Frag} {F : Hp} {a C : Addr} : Den K (upd F a (exo a C none)) (.exc C []) (.ref a) := ⟨a, none, [], rfl, upd_same, (fun _ e => nomatch e), (fun _ => rfl), trivial⟩
section
variable {c : CD} {vis loc : List Nat} {gl : List Str} {ρ ρ1 ρ2 : Env'}
theorem xm_step {Z : Zd} {G : Gd} {F1 : Hp} {σ : L2.St} {H1 : Hp} {ρ1 : Env'} {C : Addr} {f : Str} {v0 : V} {y : D} (T1 : Stt Z G F1 σ H1 ρ1) (q : Den Z.K F1 y v0) {a dx : Addr} (ea : H1 a = none) (ed : H1 dx = none) (ne : dx ≠ a) :
    Stt Z G (upd (upd F1 dx (exd dx [(f, v0)])) a (exo a C (some dx))) σ (upd (upd H1 dx (exd dx [(f, v0)])) a (exo a C (some dx))) ρ1 ∧ FStep F1 H1 (upd (upd F1 dx (exd dx [(f, v0)])) a (exo a C (some dx))) (upd (upd H1 dx (exd dx [(f, v0)])) a (exo a C (some dx))) ∧
      Den Z.K (upd (upd F1 dx (exd dx [(f, v0)])) a (exo a C (some dx))) (.exc C [(f, y)]) (.ref a) := by
  have g1 : Grow Z F1 H1 (upd F1 dx (exd dx [(f, v0)])) (upd H1 dx (exd dx [(f, v0)])) := Grow.alloc T1.fle ed (fun _ z => by
    have z' : HO.ext _ = HO.tbl _ := z
    cases z')
  have T2 := T1.grow g1
  have ea' : upd H1 dx (exd dx [(f, v0)]) a = none := by rw [upd_ne (fun z => ne z.symm)]; exact ea
  have g2 : Grow Z (upd F1 dx (exd dx [(f, v0)])) (upd H1 dx (exd dx [(f, v0)])) (upd (upd F1 dx (exd dx [(f, v0)])) a (exo a C (some dx))) (upd (upd H1 dx (exd dx [(f, v0)])) a (exo a C (some dx))) := Grow.alloc T2.fle ea' (fun _ z => exo_tbl z)
  exact ⟨T2.grow g2, g1.step.trans g2.step, den_exc (T1.fle.none ed) (T1.fle.none ea) ne q⟩
theorem pass0 {X : Cx} (ok : c.Ok X) : Passes (L2.CX X.prog X.w) X E0 := passes_call ok.tk fun _ _ _ _ h => h.elim
theorem pe_xm {X : Cx} (ok : c.Ok X) (S : ScOk c vis loc gl) {k : Nat} {x : Str} {C : Addr} {f : Str} (hk : KnE c.z k x C f) (hj : k < c.k) {e : Expr} {p pos : Pos} {ta : TA} (ha : PA X [e] ta) (hx : x ∈ gl) (he : starEach [e] X.env = (false, eval e X.env) :: starEach [] X.env) (hpl : (backTo pos (starEach [] X.env)).any (·.1) = false) :
    PE X (.Call (.Name x p) [e] [] pos) (tXm C f ta) := by
  obtain ⟨fI, fd, iC, tI, F, hb, _⟩ := hk.ini
  refine ⟨fun pins s σ H Q I h => wpAny_Call_Name_kw (ld_glob I (ok.glOf S hx) (by rw [ok.mg]; exact hk.mg) (PySem.W.callWith_K (h₀ := X.base) I.ok.mod.kin (by rw [ok.K]; exact hk.kp) (thn (ha.run pos pins s σ H _ I h) fun us s1 hs => ?_) he hpl) (S.glOf hx).2.1)⟩
  obtain ⟨vs, H1, I1, r, y, rfl, q⟩ := hs
  refine ⟨I1.kIn, ?_⟩
  cases r with
  | @cons _ u _ _ ru rr =>
    cases rr
    have T : OexC X.K C := by rw [ok.K]; exact hk.c.o
    have F' : FnK X.prog X.w X.K X.mg X.base (L2.CX X.prog X.w) k fI fd ["self", f] (SpXI c.K f) := by rw [ok.P, ok.w, ok.K, ok.mg, ok.base]; exact F
    refine xGo (vs := [y]) (bs := [u]) T (by rw [ok.K]; exact iC) (by rw [ok.K]; exact tI) F' (ok.room.mono hj) (pass0 ok) I1 (by simp [sizeLine_eq]) (fun s' x _ => hb s' x u) (.cons ru .nil) fun a ea => ?_
    refine ⟨a, C, y, rfl, by rw [← ok.K]; exact T, hk.no, upd_same, fun dx ed ne => ⟨rfl, ?_⟩⟩
    rw [upd_ne ne] at ed
    rw [upd_xo ne]
    exact q a dx ea ed ne
/-- C(e) -/
theorem E_mkx (S : ScOk c vis loc gl) {k : Nat} {x : Str} {C : Addr} {f : Str} (hk : KnE c.z k x C f) (hj : k < c.k) {e : Expr} {p pos : Pos} {y : D} (h : EvX c e ρ (.d y) ρ1) (hx : x ∈ gl)
    (he : ∀ X : Cx, starEach [e] X.env = (false, eval e X.env) :: starEach [] X.env) (hpl : ∀ X : Cx, (backTo pos (starEach [] X.env)).any (·.1) = false) : EvX c (.Call (.Name x p) [e] [] pos) ρ (.d (.exc C [(f, y)])) ρ1 := fun G F0 σ H Q T kk => by
  refine ⟨tXm C f (tA c [e]), fun X ok => pe_xm ok S hk hj (pa_tA ok _) hx (he X) (hpl X), (A_cons h A_nil he) G F0 σ H _ T fun vs F1 H1 T1 s1 l q => ?_⟩
  match vs, l with
  | [v0], _ =>
    have q0 : Den c.z.K F1 y v0 := q 0 v0 (.d y) rfl rfl
    refine ⟨v0, rfl, fun a dx ea ed ne => ?_⟩
    obtain ⟨T3, s3, d3⟩ := xm_step (C := C) (f := f) T1 q0 ea ed ne
    exact kk _ _ _ T3 (s1.trans s3) d3
theorem pe_xmK {X : Cx} (ok : c.Ok X) (S : ScOk c vis loc gl) {k : Nat} {x : Str} {C : Addr} {f : Str} (hk : KnE c.z k x C f) (hj : k < c.k) {e : Expr} {p kpos pos : Pos} {te : TE} (ha : PE X e te) (hx : x ∈ gl) (hall : (backToKw pos (keywordEach [⟨some f, e, kpos⟩] X.env)).all (·.1.isSome) = true)
    (hks : (backToKw pos (keywordEach [⟨some f, e, kpos⟩] X.env)).filterMap (·.1) = [f]) (hpl : ((backTo pos (starEach [] X.env)).any (·.1) || (backToKw pos (keywordEach [⟨some f, e, kpos⟩] X.env)).any (·.1.isNone)) = false) :
    PE X (.Call (.Name x p) [] [⟨some f, e, kpos⟩] pos) (tXm C f (tCons te tNil)) := by
  obtain ⟨fI, fd, iC, tI, F, _, hb⟩ := hk.ini
  refine ⟨fun pins s σ H Q I h => wpAny_Call_Name_kw (ld_glob I (ok.glOf S hx) (by rw [ok.mg]; exact hk.mg) (PySem.W.callWith_KW0 (h₀ := X.base) I.ok.mod.kin (by rw [ok.K]; exact hk.kp) hall (thn ((pk_cons (kpos := kpos) (nm := some f) ha (pk_nil (X := X))).run pos pins s σ H _ I h) fun us s1 hs => ?_) hpl) (S.glOf hx).2.1)⟩
  obtain ⟨vs, H1, I1, r, y, rfl, q⟩ := hs
  refine ⟨I1.kIn, ?_⟩
  rw [hks]
  cases r with
  | @cons _ u _ _ ru rr =>
    cases rr
    have T : OexC X.K C := by rw [ok.K]; exact hk.c.o
    have F' : FnK X.prog X.w X.K X.mg X.base (L2.CX X.prog X.w) k fI fd ["self", f] (SpXI c.K f) := by rw [ok.P, ok.w, ok.K, ok.mg, ok.base]; exact F
    refine xGo (vs := [y]) (bs := [u]) (us := []) (kw := [(f, u)]) T (by rw [ok.K]; exact iC) (by rw [ok.K]; exact tI) F' (ok.room.mono hj) (pass0 ok) I1 (Nat.zero_le _) (fun s' x _ => hb s' x u) (.cons ru .nil) fun a ea => ?_
    refine ⟨a, C, y, rfl, by rw [← ok.K]; exact T, hk.no, upd_same, fun dx ed ne => ⟨rfl, ?_⟩⟩
    rw [upd_ne ne] at ed
    rw [upd_xo ne]
    exact q a dx ea ed ne
/-- C(f = e) -/
theorem E_mkxK (S : ScOk c vis loc gl) {k : Nat} {x : Str} {C : Addr} {f : Str} (hk : KnE c.z k x C f) (hj : k < c.k) {e : Expr} {p kpos pos : Pos} {y : D} (h : EvX c e ρ (.d y) ρ1) (hx : x ∈ gl)
    (hall : ∀ X : Cx, (backToKw pos (keywordEach [⟨some f, e, kpos⟩] X.env)).all (·.1.isSome) = true) (hks : ∀ X : Cx, (backToKw pos (keywordEach [⟨some f, e, kpos⟩] X.env)).filterMap (·.1) = [f])
    (hpl : ∀ X : Cx, ((backTo pos (starEach [] X.env)).any (·.1) || (backToKw pos (keywordEach [⟨some f, e, kpos⟩] X.env)).any (·.1.isNone)) = false) : EvX c (.Call (.Name x p) [] [⟨some f, e, kpos⟩] pos) ρ (.d (.exc C [(f, y)])) ρ1 := fun G F0 σ H Q T kk => by
  refine ⟨tXm C f (tCons (tE c e) tNil), fun X ok => pe_xmK ok S hk hj (pe_tE ok e) hx (hall X) (hks X) (hpl X), h G F0 σ H _ T fun v0 F1 H1 T1 s1 q0 => ?_⟩
  refine ⟨v0, rfl, fun a dx ea ed ne => ?_⟩
  obtain ⟨T3, s3, d3⟩ := xm_step (C := C) (f := f) T1 q0 ea ed ne
  exact kk _ _ _ T3 (s1.trans s3) d3
/-- C() -/
theorem E_mkx0 (S : ScOk c vis loc gl) {x : Str} {C : Addr} (hk : KnE0 c.z x C) {p pos : Pos} (hx : x ∈ gl) : EvX c (.Call (.Name x p) [] [] pos) ρ (.d (.exc C [])) ρ := fun G F0 σ H Q T kk => by
  refine ⟨tXm0 C, fun X ok => ⟨fun pins s σ H Q I h => wpAny_Call_Name_kw (ld_glob I (ok.glOf S hx) (by rw [ok.mg]; exact hk.mg) (PySem.W.callWith_K0 I.kIn (by rw [ok.K]; exact hk.kp) (xGo0 (by rw [ok.K]; exact hk.c.o) (by rw [ok.K]; exact hk.ini) I h)) (S.glOf hx).2.1)⟩, fun a ea => ?_⟩
  have g2 : Grow c.z F0 H (upd F0 a (exo a C none)) (upd H a (exo a C none)) := Grow.alloc T.fle ea (fun _ z => exo_tbl z)
  exact kk _ _ _ (T.grow g2) g2.step den_exc0
/-- e.f -/
theorem E_fldX {e : Expr} {f : Str} {pos : Pos} {C : Addr} {fs : List (Str × D)} {y : D} (h : EvX c e ρ (.d (.exc C fs)) ρ1) (hC : ExcC c.K C) (hno : PySem.W.findIn c.K (.ref C) f = some none) (hf : fs.lookup f = some y)
    (hb : ∀ X : Cx, attributeBase e f X.env (eval e X.env) = eval e X.env) : EvX c (.Attribute e f pos) ρ (.d y) ρ1 := fun G F0 σ H Q T kk => by
  refine ⟨tXg c.K f (tE c e), fun X ok => by rw [← ok.K]; exact pe_xg (pe_tE ok e) (hb X), h G F0 σ H _ T fun v F1 H1 T1 s1 q => ?_⟩
  obtain ⟨a, d, gs, rfl, e1, e2, e3, e4⟩ := q
  obtain ⟨w, l, dw⟩ := DenFs.look e4 hf
  cases d with
  | none => rw [e3 rfl] at hf; cases hf
  | some dx => exact ⟨a, C, dx, gs, w, rfl, hC, hno, T1.fle.eq e1, T1.fle.eq (e2 dx rfl), l, kk w F1 H1 T1 s1 dw⟩
/-! ### classes as data -/
/-- a class, as data -/
inductive ClsD : D → Value → Prop
  | ty (n : String) : ClsD (.ty n) (.type n)
  | own (C : Addr) : ClsD (.cls C) (.ref C)
theorem ClsD.v {K : PySem.W.Frag} {F H : Hp} {d : D} {cv : Value} {v : V} (h : ClsD d cv) (q : Vw K F H d v) : ClsV v cv := by
  cases h with
  | ty n => have q : v = .ty n := q; subst q; exact .ty n
  | own C => have q : v = .ref C := q; subst q; exact .own C
theorem ClsD.all {K : PySem.W.Frag} {F : Hp} : ∀ {ds : List D} {us : List Value} {vs : List V}, Paired ClsD ds us → DenAll K F ds vs → Paired ClsV vs us
  | _, _, _, .nil, h => by rw [show _ = [] from h]; exact .nil
  | _, _, _, .cons k ks, h => by
    obtain ⟨v, vs', rfl, q, r⟩ := h
    refine .cons ?_ (ClsD.all ks r)
    cases k with
    | ty n => have q : v = .ty n := q; subst q; exact .ty n
    | own C => have q : v = .ref C := q; subst q; exact .own C
theorem den_exAt {X : Cx} {K : PySem.W.Frag} {F H : Hp} {C : Addr} {fs : List (Str × D)} {v : V} (l : FLe F H) (h : Den K F (.exc C fs) v) : ∃ a, v = .ref a ∧ ExAt X H a C := by
  obtain ⟨a, d, gs, rfl, e1, e2, e3, e4⟩ := h
  exact ⟨a, rfl, exAt_of (l.eq e1) fun dx e => ⟨gs, l.eq (e2 dx e)⟩⟩
theorem b_isx {C : Addr} {fs : List (Str × D)} {cd : D} {cv : Value} {b : Bool} (hC : ExcC c.K C) (k : ClsD cd cv) (hb : PySem.W.kitOne c.K (.ref C) cv = some b) : Cb c (.builtin "isinstance") [.exc C fs, cd] (.bl b) := by
  intro F H vs Q l h q
  obtain ⟨v, _, rfl, hv, w, _, rfl, hw, rfl⟩ := h
  obtain ⟨a, d, gs, rfl, e1, e2, e3, e4⟩ := hv
  refine ⟨fun xs H Q => ∃ (a C : Addr) (c' : V) (cv : Value) (b : Bool) (d : Option Addr), xs = [.ref a, c'] ∧ ClsV c' cv ∧ ExcC c.K C ∧ PySem.W.kitOne c.K (.ref C) cv = some b ∧ H a = some (exo a C d) ∧ (∀ dx, d = some dx → ∃ gs, H dx = some (exd dx gs)) ∧ Q (.bl b) H, fun X ok => ?_, a, C, w, cv, b, d, rfl, k.v hw, hC, hb, l.eq e1, fun dx e => ⟨gs, l.eq (e2 dx e)⟩, q _ F H (.refl l) rfl⟩
  intro pins s σ H' xs us Q' I r ⟨a', C', c', cv', b', d', e, k1, k2, k3, k4, k5, k6⟩
  exact call_isx pins s σ H' xs us Q' I r ⟨a', C', c', cv', b', e, k1, by rw [ok.K]; exact k2, by rw [ok.K]; exact k3, exAt_of k4 k5, k6⟩
theorem b_isxT {C : Addr} {fs : List (Str × D)} {cds : List D} {cvs : List Value} {b : Bool} (hC : ExcC c.K C) (k : Paired ClsD cds cvs) (hb : PySem.W.kitAny c.K (.ref C) cvs = some b) : Cb c (.builtin "isinstance") [.exc C fs, .tup cds] (.bl b) := by
  intro F H vs Q l h q
  obtain ⟨v, _, rfl, hv, w, _, rfl, hw, rfl⟩ := h
  obtain ⟨a, d, gs, rfl, e1, e2, e3, e4⟩ := hv
  obtain ⟨tp, ws, rfl, t1, t2⟩ := hw
  refine ⟨fun xs H Q => ∃ (a C tp : Addr) (cs : List V) (us : List Value) (b : Bool) (d : Option Addr), xs = [.ref a, .ref tp] ∧ SqT c.K H tp cs ∧ Paired ClsV cs us ∧ ExcC c.K C ∧ PySem.W.kitAny c.K (.ref C) us = some b ∧ H a = some (exo a C d) ∧ (∀ dx, d = some dx → ∃ gs, H dx = some (exd dx gs)) ∧ Q (.bl b) H, fun X ok => ?_, a, C, tp, ws, cvs, b, d, rfl, l.tup t1, ClsD.all k t2, hC, hb, l.eq e1, fun dx e => ⟨gs, l.eq (e2 dx e)⟩, q _ F H (.refl l) rfl⟩
  intro pins s σ H' xs us Q' I r ⟨a', C', tp', cs', us', b', d', e, k0, k1, k2, k3, k4, k5, k6⟩
  exact call_isxT pins s σ H' xs us Q' I r ⟨a', C', tp', cs', us', b', e, by rw [ok.K]; exact k0, k1, by rw [ok.K]; exact k2, by rw [ok.K]; exact k3, exAt_of k4 k5, k6⟩
/-- a class of the text by its name -/
theorem E_cls (S : ScOk c vis loc gl) {x : Str} {pos : Pos} {C : Addr} (hx : x ∈ gl) (hm : c.mg x = some (.ref C)) : EvX c (.Name x pos) ρ (.d (.cls C)) ρ :=
  E_const (v := .ref C) (fun X ok => pe_glob (ok.glOf S hx) (by rw [ok.mg]; exact hm) rfl (S.glOf hx).2.1) fun _ => rfl
/-- a built-in class -/
theorem E_ty (S : ScOk c vis loc gl) {x : Str} {pos : Pos} {n : String} (hx : x ∈ gl) (hm : c.mg x = none) (hv : bootBuiltins x = some (.type n)) : EvX c (.Name x pos) ρ (.d (.ty n)) ρ :=
  E_const (v := .ty n) (fun X ok => pe_bltn (ok.glOf S hx) (by rw [ok.mg]; exact hm) hv rfl (S.glOf hx).2.2 (S.glOf hx).2.1) fun _ => rfl
end
end Fw

set_option Elab.async false
set_option maxRecDepth 100000
set_option maxHeartbeats 4000000
/-! Fw30: what the head tells of exceptions' classes. -/
namespace Fw
open PySem PySem.Spec PyProof.Rows L2
/-- .. of the class object at C -/
def oexB (K : PySem.W.Frag) (C : Addr) : Bool := match K.lookup C with
  | some ⟨.type t, _, .cls cd, sl⟩ => (match cd.mro, sl.toList with
    | .ref C' :: bm, [_, _, _, _, some (.builtin n), _] => decide (t = "type") && (decide (C' = C) && (decide (n = "ValueError.__new__") && (!cd.hasDel && (cd.hasDict && PySem.HandSPX.refsVE bm))))
    | _, _ => false)
  | _ => false
theorem and2 {a b : Bool} (h : (a && b) = true) : a = true ∧ b = true := Bool.and_eq_true_iff.mp h
theorem oexB_ok {K : PySem.W.Frag} {C : Addr} (h : oexB K C = true) : ∃ nm q N bs bm sn sub ab col dd k0 k1 k2 k3 k5, K.lookup C = some (excClassObj nm q C N bs bm true sn sub ab col dd k0 k1 k2 k3 k5 "ValueError.__new__") ∧ PySem.HandSPX.refsVE bm = true := by
  unfold oexB at h
  split at h
  · rename_i t dd cd sl ho
    split at h
    · rename_i C' bm k0 k1 k2 k3 n k5 hm hs
      obtain ⟨h1, h⟩ := and2 h
      obtain ⟨h2, h⟩ := and2 h
      obtain ⟨h3, h⟩ := and2 h
      obtain ⟨h4, h⟩ := and2 h
      obtain ⟨h5, h6⟩ := and2 h
      have h1 := of_decide_eq_true h1
      have h2 := of_decide_eq_true h2
      have h3 := of_decide_eq_true h3
      obtain ⟨nm, bs, mro, ns, qn, hd, sn, sb, ab, col, del⟩ := cd
      dsimp only at hm h4 h5
      subst h1 h2 h3
      subst hm
      subst h5
      have h4 : del = false := by simpa using h4
      subst h4
      obtain ⟨sl⟩ := sl
      dsimp only at hs
      subst hs
      exact ⟨nm, qn, ns, bs, bm, sn, sb, ab, col, dd, k0, k1, k2, k3, k5, ho, h6⟩
    · cases h
  · cases h
def exB (K : PySem.W.Frag) (C : Addr) : Bool :=
  oexB K C && (decide (PySem.W.findIn K (.ref C) "__setattr__" = some (some (.builtin "object.__setattr__"))) && (decide (PySem.W.subIn K (.ref C) (.type "BaseException") = some true) && (decide (PySem.W.typeIn K (.ref C) = some (.type "type")) && (PySem.W.keepIn K (.ref C) &&
  (decide (PySem.W.findIn K (.ref C) "__getattribute__" = some (some (.builtin "BaseException.__getattribute__"))) && (decide (PySem.W.findIn K (.ref C) "__getattr__" = some none) && (PySem.W.hasDictIn K C && (decide (PySem.W.findIn K (.ref C) "__class__" = some (some (.builtin "object.__class__"))) &&
  (decide (PySem.W.specialIn K (.builtin "object.__class__") "__get__" = some (some (.builtin "getset_descriptor.__get__"))) && (decide (PySem.W.takesIn K (.builtin "object.__class__") = some true) && decide (PySem.W.mroIn K C (.type "object") = some true)))))))))))
theorem exB_ok {K : PySem.W.Frag} {C : Addr} (h : exB K C = true) : ExK K C := by
  obtain ⟨h1, h⟩ := and2 h
  obtain ⟨h2, h⟩ := and2 h
  obtain ⟨h3, h⟩ := and2 h
  obtain ⟨h4, h⟩ := and2 h
  obtain ⟨h5, h⟩ := and2 h
  obtain ⟨h6, h⟩ := and2 h
  obtain ⟨h7, h⟩ := and2 h
  obtain ⟨h8, h⟩ := and2 h
  obtain ⟨h9, h⟩ := and2 h
  obtain ⟨h10, h⟩ := and2 h
  obtain ⟨h11, h12⟩ := and2 h
  exact ⟨⟨oexB_ok h1, of_decide_eq_true h2, of_decide_eq_true h3, of_decide_eq_true h4, h5⟩, ⟨of_decide_eq_true h6, of_decide_eq_true h7, of_decide_eq_true h3, h8, of_decide_eq_true h9, of_decide_eq_true h10, of_decide_eq_true h11, of_decide_eq_true h12⟩⟩
/-- a hook with further facts; the part holds sys.modules, too -/
def partF (n : Nat) (g : Addr → Option Obj) : PySem.W.Frag := He.frG g (sysModules :: He.asD g n)
def hookF (n : Nat) (fa : List He.Fa) (fn : List He.DefD) (fb : PySem.W.Frag → Bool) : PySem.W.Hook where
  α := He.AlD × Bool
  obs := fun s => (He.obsD fa fn (partF n s.heap.get?), fb (partF n s.heap.get?))
  val := fun _ => (He.valD fn, true)
  says := fun _ h => ∃ K : PySem.W.Frag, K.In h ∧ He.SaysD fa fn K ∧ fb K = true
  of := fun _ _ e => ⟨_, He.frG_in, congrArg (fun z : He.AlD × Bool => z.1) e, congrArg (fun z : He.AlD × Bool => z.2) e⟩
  keeps := fun _ _ _ ⟨K, hK, c⟩ k => ⟨K, PySem.W.Frag.In.keeps hK k, c⟩
def obsF (n : Nat) (fa : List He.Fa) (fn : List He.DefD) (fb : PySem.W.Frag → Bool) (g : Addr → Option Obj) : He.AlD × Bool := (He.obsD fa fn (partF n g), fb (partF n g))
theorem obsF_eq {n : Nat} {fa : List He.Fa} {fn : List He.DefD} {fb : PySem.W.Frag → Bool} {g : Addr → Option Obj} {s : Shared} (h : ∀ a, g a = s.heap.get? a) : obsF n fa fn fb g = (hookF n fa fn fb).obs s := by
  have e : g = s.heap.get? := funext h
  rw [e] <;> rfl
end Fw

set_option Elab.async false
set_option maxRecDepth 100000
set_option maxHeartbeats 4000000
/-! Fw31: repr of data (the empty dict among it), is True, True in l. -/
namespace Fw
open PySem PySem.Spec PyProof.Rows L2
mutual
def toR : D → PyData
  | .non => .none
  | .bl b => .bool b
  | .int i => .int i
  | .str x => .str x
  | .tup ds => .tuple (toRs ds)
  | .tun ds => .tuple (toRs ds)
  | .lst ds => .list (toRs ds)
  | .scr _ => .none
  | .dic _ _ => .dict []
  | .obj _ _ _ => .none
  | .exc _ _ => .none
  | .ty _ => .none
  | .cls _ => .none
  | .ptr _ => .none
def toRs : List D → List PyData
  | [] => []
  | d :: ds => toR d :: toRs ds
end
mutual
def isR : D → Bool
  | .non => true
  | .bl _ => true
  | .int _ => true
  | .str _ => true
  | .tup ds => isRs ds
  | .tun ds => isRs ds
  | .lst ds => isRs ds
  | .scr _ => false
  | .dic _ kvs => kvs.isEmpty
  | .obj _ _ _ => false
  | .exc _ _ => false
  | .ty _ => false
  | .cls _ => false
  | .ptr _ => false
def isRs : List D → Bool
  | [] => true
  | d :: ds => isR d && isRs ds
end
section
variable {X : Cx} {pins : List (Addr × Obj)} {σ : L2.St} {F H : Hp} {s : Shared}
theorem tup_reads (I : Inv X pins σ H s) {a : Addr} {vs : List V} {ds : List PyData} {u : Value} (q : SqT X.K H a vs) (ru : RelV (.ref a) u) (h : ∀ its, Vals vs its → ∃ as, ReadsAll s.heap its ds as ∧ sysModules ∉ as) : ∃ as, Reads s.heap u (.tuple ds) as ∧ sysModules ∉ as := by
  cases (show u = Value.ref a from ru)
  obtain ⟨its, rv, ⟨o, ho, hc, n, hd⟩, _⟩ := I.tuple q
  obtain ⟨as, hr, hn⟩ := h its rv
  exact ⟨as, Reads.tuple ho hc hd hr, hn⟩
theorem lst_reads (I : Inv X pins σ H s) (hm : H sysModules = none) {a : Addr} {vs : List V} {ds : List PyData} {u : Value} (q : H a = some (.lst vs)) (ru : RelV (.ref a) u) (h : ∀ its, Vals vs its → ∃ as, ReadsAll s.heap its ds as ∧ sysModules ∉ as) : ∃ as, Reads s.heap u (.list ds) as ∧ sysModules ∉ as := by
  cases (show u = Value.ref a from ru)
  obtain ⟨its, rv, ⟨o, n, ho, hc, _, hdt⟩, _⟩ := I.list (SqL.of q)
  obtain ⟨as, hr, hn⟩ := h its rv
  refine ⟨a :: as, Reads.list ho hc hdt hr, fun z => ?_⟩
  rcases List.mem_cons.mp z with e | z
  · rw [e, q] at hm; cases hm
  · exact hn z
theorem dic_reads (I : Inv X pins σ H s) {a : Addr} {u : Value} (q : Rd H a (.dK [])) (ru : RelV (.ref a) u) : ∃ as, Reads s.heap u (.dict []) as ∧ sysModules ∉ as := by
  cases (show u = Value.ref a from ru)
  obtain ⟨_, hs, vs, kv, o, es, ep, ho, hc, hdt, hk, hp, _⟩ := dk_rd I.hok q
  have ev : vs = [] := by cases kv; rfl
  subst ev
  have ee : es.toList = [] := by
    cases z : es.toList with
    | nil => rfl
    | cons y ys => rw [z] at hp; cases hp
  have e1 : ReadsAll s.heap (es.toList.map (·.key)) [] [] := by rw [ee]; exact .nil
  have e2 : ReadsAll s.heap (es.toList.map (·.val)) [] [] := by rw [ee]; exact .nil
  refine ⟨a :: [] ++ [], Reads.dict (kvs := []) ho hc.1 hdt e1 e2, fun z => ?_⟩
  have : sysModules = a := by simpa using z
  rw [this] at hs
  simp at hs
mutual
theorem reads_of (I : Inv X pins σ H s) (l : FLe F H) (hm : H sysModules = none) : ∀ (x : D) {v : V} {u : Value}, isR x = true → Den X.K F x v → RelV v u → ∃ as, Reads s.heap u (toR x) as ∧ sysModules ∉ as
  | .non, v, u, _, h, r => by cases (show v = .non from h); cases r; exact ⟨[], Reads.none, fun z => nomatch z⟩
  | .bl b, v, u, _, h, r => by cases (show v = .bl b from h); cases r; exact ⟨[], Reads.bool b, fun z => nomatch z⟩
  | .int i, v, u, _, h, r => by cases (show v = .int i from h); obtain ⟨t, rfl⟩ := r; exact ⟨[], Reads.int i t, fun z => nomatch z⟩
  | .str x, v, u, _, h, r => by cases (show v = .str x from h); obtain ⟨t, rfl⟩ := r; exact ⟨[], Reads.str x t, fun z => nomatch z⟩
  | .tup ds, v, u, p, h, r => by
    obtain ⟨a, vs, rfl, q, hd⟩ := h
    exact tup_reads I (l.tup q) r fun its rv => readsAll_of I l hm ds p hd rv
  | .tun ds, v, u, p, h, r => by
    obtain ⟨a, vs, rfl, q, hd⟩ := h
    exact tup_reads I (q.mono l).sq r fun its rv => readsAll_of I l hm ds p hd rv
  | .lst ds, v, u, p, h, r => by
    obtain ⟨a, vs, rfl, q, hd⟩ := h
    exact lst_reads I hm (l.eq q) r fun its rv => readsAll_of I l hm ds p hd rv
  | .dic lk kvs, v, u, p, h, r => by
    obtain ⟨a, kws, rfl, q, hd⟩ := h
    cases kvs with
    | cons y ys => cases p
    | nil =>
      cases (show kws = [] from hd)
      exact dic_reads I (q.mono l).rd r
  | .scr _, _, _, p, _, _ => by cases p
  | .obj _ _ _, _, _, p, _, _ => by cases p
  | .exc _ _, _, _, p, _, _ => by cases p
  | .ty _, _, _, p, _, _ => by cases p
  | .cls _, _, _, p, _, _ => by cases p
  | .ptr _, _, _, p, _, _ => by cases p
theorem readsAll_of (I : Inv X pins σ H s) (l : FLe F H) (hm : H sysModules = none) : ∀ (xs : List D) {vs : List V} {us : List Value}, isRs xs = true → DenAll X.K F xs vs → Vals vs us → ∃ as, ReadsAll s.heap us (toRs xs) as ∧ sysModules ∉ as
  | [], _, _, _, h, r => by
    rw [show _ = [] from h] at r
    cases r
    exact ⟨[], .nil, fun z => nomatch z⟩
  | x :: xs, _, _, p, h, r => by
    obtain ⟨v, vs', rfl, q, hr⟩ := h
    obtain ⟨p1, p2⟩ := and2 (show (isR x && isRs xs) = true from p)
    cases r with
    | cons rv rr =>
      obtain ⟨as, h1, n1⟩ := reads_of I l hm x p1 q rv
      obtain ⟨bs, h2, n2⟩ := readsAll_of I l hm xs p2 hr rr
      exact ⟨as ++ bs, .cons h1 h2, fun z => (List.mem_append.mp z).elim n1 n2⟩
end
end
/-- fit to be shown -/
structure Rp (x : D) : Prop where
  is : isR x = true
  sh : (toR x).showable = true
  dp : (toR x).depth ≤ 100
  sz : (toR x).shown.length ≤ sizeLine
def rpB (x : D) : Bool := isR x && ((toR x).showable && (decide ((toR x).depth ≤ 100) && decide ((toR x).shown.length ≤ sizeLine)))
theorem rpB_ok {x : D} (h : rpB x = true) : Rp x := by
  obtain ⟨h1, h⟩ := and2 h
  obtain ⟨h2, h⟩ := and2 h
  obtain ⟨h3, h4⟩ := and2 h
  exact ⟨h1, h2, of_decide_eq_true h3, of_decide_eq_true h4⟩
section
variable {c : CD} {ρ ρ1 ρ2 : Env'}
theorem b_repr (hK : (c.K.lookup sysModules).isSome = true) {x : D} (hx : Rp x) : Cb c (.builtin "repr") [x] (.str (toR x).shown) := by
  intro F H vs Q l h k
  obtain ⟨v, _, rfl, hv, rfl⟩ := h
  refine ⟨fun vs' H' Q' => vs' = [v] ∧ H' = H ∧ Q' (.str (toR x).shown) H, fun X ok => ?_, rfl, rfl, k _ F H (.refl l) rfl⟩
  intro pins s σ H' xs us Q' I r ⟨e1, e2, q⟩
  subst e1 e2
  obtain ⟨o, ho⟩ := Option.isSome_iff_exists.mp hK
  have hm : H' sysModules = none := (I.bs _ _ (I.ok.mod.kin _ _ (by rw [ok.K]; exact ho))).2
  cases r with
  | @cons _ u _ _ ru rr =>
    cases rr
    have rd : ∃ as, Reads s.heap u (toR x) as ∧ sysModules ∉ as := by
      cases x with
      | lst ds =>
        obtain ⟨a, vs, rfl, q1, hd⟩ := hv
        rw [← ok.K] at hd
        exact lst_reads I hm q1 ru fun its rv => readsAll_of I l hm ds hx.is hd rv
      | dic lk kvs =>
        obtain ⟨a, kws, rfl, q1, hd⟩ := hv
        cases kvs with
        | cons y ys => cases hx.is
        | nil =>
          cases (show kws = [] from hd)
          exact dic_reads I q1 ru
      | _ => exact reads_of I l hm _ hx.is (by rw [ok.K]; exact hv) ru
    obtain ⟨as, hr, hn⟩ := rd
    have hroom := ok.room.room.un
    have hdp := hx.dp
    have hsh := hx.sh
    have hsz := hx.sz
    generalize toR x = d at hr hdp hsh hsz q
    cases u with
    | ref a => exact repr_of_reads' hr hsh (fun _ => hn) ok.room.calm (by omega) (fun _ _ e => e) (fun h' u tk hk => ⟨.str _, H', I.kept (t' := tk) hk, ⟨_, rfl⟩, q⟩) hsz
    | none => cases hr; exact PySem.P.repr_of_none ⟨.str _, H', I.tok _, ⟨_, rfl⟩, q⟩
    | bool b => cases hr; exact PySem.P.repr_of_bool ⟨.str _, H', I.tok _, ⟨_, rfl⟩, q⟩
    | int i t => cases hr; exact PySem.P.repr_of_int (by simpa [PyData.showable] using hsh) ⟨.str _, H', I.tok _, ⟨_, rfl⟩, q⟩
    | str y t => cases hr; exact PySem.P.repr_of_str ⟨.str _, H', I.tok _, ⟨_, rfl⟩, q⟩ (by simpa only [PyData.shown] using hsz)
    | _ => cases hr
theorem inV_bl {y : Bool} : ∀ {xs : List Bool}, inV (.bl y) (xs.map V.bl) = decide (y ∈ xs)
  | [] => by simp [inV]
  | x :: xs => by
    have ih := inV_bl (y := y) (xs := xs)
    unfold inV at ih ⊢
    rw [List.map_cons, List.any_cons, ih]
    cases x <;> cases y
    · show (true || decide (false ∈ xs)) = _
      simp
    · show (false || decide (true ∈ xs)) = _
      simp
    · show (false || decide (false ∈ xs)) = _
      simp
    · show (true || decide (true ∈ xs)) = _
      simp
theorem o_isB {a b : Bool} : Op2 c (compareOp .Is) (.bl a) (.bl b) (.bl (decide (a = b))) := by
  intro F H vx vy Q l hx hy k
  have hx : vx = .bl a := hx
  have hy : vy = .bl b := hy
  subst hx hy
  exact ⟨_, fun X _ => op_is_bl, a, b, rfl, rfl, k _ F H (.refl l) rfl⟩
theorem o_inB {b : Bool} {bs : List Bool} : Op2 c (compareOp .In) (.bl b) (.lst (bs.map D.bl)) (.bl (decide (b ∈ bs))) := by
  intro F H vx vy Q l hx hy k
  have hx : vx = .bl b := hx
  subst hx
  obtain ⟨p, vs, rfl, q, r⟩ := seq_vw l (ds := bs.map D.bl) rfl hy
  rw [DenAll.bools.mp r] at q
  refine ⟨rIn c.K false, fun X ok => by have := op_in_seq (X := X); rw [ok.K] at this; exact this, p, _, rfl, q, rfl, by simp [List.all_map, Function.comp_def, flatV], k _ F H (.refl l) ?_⟩
  show V.bl (inV (.bl b) (bs.map V.bl)) = V.bl (decide (b ∈ bs))
  rw [inV_bl]
end
end Fw

set_option Elab.async false
set_option maxRecDepth 100000
set_option maxHeartbeats 4000000
/-! Fw32: unpacking of lists; own things whose address is told; == of a thing with itself; -n. -/
namespace Fw
open PySem PySem.Spec PyProof.Rows L2
section
variable {c : CD} {vis loc : List Nat} {gl : List Str} {ρ ρ1 ρ2 : Env'} {P : Out → Prop}
/-- a, b, .. = l, a list of data -/
theorem G_lst {vs : List Nat} {es : List Expr} {kk : _} {pos : Pos} {xs : List D} (h : EgsX c vs es ρ xs ρ1) (hp : ∀ X : Cx, ∀ (u : TGs), X.calm = true → PGs X es u → PG X (.Tuple es kk pos) (gLst X.K xs.length u)) : EgX c vs (.Tuple es kk pos) ρ (.lst xs) ρ1 := fun G F σ H v Q T hd k => by
  obtain ⟨a, ws, rfl, q, r⟩ := hd
  exact ⟨gLst c.K xs.length (tGs c es), fun X ok => by have := hp X (tGs c es) ok.calm (pgs_tGs ok es); rw [ok.K] at this; exact this, a, ws, rfl, SqL.of (T.fle.eq q), r.length, h G F σ H ws Q T r k⟩
/-- a, b, .. = o, o a path to a flat own list -/
theorem S_unp {vs : List Nat} {o : Expr} {es : List Expr} {kk : _} {tpos pos : Pos} {i : Nat} {p : List Pst} {bb : Option Addr} {t : Tr} {ds : List D} (ho : PaX c o ρ i p) (hr : ρ[i]? = some (.ot bb t)) (hpt : t.get p = some (.fl ds)) (h : EgsX c vs es ρ ds ρ2) (hp : P (.nx ρ2))
    (hg : ∀ X : Cx, ∀ (u : TGs), X.calm = true → PGs X es u → PG X (.Tuple es kk tpos) (gLst X.K ds.length u)) (hs : ∀ X : Cx, c.Ok X → swapsWithSole [.Tuple es kk tpos] o pos.line X.env = pure false) (hw : ∀ X : Cx, c.Ok X → swappedStores [.Tuple es kk tpos] o X.env = pure none)
    (h1 : ∀ X : Cx, (assignEach [.Tuple es kk tpos] X.env).map (·.2) = [assign (.Tuple es kk tpos) X.env]) : EsX1 c (.Assign [.Tuple es kk tpos] o pos) ρ P := fun G F σ H D T k => by
  refine ⟨tAsg (tE c o) (gLst c.K ds.length (tGs c es)), fun X ok => ps_asg (pe_tE ok o) (by have := hg X (tGs c es) ok.calm (pgs_tGs ok es); rw [ok.K] at this; exact this) (hs X ok) (hw X ok) (h1 X), ?_⟩
  refine ho G F σ H _ T fun v v0 F1 H1 g1 e0 f0 => ?_
  obtain ⟨a, ws, rfl, ha, hd, _⟩ := meth_run (ds' := ds) (T.grow g1) hr hpt e0 f0
  exact ⟨a, ws, rfl, SqL.of ha, hd.length, h G F1 σ H1 ws _ (T.grow g1) hd fun F2 σ2 H2 T2 s2 _ => k _ hp F2 σ2 H2 T2 (g1.step.trans s2)⟩
theorem set_self {α : Type} : ∀ {l : List α} {i : Nat} {x : α}, l[i]? = some x → l.set i x = l
  | [], _, _, h => by simp at h
  | y :: l, 0, x, h => by simp at h; rw [h]; rfl
  | y :: l, i + 1, x, h => by
    rw [List.set_cons_succ, set_self (by simpa using h)]
/-- the address of an own thing is told -/
theorem S_addr {st : List Stmt} {i : Nat} {t : Tr} (hr : ρ[i]? = some (.ot none t)) (hn : t.isN = true) (h : ∀ a, EsX c st (ρ.set i (.ot (some a) t)) P) : EsX c st ρ P := fun G F σ H D T k => by
  obtain ⟨ass, q, nd, fr⟩ := T.ents
  obtain ⟨o, as, e1, e2, v, rfl, hT, ob⟩ := q.at hr
  obtain ⟨a, rfl⟩ := OwnT.ref hn hT
  have q2 := EntsOk.set i q (e := .ot (some a) t) (o := some (.ref a)) (as := as) ⟨_, rfl, hT, (fun _ => ob.1 rfl), fun x e => by cases e; rfl⟩
  rw [set_self e1, set_self e2] at q2
  exact h a G F σ H D ⟨T.fle, T.fnt, T.keep, T.nf, T.dom, T.tabs, ass, q2, nd, fr⟩ k
theorem Stt.addr {Z : Zd} {G : Gd} {F H : Hp} {σ : L2.St} {ρ : Env'} (T : Stt Z G F σ H ρ) {i : Nat} {a : Addr} {t : Tr} (hr : ρ[i]? = some (.ot (some a) t)) : σ[i]? = some (some (.ref a)) := by
  obtain ⟨ass, q, nd, fr⟩ := T.ents
  obtain ⟨o, as, e1, e2, v, rfl, hT, ob⟩ := q.at hr
  rw [ob.2 a rfl] at e1
  exact e1
/-- a name's own thing as a pointer -/
theorem E_ptr (S : ScOk c vis loc gl) {x : Str} {pos : Pos} (i : Nat) {a : Addr} {t : Tr} (hr : ρ[i]? = some (.ot (some a) t)) (hN : c.N[i]? = some x) (hi : vis.contains i = true) : EvX c (.Name x pos) ρ (.d (.ptr a)) ρ := fun G F σ H Q T k => by
  obtain ⟨h1, h2, h3⟩ := S.visOf hi hN
  exact ⟨tVar i, fun X ok => pe_var (by rw [ok.N]; exact hN) (by rw [ok.sc]; exact h1) h2 h3, .ref a, T.addr hr, k _ F H T (.refl F H) rfl⟩
/-- x != y where both are the own flat list at slot i -/
theorem T_neS {e f : Expr} {pos : Pos} {i : Nat} {a : Addr} {ds : List D} (he : EvX c e ρ (.d (.ptr a)) ρ) (hf : EvX c f ρ (.d (.ptr a)) ρ) (hr : ρ[i]? = some (.ot (some a) (.fl ds))) (hp : isPys ds = true) (hs : SeqAt.shaped (.list (toPys ds)) = true) (hq : PyData.eqv (.list (toPys ds)) (.list (toPys ds)) = true)
    (hm : behindInMarks .NotEq f = false) : EtX c (.Compare e [.NotEq] [f] pos) ρ false ρ := fun G F σ H Q T k => by
  refine ⟨tTest (tOp (rNeD c.K) (tE c e) (tE c f)), fun X ok => pt_cmpR (by have := op_neD (X := X) ok.room1.units; rw [ok.K] at this; exact this) (pe_tE ok e) (pe_tE ok f) hm, ?_⟩
  refine he G F σ H _ T fun vx F1 H1 T1 s1 q1 => hf G F1 σ H1 _ T1 fun vy F2 H2 T2 s2 q2 => ?_
  have q1 : vx = .ref a := q1
  have q2 : vy = .ref a := q2
  subst q1 q2
  obtain ⟨b, ws, eb, hb, hd, _⟩ := meth_run (ds' := ds) T2 hr (p := []) rfl (T2.addr hr) rfl
  cases eb
  have dp : Dp c.K H2 (.ref a) (.list (toPys ds)) := .lst (SqL.of hb) (dps_of T2.fle ds ws hp hd)
  refine ⟨_, _, dp, dp, hs, hs, false, ?_, k F2 H2 T2 (s1.trans s2)⟩
  rw [hq]
  rfl
/-- -e -/
theorem E_neg {e : Expr} {pos : Pos} {i : Int} (h : EvX c e ρ (.d (.int i)) ρ1) : EvX c (.UnaryOp .USub e pos) ρ (.d (.int (-i))) ρ1 := fun G F σ H Q T k =>
  ⟨tUn (rU fun i => .int (-i)) (tE c e), fun X ok => pe_un un_neg (pe_tE ok e), h G F σ H _ T fun v F1 H1 T1 s1 q => ⟨i, q, k _ F1 H1 T1 s1 rfl⟩⟩
end
end Fw

set_option Elab.async false
set_option maxRecDepth 100000
set_option maxHeartbeats 4000000
/-! Fw33: small things for derivations that are printed. -/
namespace Fw
open PySem PySem.Spec PyProof.Rows L2
abbrev EaD (c : CD) (es : List Expr) (ρ : Env') (ds : List D) (ρ' : Env') : Prop := EaX c es ρ (ds.map Res.d) ρ'
section
variable {c : CD} {ρ ρ1 ρ2 : Env'}
theorem D_nil : EaD c [] ρ [] ρ := A_nil
theorem D_cons {e : Expr} {es : List Expr} {d : D} {ds : List D} (h : EvX c e ρ (.d d) ρ1) (h' : EaD c es ρ1 ds ρ2) (hs : ∀ X : Cx, starEach (e :: es) X.env = (false, eval e X.env) :: starEach es X.env) : EaD c (e :: es) ρ (d :: ds) ρ2 := A_cons h h' hs
theorem E_lstD {es : List Expr} {pos : Pos} {ds : List D} (h : EaD c es ρ ds ρ1) (hl : Nat.ble ds.length 1000 = true) : EvX c (.List es pos) ρ (.d (.lst ds)) ρ1 := E_lst h (Nat.le_of_ble_eq_true hl)
theorem E_lstN {es : List Expr} {pos : Pos} {ds : List D} (h : EaD c es ρ ds ρ1) (hl : Nat.ble ds.length 1000 = true) : EvX c (.List es pos) ρ (.fr (.fl ds)) ρ1 := E_lstF h (Nat.le_of_ble_eq_true hl)
theorem E_tupD {es : List Expr} {x1 : _} {pos : Pos} {ds : List D} (h : EaD c es ρ ds ρ1) (hl : Nat.ble ds.length 1000 = true) : EvX c (.Tuple es x1 pos) ρ (.d (.tup ds)) ρ1 := E_tup h (Nat.le_of_ble_eq_true hl)
end
theorem mem_of {gl : List Str} {x : Str} (i : Nat) (h : gl[i]? = some x) : x ∈ gl := List.mem_of_getElem? h
theorem scOk_of {c : CD} {vis loc : List Nat} {gl : List Str} (nd : c.N.Nodup) (kind : c.sc.kind = .function) (ok : scB c vis loc gl = true) : ScOk c vis loc gl := ⟨nd, kind, ok⟩
end Fw
namespace Fw
open PySem PySem.Spec PyProof.Rows L2
section
variable {c : CD} {ρ ρ1 ρ2 : Env'} {P : Out → Prop}
theorem T_is {e : Expr} {b b' : Bool} (h : EtX c e ρ b ρ1) (q : b = b') : EtX c e ρ b' ρ1 := q ▸ h
theorem E_is {e : Expr} {d d' : D} (h : EvX c e ρ (.d d) ρ1) (q : d = d') : EvX c e ρ (.d d') ρ1 := q ▸ h
theorem S_ifT {e : Expr} {a b : List Stmt} {pos : Pos} {t : Bool} (h : EtX c e ρ t ρ1) (q : t = true) (h1 : EsX c a ρ1 P) : EsX1 c (.If e a b pos) ρ P := S_if h (fun _ => h1) fun z => by rw [q] at z; cases z
theorem S_ifF {e : Expr} {a b : List Stmt} {pos : Pos} {t : Bool} (h : EtX c e ρ t ρ1) (q : t = false) (h2 : EsX c b ρ1 P) : EsX1 c (.If e a b pos) ρ P := S_if h (fun z => by rw [q] at z; cases z) fun _ => h2
theorem E_ifT {t a b : Expr} {pos : Pos} {u : Bool} {r : Res} (h : EtX c t ρ u ρ1) (q : u = true) (h1 : EvX c a ρ1 r ρ2) : EvX c (.IfExp t a b pos) ρ r ρ2 := E_if h (fun _ => h1) fun z => by rw [q] at z; cases z
theorem E_ifF {t a b : Expr} {pos : Pos} {u : Bool} {r : Res} (h : EtX c t ρ u ρ1) (q : u = false) (h2 : EvX c b ρ1 r ρ2) : EvX c (.IfExp t a b pos) ρ r ρ2 := E_if h (fun z => by rw [q] at z; cases z) fun _ => h2
end
end Fw

set_option Elab.async false
set_option maxRecDepth 100000
set_option maxHeartbeats 4000000
/-! Fw34: own exceptions raised: C(e), C(f = e), C(). -/
namespace Fw
open PySem PySem.Spec PyProof.Rows L2
section
variable {X : Cx} {pins : List (Addr × Obj)} {σ : L2.St} {H : Hp} {s : Shared} {C fI : Addr} {k : Nat} {fd : FuncData} {f : Str} {Qx : XK} {CX : CXT}
theorem xRaise {us bs : List Value} {kw : List (Str × Value)} {y : V} {u : Value} (T : OexC X.K C) (hno : PySem.W.findIn X.K (.ref C) f = some none) (iC : PySem.W.findIn X.K (.ref C) "__init__" = some (some (.ref fI))) (tI : PySem.W.typeIn X.K (.ref fI) = some (.type "function"))
    (F : FnK X.prog X.w X.K X.mg X.base CX k fI fd ["self", f] (SpXI X.K f)) (hr : Rm (k + 1) X.A) (hx : Passes CX X E0) (I : Inv X pins σ H s) (hl : us.length ≤ sizeLine) (hb : ∀ (s' : Shared) (x : Value), BindsTo s' fd ⟨x :: us, kw⟩ [(("self" : Str), x), (f, u)]) (r : RelV y u)
    (h : ∀ d H', H d = none → H' = upd H d (.xd [(f, y)]) → Qx (.ref C) (some d) H') : wpAny (model X.prog X.w) X.A (call (.ref C) us kw) (L2N.MkP X pins σ Qx) X.xe s := by
  obtain ⟨nm, q, N, bs', bm, sn, sub, ab, col, dd, k0, k1, k2, k3, k5, hC, hbm⟩ := T.cls
  obtain ⟨hp, g, dr, tk, os⟩ := s
  have hn : H (hp.objs.size + 1) = none := I.hok.fresh (Nat.le_succ _)
  have J := xLaid I us C
  have kk : ∀ b o, hp.get? b = some o → ((hp.push (PySem.W.kdv_tup us)).push (PySem.HandSPX.excO C hp.objs.size)).get? b = some o := fun _ _ y => Heap.get?_push_of_some _ (Heap.get?_push_of_some _ y)
  have rr : Vals [V.ref (hp.objs.size + 1), y] [Value.ref (hp.objs.size + 1), u] := .cons rfl (.cons r .nil)
  have sp0 : SpXI X.K f [V.ref (hp.objs.size + 1), y] (upd H (hp.objs.size + 1) (exo (hp.objs.size + 1) C none)) (fun v H2 => v = .non ∧ ∃ dx, H dx = none ∧ dx ≠ hp.objs.size + 1 ∧ H2 = upd (upd H dx (exd dx [(f, y)])) (hp.objs.size + 1) (exo (hp.objs.size + 1) C (some dx))) E0 := by
    refine ⟨_, C, y, rfl, T, hno, upd_same, fun dx ed ne => ⟨rfl, dx, ?_, ne, upd_xo ne⟩⟩
    rw [upd_ne ne] at ed
    exact ed
  refine wpAny_call (PySem.FwX.xCall PySem.F.excBase_ValueError (fun Y => PySem.HandSPX.refsVE_contains Y bm hbm) (I.kIn _ _ hC) (PySem.W.looks_findIn I.kIn iC) (fun self => PySem.W.bind_fn I.kIn self tI) hl
    (codeAny_mono (F.run _ X.stack _ _ ⟨Value.ref (hp.objs.size + 1) :: us, kw⟩ [Value.ref (hp.objs.size + 1), u] _ _ E0 (hr.make C us kw) (J.env0.make C us kw) (hb _ (Value.ref (hp.objs.size + 1))) rr sp0) fun r s' w => ?_))
  cases r with
  | error e => exact hx pins σ _ _ e s' J w
  | ok fl =>
    cases fl with
    | ret v =>
      obtain ⟨v0, H2, eo, eb, un, hok2, rv, ev, dx, ed, ne, eH⟩ := w
      subst ev
      obtain ⟨h2, g2, d2, t2, os'⟩ := s'
      have ea : H2 (hp.objs.size + 1) = some (exo (hp.objs.size + 1) C (some dx)) := by rw [eH, upd_same]
      have edx : H2 dx = some (exd dx [(f, y)]) := by rw [eH, upd_ne ne, upd_same]
      obtain ⟨t0, G2, J2, kG, ge, hoe, na⟩ := mk_end0 (d2 := d2) (t2 := t2) I (Nat.le_succ _) kk un hok2 eo eb ea edx ed
      refine ⟨rv, _, _, _, ⟨G2, g2, d2, t2, os'⟩, _, .ref C, some dx, rfl, J2, kG, ge, hoe, ⟨rfl, rfl, fun vs e => by cases e; rfl⟩, rfl, rfl, na, rfl, eb, raises_own T.exC T.tyC, h dx _ ed ?_⟩
      rw [eH]
      funext b
      by_cases b1 : b = dx
      · rw [b1, upd_same, upd_same]
      · rw [upd_ne b1, upd_ne b1]
        by_cases b2 : b = hp.objs.size + 1
        · rw [b2, del_same, hn]
        · rw [del_ne b2, upd_ne b2, upd_ne b1]
    | next => exact w.elim
    | brk => exact w.elim
    | cont => exact w.elim
theorem xRaise0 (T : OexC X.K C) (iC : PySem.W.findIn X.K (.ref C) "__init__" = some (some (.builtin "ValueError.__init__"))) (I : Inv X pins σ H s) (h : Qx (.ref C) none H) : wpAny (model X.prog X.w) X.A (call (.ref C) []) (L2N.MkP X pins σ Qx) X.xe s := by
  obtain ⟨nm, q, N, bs', bm, sn, sub, ab, col, dd, k0, k1, k2, k3, k5, hC, hbm⟩ := T.cls
  obtain ⟨hp, g, dr, tk, os⟩ := s
  have hn : H (hp.objs.size + 1) = none := I.hok.fresh (Nat.le_succ _)
  have J := xLaid I [] C
  have kk : ∀ b o, hp.get? b = some o → ((hp.push (PySem.W.kdv_tup [])).push (PySem.HandSPX.excO C hp.objs.size)).get? b = some o := fun _ _ y => Heap.get?_push_of_some _ (Heap.get?_push_of_some _ y)
  refine wpAny_call (PySem.FwX.xCall PySem.F.excBase_ValueError (fun Y => PySem.HandSPX.refsVE_contains Y bm hbm) (I.kIn _ _ hC) (PySem.W.looks_findIn I.kIn iC) (fun self => ?_) (Nat.zero_le _) ?_)
  · exact PySem.W.Looks.of_pure (by unfold bindSpecial; first | rfl | kernel_rfl)
  · obtain ⟨t1, ho⟩ := exo_at (e := hp.objs.size + 1) (C := C) (d := none) J.hok (by rw [upd_same])
    refine PySem.HandSPX.init_base PySem.F.excBase_ValueError (fun Y => PySem.HandSPX.refsVE_contains Y bm hbm) (J.kIn _ _ hC) ho (Nat.zero_le _) fun h' t2 kw hx => ⟨rfl, ?_⟩
    have new : hp.get? (hp.objs.size + 1) = none := by
      cases z : hp.get? (hp.objs.size + 1) with
      | none => rfl
      | some o => exact absurd (Heap.lt_size z) (Nat.not_lt.mpr (Nat.le_succ _))
    exact ⟨_, _, _, ⟨hp, g, dr, tk, os⟩, H, .ref C, none, rfl, I, fun b o e => kw b o (fun z => by rw [z, new] at e; cases e) (kk b o e), new, hx, ⟨rfl, rfl, fun vs e => by cases e; rfl⟩, rfl, rfl, hn, rfl, J.bare, raises_own T.exC T.tyC, h⟩
end
theorem passE0 {P : Program} {w : World} {X : Cx} : Passes (L2.CX P w) X E0 := fun _ _ _ _ _ _ _ h => by
  obtain ⟨_, _, _, _, _, _, _, _, _, _, _, _, z⟩ := h
  exact z.elim
theorem sky_mono {B h : Heap} {l : List Env} {a L : Addr} {Z Z' : Obj → Prop} (hZ : ∀ o, Z o → Z' o) (x : Sky B l a Z L h) : Sky B l a Z' L h := by
  have tr : ∀ {fl : Value}, PySem.HandSPX.TracedZ h B a Z fl → PySem.HandSPX.TracedZ h B a Z' fl := fun ⟨oe, vs, T, oT, ts, y1, y2, y3⟩ => ⟨oe, vs, T, oT, ts, y1, hZ _ y2, y3⟩
  rcases x with ⟨y1, y2, y3, oe, vs, y4, y5, y6⟩ | ⟨y1, y2, y3, y4⟩ | ⟨y1, y2, y3, y4⟩
  · exact .inl ⟨y1, y2, y3, oe, vs, y4, hZ _ y5, y6⟩
  · exact .inr (.inl ⟨y1, y2, y3, tr y4⟩)
  · exact .inr (.inr ⟨y1, y2, y3, tr y4⟩)
theorem takes_ctx {X : Cx} {W : WX} (t : L2.Takes X W) : L2N.Takes X W := fun u s' ⟨a, B, sI, pins, σ, H, cls, d, y1, y2, y3, y4, sky, y5⟩ =>
  t u s' ⟨a, B, sI, pins, σ, H, cls, d, y1, y2, y3, y4, sky_mono (fun _ => L2N.Zn.zc) sky, y5⟩
section
variable {Z : Zd} {X : Cx}
/-- X stands over Z -/
structure Over (Z : Zd) (X : Cx) : Prop where
  P : X.prog = Z.P
  w : X.w = Z.w
  K : X.K = Z.K
  mg : X.mg = Z.mg
  base : X.base = Z.base
/-- an exception's field as it is raised -/
def tXr (f : Str) (C : Addr) (te : TE) : L2.St → Hp → XK → Prop := fun σ H Q => te σ H fun y H1 => ∀ d H', H1 d = none → H' = upd H1 d (.xd [(f, y)]) → Q (.ref C) (some d) H'
theorem pmk_x (o : Over Z X) {k : Nat} {x : Str} {C : Addr} {f : Str} (hk : KnE Z k x C f) (hr : Rm (k + 1) X.A) (hg : Gl X x) (hd : (x == ("__debug__" : Str)) = false) {e : Expr} {p pos : Pos} {te : TE} (ha : PE X e te)
    (he : starEach [e] X.env = (false, eval e X.env) :: starEach [] X.env) (hpl : (backTo pos (starEach [] X.env)).any (·.1) = false) : L2N.PMk X (.Call (.Name x p) [e] [] pos) (tXr f C te) := by
  obtain ⟨fI, fd, iC, tI, F, hb, _⟩ := hk.ini
  intro pins s σ H Q I h
  have F' : FnK X.prog X.w X.K X.mg X.base (L2.CX X.prog X.w) k fI fd ["self", f] (SpXI X.K f) := by rw [o.P, o.w, o.K, o.mg, o.base]; exact F
  refine wpAny_Call_Name_kw (ld_glob I hg (by rw [o.mg]; exact hk.mg) (PySem.W.callWith_K (h₀ := X.base) I.ok.mod.kin (by rw [o.K]; exact hk.kp) (thn ((pa_cons ha pa_nil he).run pos pins s σ H (fun vs H1 => ∃ y, vs = [y] ∧ ∀ d H', H1 d = none → H' = upd H1 d (.xd [(f, y)]) → Q (.ref C) (some d) H') I ?_) fun us s1 hs => ?_) he hpl) hd)
  · have h2 : te σ H fun y H1 => ∃ z, [y] = [z] ∧ ∀ d H', H1 d = none → H' = upd H1 d (.xd [(f, z)]) → Q (.ref C) (some d) H' := by
      have e : (fun y H1 => ∃ z : V, [y] = [z] ∧ ∀ d H', H1 d = none → H' = upd H1 d (.xd [(f, z)]) → Q (.ref C) (some d) H') = (fun (y : V) (H1 : Hp) => ∀ d H', H1 d = none → H' = upd H1 d (.xd [(f, y)]) → Q (.ref C) (some d) H') := by
        funext y H1
        refine propext ⟨fun ⟨z, e, q⟩ => ?_, fun q => ⟨y, rfl, q⟩⟩
        cases e
        exact q
      rw [e]
      exact h
    exact h2
  · obtain ⟨vs, H1, I1, r, y, rfl, q⟩ := hs
    refine ⟨I1.kIn, ?_⟩
    cases r with
    | @cons _ u _ _ ru rr =>
      cases rr
      exact xRaise (us := [u]) (kw := []) (bs := [u]) (by rw [o.K]; exact hk.c.o) (by rw [o.K]; exact hk.no) (by rw [o.K]; exact iC) (by rw [o.K]; exact tI) F' hr passE0 I1 (by simp [sizeLine_eq]) (fun s' x => hb s' x u) ru q
theorem pmk_xK (o : Over Z X) {k : Nat} {x : Str} {C : Addr} {f : Str} (hk : KnE Z k x C f) (hr : Rm (k + 1) X.A) (hg : Gl X x) (hd : (x == ("__debug__" : Str)) = false) {e : Expr} {p kpos pos : Pos} {te : TE} (ha : PE X e te)
    (hall : (backToKw pos (keywordEach [⟨some f, e, kpos⟩] X.env)).all (·.1.isSome) = true) (hks : (backToKw pos (keywordEach [⟨some f, e, kpos⟩] X.env)).filterMap (·.1) = [f])
    (hpl : ((backTo pos (starEach [] X.env)).any (·.1) || (backToKw pos (keywordEach [⟨some f, e, kpos⟩] X.env)).any (·.1.isNone)) = false) : L2N.PMk X (.Call (.Name x p) [] [⟨some f, e, kpos⟩] pos) (tXr f C te) := by
  obtain ⟨fI, fd, iC, tI, F, _, hb⟩ := hk.ini
  intro pins s σ H Q I h
  have F' : FnK X.prog X.w X.K X.mg X.base (L2.CX X.prog X.w) k fI fd ["self", f] (SpXI X.K f) := by rw [o.P, o.w, o.K, o.mg, o.base]; exact F
  refine wpAny_Call_Name_kw (ld_glob I hg (by rw [o.mg]; exact hk.mg) (PySem.W.callWith_KW0 (h₀ := X.base) I.ok.mod.kin (by rw [o.K]; exact hk.kp) hall (thn ((pk_cons (kpos := kpos) (nm := some f) ha (pk_nil (X := X))).run pos pins s σ H (fun vs H1 => ∃ y, vs = [y] ∧ ∀ d H', H1 d = none → H' = upd H1 d (.xd [(f, y)]) → Q (.ref C) (some d) H') I ?_) fun us s1 hs => ?_) hpl) hd)
  · have h2 : te σ H fun y H1 => ∃ z, [y] = [z] ∧ ∀ d H', H1 d = none → H' = upd H1 d (.xd [(f, z)]) → Q (.ref C) (some d) H' := by
      have e : (fun y H1 => ∃ z : V, [y] = [z] ∧ ∀ d H', H1 d = none → H' = upd H1 d (.xd [(f, z)]) → Q (.ref C) (some d) H') = (fun (y : V) (H1 : Hp) => ∀ d H', H1 d = none → H' = upd H1 d (.xd [(f, y)]) → Q (.ref C) (some d) H') := by
        funext y H1
        refine propext ⟨fun ⟨z, e, q⟩ => ?_, fun q => ⟨y, rfl, q⟩⟩
        cases e
        exact q
      rw [e]
      exact h
    exact h2
  · obtain ⟨vs, H1, I1, r, y, rfl, q⟩ := hs
    refine ⟨I1.kIn, ?_⟩
    rw [hks]
    cases r with
    | @cons _ u _ _ ru rr =>
      cases rr
      exact xRaise (us := []) (kw := [(f, u)]) (bs := [u]) (by rw [o.K]; exact hk.c.o) (by rw [o.K]; exact hk.no) (by rw [o.K]; exact iC) (by rw [o.K]; exact tI) F' hr passE0 I1 (Nat.zero_le _) (fun s' x => hb s' x u) ru q
theorem pmk_x0 (o : Over Z X) {x : Str} {C : Addr} (hk : KnE0 Z x C) (hg : Gl X x) (hd : (x == ("__debug__" : Str)) = false) {p pos : Pos} : L2N.PMk X (.Call (.Name x p) [] [] pos) (fun _ H Q => Q (.ref C) none H) := by
  intro pins s σ H Q I h
  exact wpAny_Call_Name_kw (ld_glob I hg (by rw [o.mg]; exact hk.mg) (PySem.W.callWith_K0 I.kIn (by rw [o.K]; exact hk.kp) (xRaise0 (by rw [o.K]; exact hk.c.o) (by rw [o.K]; exact hk.ini) I h)) hd)
end
end Fw

set_option Elab.async false
set_option maxRecDepth 100000
set_option maxHeartbeats 4000000
/-! Fw35: defs called while an exception is handled: the exception is known to what is promised. -/
namespace Fw
open PySem PySem.Spec PyProof.Rows L2
/-- what a def promises of the handled exception p -/
structure FnE (P : Program) (w : World) (K : PySem.W.Frag) (mg : Str → Option Value) (base : Heap) (k : Nat) (f : Addr) (fd : FuncData) (ps : List Str) (sp : Addr × Obj → Sp) : Prop where
  len : ∀ p vs H Q E, sp p vs H Q E → vs.length = ps.length
  run : ∀ (p : Addr × Obj) (A : Around) (outer : List Env) (s : Shared) (H : Hp) (args : Args) (us : List Value) (vs : List V) (Q : VK), L2H.RoomH k A → L2H.Hot1 A p → L2H.PinOk outer H s p → Env0 P w K mg base A outer s H → BindsTo s fd args (ps.zip us) → Vals vs us →
    sp p vs H Q E0 → codeAny (model P w) A (.call (.ref f) args) (CR (L2.CX P w) outer P w H s Q E0) s
theorem fnE_of {P : Program} {w : World} {K : PySem.W.Frag} {mg : Str → Option Value} {base : Heap} {x qual : Str} {params : Arguments} {body : List Stmt} {scope : Scope} {dvs : List V} {kws : List (Str × V)} {f : Addr} {fd : FuncData} {N ps : List Str} {k : Nat} {sp : Addr × Obj → Sp}
    (F : FunD K x qual params body scope dvs kws f fd) (S : FnScope N ps scope) (len : ∀ p vs H Q E, sp p vs H Q E → vs.length = ps.length)
    (hb : ∀ (cdv : Value) (A : Around) (outer : List Env) (s : Shared) (H : Hp) (vs : List V) (Q : VK) (p : Addr × Obj), L2H.Hot1 A p → L2H.RoomH k (A.deeper (envOfC qual scope s.heap.objs.size f cdv)) → sp p vs H Q E0 →
      ∃ t, PSs (L2H.cxH (L2.CX P w) P w K mg base N qual scope f cdv A outer s H E0 p) body t ∧ t { nx := fun _ H' => Q .non H', rt := Q } (L2.start N vs) H) : FnE P w K mg base (k + 1) f fd ps sp := by
  refine ⟨len, fun p A outer s H args us vs Q hr hot hpin e0 hbt r hsp => ?_⟩
  obtain ⟨oc, od, dV, kV, doc, pm, an, cdv, ct, osl, rfl, lk, hcd, _, _⟩ := F.ex
  have hl := len _ _ _ _ _ hsp
  have KX : K.In s.heap := e0.mod.kin.keeps fun b o e => (e0.bs b o e).1
  have lim := e0.mod.nolimit.keeps fun b o e => (e0.bs b o e).1
  have hkind : ∀ y ∈ ps.zip us, scope.names.lookup y.1 = some .local ∨ (scope.names.lookup y.1 = some .cell ∧ ((cellsFrom (s.heap.objs.size + 1) scope.names []).lookup y.1).isSome = true) := by
    intro y hy
    rcases S.par y.1 (List.of_mem_zip hy).1 with q | q
    · exact .inl q
    · exact .inr ⟨q, PySem.W.cellsFrom_some _ _ _ (.inl q)⟩
  refine codeAny_call_function hr.depth (KX _ _ lk) rfl S.co S.gen rfl (PySem.W.codeRec_of KX hcd) (hbt _ _ _ _ ?_)
  refine wpAny_newFunctionEnv_cells S.kind hkind fun env he s1 y => ?_
  subst he
  obtain ⟨t, ht, hq⟩ := hb cdv A outer s H vs Q p hot (hr.deeper _) hsp
  have J : Inv (L2H.cxH (L2.CX P w) P w K mg base N qual scope f cdv A outer s H E0 p) [] (L2.start N vs) H s1 := L2H.inv_startH S hpin e0 hl r y
  refine ⟨lim.keeps y.toInCall.keep, codeAny_func (wpAny_mono (ht.run [] s1 (L2.start N vs) H _ J hq) (fun fl s' hs => ?_) fun _ _ z => z)⟩
  cases fl with
  | ret u =>
    obtain ⟨v, σ', H', J2, rv, q⟩ := hs
    exact ⟨v, H', J2.os, J2.bare, J2.base, J2.hok, rv, q⟩
  | next =>
    obtain ⟨σ', H', J2, q⟩ := hs
    exact ⟨.non, H', J2.os, J2.bare, J2.base, J2.hok, rfl, q⟩
  | brk =>
    obtain ⟨_, _, _, q⟩ := hs
    exact q.elim
  | cont =>
    obtain ⟨_, _, _, q⟩ := hs
    exact q.elim
section
variable {X : Cx} {k : Nat} {f : Addr} {fd : FuncData} {ps : List Str} {sp : Addr × Obj → Sp} {x : Str} {q pos : Pos} {e : Expr} {es : List Expr} {t : TA} {p : Addr × Obj}
theorem pe_callE (F : FnE X.prog X.w X.K X.mg X.base k f fd ps sp) (hr : L2H.RoomH k X.A) (hot : L2H.Hot1 X.A p) (hp : p ∈ X.pn) (hg : Gl X x) (hm : X.mg x = some (.ref f)) (hk : PySem.W.keepIn X.K (.ref f) = true) (hb : Binds X.K fd ps [])
    (ha : PA X (e :: es) t) (hdb : (x == ("__debug__" : Str)) = false) (he : starEach (e :: es) X.env = (false, eval e X.env) :: starEach es X.env) (hpl : (backTo pos (starEach es X.env)).any (·.1) = false) :
    PE X (.Call (.Name x q) (e :: es) [] pos) (tCall (sp p) [] E0 t) := by
  refine ⟨fun pins s σ H Q I h => wpAny_Call_Name_kw (ld_glob I hg hm (PySem.W.callWith_K (h₀ := X.base) I.ok.mod.kin hk (thn (ha.run pos pins s σ H _ I h) fun us s1 hs => ?_) he hpl) hdb)⟩
  obtain ⟨vs, H1, I1, r, w⟩ := hs
  rw [List.append_nil] at w
  refine ⟨I1.kIn, ?_⟩
  have hl : us.length = ps.length := by rw [← r.length]; exact F.len _ _ _ _ _ w
  have b := hb s1 us I1.kIn (by rw [List.append_nil]; exact hl)
  rw [List.append_nil] at b
  have P1 := I1.pin p (List.mem_append_left _ hp)
  have hpin : L2H.PinOk X.stack H1 s1 p := ⟨P1.1, P1.2.1, fun hm => (List.mem_cons.mp (I1.stkSub p.1 hm)).elim P1.2.2.1 P1.2.2.2.1, P1.2.2.2.2⟩
  refine wpAny_call (codeAny_mono (F.run p X.A X.stack s1 H1 ⟨us, []⟩ us vs Q hr hot hpin I1.env0 b r w) fun r s' hq => ?_)
  cases r with
  | error er =>
    obtain ⟨_, _, _, _, _, _, _, _, _, _, _, _, z⟩ := hq
    exact z.elim
  | ok fl =>
    cases fl with
    | ret u => exact I1.after hq
    | next => exact hq.elim
    | brk => exact hq.elim
    | cont => exact hq.elim
/-- a handled exception's fields stand still -/
def XdH (d : Option Addr) (H : Hp) : Prop := ∀ dx, d = some dx → ∃ fs, H dx = some (.xd fs)
theorem XdH.mono {d : Option Addr} {H H' : Hp} (l : FLe H H') (h : XdH d H) : XdH d H' := fun dx e => (h dx e).imp fun _ z => l.eq z
theorem exAt_pin {H : Hp} {C : Addr} {d : Option Addr} (hp : p ∈ X.pn) (hz : Zc (.ref C) d p.2) (hf : ∃ vs, p.2.data = .fields vs) (hd : XdH d H) : ExAt X H p.1 C := fun pins σ s I => by
  obtain ⟨hget, _⟩ := I.pin p (List.mem_append_left _ hp)
  obtain ⟨vs, hv⟩ := hf
  have no : PySem.W.notCls p.2 = true := by unfold PySem.W.notCls; rw [hv] <;> rfl
  cases d with
  | none => exact ⟨p.2, none, hget, hz.1, no, by rw [hz.2]; trivial⟩
  | some dx =>
    obtain ⟨fs, ed⟩ := hd dx rfl
    have hx : ObjOk X.prog X.w H s.heap dx (.xd fs) := I.hok dx _ ed
    obtain ⟨mA, ⟨o, _, _, e1, _⟩, _⟩ := hx
    exact ⟨p.2, some o, hget, hz.1, no, by rw [hz.2]; exact e1⟩
/-- isinstance(e, c), e at slot i -/
def tI1 (X : Cx) (i : Nat) (a C : Addr) (b : Bool) : TE := fun σ H Q => σ[i]? = some (some (.ref a)) ∧ ExAt X H a C ∧ Q (.bl b) H
def tIs (X : Cx) (i : Nat) (a C : Addr) (bs : List Bool) : TA := fun σ H Q => (bs ≠ [] → σ[i]? = some (some (.ref a)) ∧ ExAt X H a C) ∧ Q (bs.map V.bl) H
theorem pe_i1 {i : Nat} {a C : Addr} {b : Bool} {z y : Str} {cv : V} {cu : Value} {p0 p1 p2 pos : Pos} (hN : X.N[i]? = some z) (hv : Vis X.env.scope z) (h1 : (z == ("__debug__" : Str)) = false) (h2 : (z == ("__classdict__" : Str)) = false) (hg : Gl X "isinstance") (hm : X.mg "isinstance" = none)
    (hc : PE X (.Name y p2) (tC cv)) (hk : ClsV cv cu) (hC : ExcC X.K C) (hb : PySem.W.kitOne X.K (.ref C) cu = some b)
    (hs : starEach [.Name z p1, .Name y p2] X.env = (false, eval (.Name z p1) X.env) :: starEach [.Name y p2] X.env) (hs2 : starEach [.Name y p2] X.env = (false, eval (.Name y p2) X.env) :: starEach [] X.env) (hpl : (backTo pos (starEach [.Name y p2] X.env)).any (·.1) = false) :
    PE X (.Call (.Name "isinstance" p0) [.Name z p1, .Name y p2] [] pos) (tI1 X i a C b) := by
  have pc := pe_callB (p := p0) (pos := pos) call_isx hg hm rfl (pa_cons (pe_var (pos := p1) hN hv h1 h2) (pa_cons hc pa_nil hs2) hs) (by decide) (by decide) hs hpl
  refine ⟨fun pins s σ H Q I h => pc.run pins s σ H Q I ?_⟩
  obtain ⟨e1, e2, q⟩ := h
  exact ⟨.ref a, e1, a, C, cv, cu, b, rfl, hk, hC, hb, e2, q⟩
theorem pa_is0 {i : Nat} {a C : Addr} : PA X [] (tIs X i a C []) := ⟨fun pos pins s σ H Q I h => (pa_nil (X := X)).run pos pins s σ H Q I h.2⟩
theorem pa_is {i : Nat} {a C : Addr} {b : Bool} {bs : List Bool} {e : Expr} {es : List Expr} (h : PE X e (tI1 X i a C b)) (h' : PA X es (tIs X i a C bs)) (hs : starEach (e :: es) X.env = (false, eval e X.env) :: starEach es X.env) : PA X (e :: es) (tIs X i a C (b :: bs)) := by
  refine ⟨fun pos pins s σ H Q I w => (pa_cons h h' hs).run pos pins s σ H Q I ?_⟩
  obtain ⟨w1, q⟩ := w
  obtain ⟨e1, e2⟩ := w1 (by simp)
  exact ⟨e1, e2, fun _ => ⟨e1, e2⟩, q⟩
end
end Fw
namespace Fw
open PySem PySem.Spec PyProof.Rows L2
theorem grow_fle {Z : Zd} {F H H' : Hp} (l0 : FLe F H) (l : FLe H H') : Grow Z F H F H' :=
  ⟨fun b o e _ => l b o e, .refl F, l0.trans l, fun _ _ e => e, (fun a h => by
    cases e : H a with
    | none => exact absurd e h
    | some o => rw [l a o e]; exact fun z => nomatch z), fun t => t.ext fun b o e => l b o e, fun h => h⟩
theorem pe_weak {X : Cx} {e : Expr} {t t' : TE} (h : PE X e t) (i : ∀ σ H Q, t' σ H Q → t σ H Q) : PE X e t' := ⟨fun pins s σ H Q I w => h.run pins s σ H Q I (i σ H Q w)⟩
/-- if w == k: raise .. -/
def tW1 (i : Nat) (k : Int) (R : L2.St → Hp → Prop) : TS := fun D σ H => ∃ w : Int, σ[i]? = some (some (.int w)) ∧ ((w = k ∧ R σ H) ∨ (w ≠ k ∧ D.nx σ H))
theorem ps_w1 {X : Cx} {i : Nat} {k : Int} {y : Str} {j : Nat} {p1 p2 p3 p4 : Pos} {st : Stmt} {R : L2.St → Hp → Prop} (hN : X.N[i]? = some y) (hv : Vis X.env.scope y) (h1 : (y == ("__debug__" : Str)) = false) (h2 : (y == ("__classdict__" : Str)) = false) (h : PS X st (fun _ σ H => R σ H)) :
    PS X (.If (.Compare (.Name y p1) [.Eq] [.Constant (.int k) j p2] p3) [st] [] p4) (tW1 i k R) := by
  have ps := ps_if (pos := p4) (pt_cmpR (pos := p3) op_eq (pe_var (i := i) (pos := p1) hN hv h1 h2) (pe_int (i := k) (j := j) (pos := p2)) rfl) (pss_one h) (pss_nil (X := X))
  refine ⟨fun pins s σ H D I w => ps.run pins s σ H D I ?_⟩
  obtain ⟨n, e, q⟩ := w
  refine ⟨.int n, e, rfl, decide (V.int n = V.int k), rfl, ?_⟩
  rcases q with ⟨z, q⟩ | ⟨z, q⟩
  · rw [z, decide_eq_true rfl, if_pos rfl]
    exact q
  · rw [decide_eq_false (fun y => z (V.int.inj y)), if_neg Bool.false_ne_true]
    exact q
end Fw

set_option Elab.async false
set_option maxRecDepth 100000
set_option maxHeartbeats 4000000
/-! Fw36: isinstance of data; own exceptions raised, over data; signs in texts. -/
namespace Fw
open PySem PySem.Spec PyProof.Rows L2
/-- a datum's built-in type -/
def tyn : D → Option String
  | .non => some "NoneType"
  | .bl _ => some "bool"
  | .int _ => some "int"
  | .str _ => some "str"
  | .tup _ => some "tuple"
  | .tun _ => some "tuple"
  | .lst _ => some "list"
  | .dic _ _ => some "dict"
  | _ => none
theorem tyx_tup {K : PySem.W.Frag} {H : Hp} {a : Addr} {vs : List V} (q : SqT K H a vs) : TyX K H (.ref a) (.type "tuple") := by
  rcases q with (q | ⟨o, q⟩) | ⟨o, its, n, hk, hc, _⟩
  · exact .base (.tup q)
  · exact .fTuple q
  · exact .kTuple hk hc
theorem tyx_vw {K : PySem.W.Frag} {F H : Hp} (l : FLe F H) {x : D} {v : V} {n : String} (h : tyn x = some n) (q : Vw K F H x v) : TyX K H v (.type n) := by
  cases x with
  | non => cases h; cases (show v = .non from q); exact .base .non
  | bl b => cases h; cases (show v = .bl b from q); exact .base (.bl b)
  | int i => cases h; cases (show v = .int i from q); exact .base (.int i)
  | str i => cases h; cases (show v = .str i from q); exact .base (.str i)
  | tup ds => cases h; obtain ⟨a, vs, rfl, q, _⟩ := q; exact tyx_tup (l.tup q)
  | tun ds => cases h; obtain ⟨a, vs, rfl, q, _⟩ := q; exact tyx_tup (q.mono l).sq
  | lst ds => cases h; obtain ⟨a, vs, rfl, q, _⟩ := q; exact .base (.lst q)
  | dic lk ds =>
    cases h
    obtain ⟨a, vs, rfl, q, _⟩ := q
    rcases q with q | ⟨o, q⟩
    · exact .base (.dK q)
    · exact .fDict q
  | _ => cases h
section
variable {c : CD} {vis loc : List Nat} {gl : List Str} {ρ ρ1 ρ2 : Env'} {P : Out → Prop}
theorem b_isD {x : D} {n T : String} {b : Bool} (h : tyn x = some n) (hb : kitB n T = some b) : Cb c (.builtin "isinstance") [x, .ty T] (.bl b) := by
  intro F H vs Q l hv q
  obtain ⟨v, _, rfl, h1, w, _, rfl, h2, rfl⟩ := hv
  have h2 : w = .ty T := h2
  subst h2
  exact ⟨rIsi c.K, fun X ok => by have := call_isi (X := X); rw [ok.K] at this; exact this, v, .ty T, .type n, .type T, b, rfl, .ty T, tyx_vw l h h1, kit_ty hb, q _ F H (.refl l) rfl⟩
theorem pmk_down {X : Cx} {e : Expr} {t : L2.St → Hp → XK → Prop} (h : L2N.PMk X e t) : L2.PMk X e t := fun pins s σ H Q I w => wpAny_mono (h pins s σ H Q I w) (fun u s' ⟨a, oe, vs, sI, H', cls, d, y1, y2, y3, y4, y5, y6, y7⟩ => ⟨a, oe, vs, sI, H', cls, d, y1, y2, y3, y4, y5, y6.zc, y7⟩) fun _ _ z => z
theorem overOf {X : Cx} (ok : c.Ok X) : Over c.z X := ⟨ok.P, ok.w, ok.K, ok.mg, ok.base⟩
/-- raise C(e) -/
theorem S_raise (S : ScOk c vis loc gl) {k : Nat} {x : Str} {C : Addr} {f : Str} (hk : KnE c.z k x C f) (hj : k < c.k) {e : Expr} {p pos pos2 : Pos} {y : D} (h : EvX c e ρ (.d y) ρ1) (hx : x ∈ gl)
    (he : ∀ X : Cx, starEach [e] X.env = (false, eval e X.env) :: starEach [] X.env) (hpl : ∀ X : Cx, (backTo pos (starEach [] X.env)).any (·.1) = false) (hp : P (.rz (.ref C) [(f, y)] ρ1)) : EsX1 c (.Raise (some (.Call (.Name x p) [e] [] pos)) none pos2) ρ P := fun G F σ H D T kk => by
  refine ⟨fun _ σ H => tXr f C (tE c e) σ H fun cls d H' => c.E cls d H', fun X ok => ps_raise ok.calm ok.tk (pmk_down (pmk_x (overOf ok) hk (ok.room.mono hj) (ok.glOf S hx) (S.glOf hx).2.1 (pe_tE ok e) (he X) (hpl X))), h G F σ H _ T fun v F1 H1 T1 s1 q => ?_⟩
  intro d H' n eH
  subst eH
  have g := grow_fle (Z := c.z) T1.fle (FLe.new (o := .xd [(f, v)]) n)
  refine kk _ hp F1 σ _ (some d) (T1.grow g) (s1.trans g.step) ⟨[(f, v)], upd_same, ⟨v, by simp [List.lookup], q⟩, trivial⟩
/-- a sign in a text -/
def inStr (i j : Str) : Bool := !(Builtin.Str.occurrences j i 0 j.length 1).isEmpty
theorem o_inT {i j : Str} : Op2 c (compareOp .In) (.str i) (.str j) (.bl (inStr i j)) := by
  intro F H vx vy Q l hx hy k
  have hx : vx = .str i := hx
  have hy : vy = .str j := hy
  subst hx hy
  exact ⟨_, fun X _ => op_in_str, i, j, rfl, rfl, k _ F H (.refl l) rfl⟩
end
end Fw

set_option Elab.async false
set_option maxRecDepth 100000
set_option maxHeartbeats 4000000
/-! Fw37: try with several clauses 'except x as n'. -/
namespace Fw
open PySem PySem.Spec PyProof.Rows L2
/-- a clause: the class, the name's slot, the suite's reading -/
abbrev Cla := Value × Nat × (Addr → Value → Option Addr → TS)
/-- the ends of a suite: its name goes -/
def gone (i : Nat) (D : Ends) : Ends := { nx := fun σ' H' => D.nx (σ'.set i none) H', rt := D.rt, bk := fun σ' H' => D.bk (σ'.set i none) H', ct := fun σ' H' => D.ct (σ'.set i none) H' }
def wClas (K : PySem.W.Frag) (Wout : WX) (D : Ends) : List Cla → WX
  | [] => Wout
  | (c, i, ts) :: r => fun cls d σ H => ∃ b, PySem.W.exmOne K cls c = some b ∧ (b = true → ∀ a, H a = none → ts a cls d (gone i D) (σ.set i (some (.ref a))) H) ∧ (b = false → wClas K Wout D r cls d σ H)
inductive ClasOk (X : Cx) : List ExceptHandler → List Cla → Prop
  | nil : ClasOk X [] []
  | cons {x n : Str} {c : Value} {i : Nat} {ts : Addr → Value → Option Addr → TS} {b₀ : Stmt} {suite : List Stmt} {np pos' : Pos} {hds : List ExceptHandler} {l : List Cla} (hc : Names X x c) (hi : X.N[i]? = some n) (hln : X.env.kindOf n = some .local)
      (hsu : ∀ (a : Addr) (oe : Obj) (cls : Value) (d : Option Addr) (pn : List (Addr × Obj)), Zc cls d oe → (∃ vs, oe.data = .fields vs) → PSs (X.suite a ((a, oe) :: pn)) (b₀ :: suite) (ts a cls d)) (r : ClasOk X hds l) :
      ClasOk X (.ExceptHandler (some (.Name x np)) (some n) (b₀ :: suite) pos' :: hds) ((c, i, ts) :: l)
section
variable {X : Cx} {pins : List (Addr × Obj)} {Wout : WX} {D : Ends} {a : Addr} {B : Heap} {sI s' : Shared} {σ : L2.St} {H : Hp} {cls : Value} {d : Option Addr}
/-- what is known of an exception that has reached the clauses -/
structure Came (X : Cx) (pins : List (Addr × Obj)) (a : Addr) (B : Heap) (sI s' : Shared) (h3 : Heap) (σ : L2.St) (H : Hp) (cls : Value) (d : Option Addr) : Prop where
  J : Inv X pins σ H sI
  nb : ∀ b o, sI.heap.get? b = some o → b ∉ frs X.stack → B.get? b = some o
  up : sI.heap.UpToSlots h3
  na : H a = none
  os : s'.os = sI.os
  ag : AllBare s'.gens
  fl : HandSPX.FlyingZ B (X.env :: X.outer) a (Zc cls d) h3
theorem Came.go {hds : List ExceptHandler} {l : List Cla} (hs : X.stack = X.env :: X.outer) (hf : X.env.frame = some X.env.locals) (hN : X.N.Nodup) (tk : Takes X Wout) {h3 : Heap} (C : Came X pins a B sI s' h3 σ H cls d) (hk : ClasOk X hds l) (w : wClas X.K Wout D l cls d σ H) :
    wpAny (model X.prog X.w) X.A (handleBy (.ref a) X.env hds) (SP X pins D) X.xe { s' with heap := h3 } := by
  have ok := C.J.ok
  have J3 : Inv X pins σ H { s' with heap := h3 } := C.J.landed C.nb C.fl.1 C.up C.os C.ag
  obtain ⟨oe3, vs3, he3, hz3, hd3⟩ := C.fl.there
  have out : ∀ {h : Heap} {o : Obj} {vs : Array Value}, h.FunFrames B (X.env :: X.outer) → h.get? a = some o → o.data = .fields vs → a ∉ frs (X.env :: X.outer) := fun {h o vs} ff e dd hm => by
    obtain ⟨_, o', e', hnf⟩ := ff.mem hm
    rw [e] at e'
    cases e'
    exact hnf _ dd
  have nfr := out C.fl.2.2.1 he3 hd3
  have nL : a ≠ X.env.locals := fun z => nfr (List.mem_filterMap.mpr ⟨X.env, List.mem_cons_self, by rw [hf, z]⟩)
  have nF : a ∉ X.fs := fun hm => by
    obtain ⟨e, he, q⟩ := List.mem_filterMap.mp hm
    exact nfr (List.mem_filterMap.mpr ⟨e, List.mem_cons_of_mem _ he, q⟩)
  have S3 := J3.suite he3 hd3 C.na nL nF
  induction hk with
  | nil =>
    refine wpAny_handleBy_nil ?_
    obtain ⟨k1, k2, k3, oe, vs, T, oT, ts', he, hz, hd, h1, hr⟩ := id C.fl
    unfold PySem.passOn
    refine wpAny_bind (wpAny_field he hd h1 ?_)
    rw [if_neg (show ¬ ((Value.ref T == Value.none) = true) from by simp)]
    have fin : wpAny (model X.prog X.w) X.A (setFlight (.ref a) X.env.frame) (fun _ s4 => wpAny (model X.prog X.w) X.A (throw (.ref a) : Sem Flow) (SP X pins D) X.xe s4) X.xe { s' with heap := h3 } := by
      rw [hf]
      exact HandSPX.setFlight_upZ C.fl fun h4 hh4 up4 => wpAny_throw (tk _ _ ⟨a, B, sI, pins, σ, H, cls, d, rfl, C.J, C.nb, C.up.trans up4, .inr (.inr (by rw [hs]; exact hh4)), C.na, C.os, C.ag, w⟩)
    first
      | exact wpAny_bind (wpAny_pure (wpAny_bind fin))
      | exact wpAny_bind fin
  | @cons x n c i ts b₀ suite np pos' hds2 l2 hc hi hln hsu r ih =>
    obtain ⟨b, hb1, hyes, hno⟩ := w
    refine wpAny_handleBy_cons (codeAny_handlers_test ?_) (by intro q; cases q)
    have LT : PySem.W.Looks (model X.prog X.w) h3 (typeOf (.ref a)) cls := fun A Q E s k q => wpAny_typeOf_ref (k _ _ he3) (by rw [hz3.1]; exact q)
    have LM := PySem.W.exm_one (M := model X.prog X.w) J3.kIn LT hb1
    have test : ∀ {Q : Value → Shared → Prop} {E : Value → Shared → Prop}, Q c { s' with heap := h3 } → wpAny (model X.prog X.w) (X.A.mark (some (.ref a))) (eval (.Name x np) X.env) Q E { s' with heap := h3 } := fun {Q E} q => by
      obtain ⟨hg, hdbg, hm | ⟨hm, hv, hnn⟩⟩ := hc
      · exact ld_glob (X := X.suite a ((a, oe3) :: (X.pn ++ pins))) S3 hg hm q hdbg
      · exact ld_blt (X := X.suite a ((a, oe3) :: (X.pn ++ pins))) S3 hg hm hv q hnn hdbg
    refine test (LM.here ?_)
    cases b with
    | false => exact ih (hno rfl)
    | true =>
      refine codeAny_handlers_suite_as (HandSPX.lands_againZ C.fl fun h4 fl4 up4 => ?_)
      have J4 : Inv X pins σ H { s' with heap := h4 } := C.J.landed C.nb fl4.1 (C.up.trans up4) C.os C.ag
      obtain ⟨oe4, vs4, he4, hz4, hd4⟩ := fl4.there
      have S4 := J4.suite he4 hd4 C.na nL nF
      refine store_ok (X := X.suite a ((a, oe4) :: (X.pn ++ pins))) (v := .ref a) S4 hN hi (.inl hln) rfl (fun s5 S5 => ?_) (.inr hln)
      refine wpAny_mono ((hsu a oe4 cls d (X.pn ++ pins) hz4 ⟨_, hd4⟩).run [] s5 _ H _ S5 (hyes rfl a C.na)) (fun f s6 hsp => ?_) (fun _ _ z => False.elim z)
      have end_ : ∀ {σ6 : L2.St} {H6 : Hp} {Q : Shared → Prop}, Inv (X.suite a ((a, oe4) :: (X.pn ++ pins))) [] σ6 H6 s6 → (∀ s7, Inv X pins (σ6.set i none) H6 s7 → Q s7) →
          wpAny (model X.prog X.w) X.A (do bindName X.env n .none; unbindBehindTheSuite X.env n pos') (fun _ s7 => Q s7) X.xe s6 := fun {σ6 H6 Q} S6 hq => gone_ok (S6.unsuite ok) hN hi hln hq
      cases f with
      | ret u =>
        obtain ⟨v6, σ6, H6, S6, r6, q6⟩ := hsp
        exact end_ S6 fun s7 J7 => ⟨_, _, _, J7, r6, q6⟩
      | next =>
        obtain ⟨σ6, H6, S6, q6⟩ := hsp
        exact end_ S6 fun s7 J7 => ⟨_, _, J7, q6⟩
      | brk =>
        obtain ⟨σ6, H6, S6, q6⟩ := hsp
        exact end_ S6 fun s7 J7 => ⟨_, _, J7, q6⟩
      | cont =>
        obtain ⟨σ6, H6, S6, q6⟩ := hsp
        exact end_ S6 fun s7 J7 => ⟨_, _, J7, q6⟩
end
section
variable {X : Cx} {body : List Stmt} {h₀ : ExceptHandler} {hds : List ExceptHandler} {l : List Cla} {pos : Pos} {tb : WX → TS} {Wout : WX}
theorem ps_try_clas (hs : X.stack = X.env :: X.outer) (hf : X.env.frame = some X.env.locals) (hN : X.N.Nodup) (tk : Takes X Wout)
    (hb : ∀ (W : WX) (pn : List (Addr × Obj)) (xe : Value → Shared → Prop), Takes (X.tr pn xe) W → PassesOwn (model X.prog X.w) X.A X.env xe → PSs (X.tr pn xe) body (tb W))
    (hh : ClasOk X (h₀ :: hds) l) : PS X (.Try body (h₀ :: hds) [] [] pos) (fun D σ H => tb (wClas X.K Wout D l) D σ H) := by
  refine ⟨fun pins s σ H D I h => wpAny_Try_except ?_⟩
  have ok := I.ok
  refine wpAny_mono ((hb (wClas X.K Wout D l) (X.pn ++ pins) (fun e s₁ => wpAny (model X.prog X.w) X.A (noteFrame e X.env) (fun _ s₂ => wpAny (model X.prog X.w) X.A (setFlight e none) (fun _ s₃ =>
    wpAny (model X.prog X.w) X.A (handleBy e X.env (h₀ :: hds)) (SP X pins D) X.xe s₃) X.xe s₂) X.xe s₁) (fun u s' xx => ?_) PassesOwn.looking).run [] s σ H D (I.toTry _) h) (fun f s1 hsp => ?_) (fun e s1 he => he)
  · obtain ⟨a, B, sI, pins', σ', H', cls, d, rfl, J', nb, up, sky, na, os, ag, w⟩ := xx
    refine Sky.land Zc.steady (by rw [ok.frames, hs]) hf (by rw [← hs]; exact sky) fun h3 fl3 up3 => ?_
    exact Came.go hs hf hN tk ⟨J'.ofTry ok, nb, up.trans up3, na, os, ag, fl3⟩ hh w
  · cases f with
    | ret u =>
      obtain ⟨v, σ', H', J', r, q⟩ := hsp
      exact ⟨v, σ', H', J'.ofTry ok, r, q⟩
    | next =>
      obtain ⟨σ', H', J', q⟩ := hsp
      exact wpAny_execs_nil ⟨σ', H', J'.ofTry ok, q⟩
    | brk =>
      obtain ⟨σ', H', J', q⟩ := hsp
      exact ⟨σ', H', J'.ofTry ok, q⟩
    | cont =>
      obtain ⟨σ', H', J', q⟩ := hsp
      exact ⟨σ', H', J'.ofTry ok, q⟩
end
end Fw

set_option Elab.async false
set_option maxRecDepth 100000
set_option maxHeartbeats 4000000
/-! Fw38: what the head tells, with facts of one's own and the makers' tables. -/
namespace Fw
open PySem PySem.Spec PyProof.Rows L2
def partG (n : Nat) (g : Addr → Option Obj) : PySem.W.Frag := He.frT g (sysModules :: He.asD g n)
structure SaysG (fa : List He.Fa) (fn : List He.DefD) (tf : List He.Defn) (fb : PySem.W.Frag → Bool) (h : Heap) (K : PySem.W.Frag) : Prop where
  d : He.SaysD fa fn K
  more : fb K = true
  hd : ∀ p ∈ tf, PySem.W.codeHdIn K (He.cT K p).1 (He.cT K p).2 = true
  out : ∀ p ∈ tf, K.lookup (He.cT K p).2 = none
  empty : ∀ p ∈ tf, h.get? (He.cT K p).2 = some { cls := .none, data := .fields #[] }
def obsG (n : Nat) (fa : List He.Fa) (fn : List He.DefD) (tf : List He.Defn) (fb : PySem.W.Frag → Bool) (g : Addr → Option Obj) : He.AlD × Bool := (He.obsD fa fn (partG n g), fb (partG n g) && He.tabsB g tf (partG n g))
theorem saysG_of {n : Nat} {fa : List He.Fa} {fn : List He.DefD} {tf : List He.Defn} {fb : PySem.W.Frag → Bool} {h : Heap} (e : obsG n fa fn tf fb h.get? = (He.valD fn, true)) : SaysG fa fn tf fb h (partG n h.get?) := by
  have e1 : He.obsD fa fn (partG n h.get?) = He.valD fn := congrArg (fun z : He.AlD × Bool => z.1) e
  have e2 : (fb (partG n h.get?) && He.tabsB h.get? tf (partG n h.get?)) = true := congrArg (fun z : He.AlD × Bool => z.2) e
  obtain ⟨h1, h2⟩ := and2 e2
  have key : ∀ p ∈ tf, PySem.W.codeHdIn (partG n h.get?) (He.cT (partG n h.get?) p).1 (He.cT (partG n h.get?) p).2 = true ∧ ∃ o, h.get? (He.cT (partG n h.get?) p).2 = some o ∧ He.emptyTab o = true := fun p hp => by
    obtain ⟨h3, h4⟩ := and2 (List.all_eq_true.mp h2 p hp)
    refine ⟨h3, ?_⟩
    cases q : h.get? (He.cT (partG n h.get?) p).2 with
    | none => rw [q] at h4; cases h4
    | some o => rw [q] at h4; exact ⟨o, rfl, h4⟩
  exact ⟨e1, h1, fun p hp => (key p hp).1, fun p hp => by
    obtain ⟨_, o, q, z⟩ := key p hp
    exact He.frT_none q z, fun p hp => by
    obtain ⟨_, o, q, z⟩ := key p hp
    rw [q, He.emptyTab_eq z]⟩
def hookG (n : Nat) (fa : List He.Fa) (fn : List He.DefD) (tf : List He.Defn) (fb : PySem.W.Frag → Bool) : PySem.W.Hook where
  α := He.AlD × Bool
  obs := fun s => obsG n fa fn tf fb s.heap.get?
  val := fun _ => (He.valD fn, true)
  says := fun _ h => ∃ K : PySem.W.Frag, K.In h ∧ SaysG fa fn tf fb h K
  of := fun _ _ e => ⟨_, He.frT_in, saysG_of e⟩
  keeps := fun _ _ _ ⟨K, hK, c⟩ k => ⟨K, PySem.W.Frag.In.keeps hK k, ⟨c.d, c.more, c.hd, c.out, fun p hp => k _ _ (c.empty p hp)⟩⟩
theorem obsG_eq {n : Nat} {fa : List He.Fa} {fn : List He.DefD} {tf : List He.Defn} {fb : PySem.W.Frag → Bool} {g : Addr → Option Obj} {s : Shared} (h : ∀ a, g a = s.heap.get? a) : obsG n fa fn tf fb g = (hookG n fa fn tf fb).obs s := by
  have e : g = s.heap.get? := funext h
  rw [e] <;> rfl
end Fw

set_option Elab.async false
set_option maxRecDepth 100000
set_option maxHeartbeats 4000000
/-! Fw39: data compared by < <= >= ==; kinds of data; numbers and texts of the module. -/
namespace Fw
open PySem PySem.Spec PyProof.Rows L2
/-! ### kinds -/
def intB : D → Bool
  | .int _ => true
  | .bl _ => true
  | _ => false
def boolB : D → Bool
  | .bl _ => true
  | _ => false
def strB : D → Bool
  | .str _ => true
  | _ => false
def tupB : D → Bool
  | .tup _ => true
  | .tun _ => true
  | _ => false
def kindOf (p : D → Bool) (T : String) : Prop := ∀ (x : D) (n : String), tyn x = some n → kitB n T = some (p x)
theorem kit_names : (["int", "bool", "str", "tuple"].all fun T => ["NoneType", "bool", "int", "str", "tuple", "list", "dict"].all fun n => decide (kitB n T = some (decide (n = T) || (decide (n = "bool") && decide (T = "int"))))) = true := by decide +kernel
theorem kit_at {n T : String} (hT : T ∈ ["int", "bool", "str", "tuple"]) (hn : n ∈ ["NoneType", "bool", "int", "str", "tuple", "list", "dict"]) : kitB n T = some (decide (n = T) || (decide (n = "bool") && decide (T = "int"))) := of_decide_eq_true (List.all_eq_true.mp (List.all_eq_true.mp kit_names T hT) n hn)
theorem k_int : kindOf intB "int" := by
  intro x n h
  cases x <;> first | (cases h; exact kit_at (by simp) (by simp)) | cases h
theorem k_bool : kindOf boolB "bool" := by
  intro x n h
  cases x <;> first | (cases h; exact kit_at (by simp) (by simp)) | cases h
theorem k_str : kindOf strB "str" := by
  intro x n h
  cases x <;> first | (cases h; exact kit_at (by simp) (by simp)) | cases h
theorem k_tup : kindOf tupB "tuple" := by
  intro x n h
  cases x <;> first | (cases h; exact kit_at (by simp) (by simp)) | cases h
section
variable {c : CD} {ρ ρ1 ρ2 : Env'} {vis loc : List Nat} {gl : List Str}
theorem b_isK {p : D → Bool} {T : String} (hp : kindOf p T) {x : D} (h : (tyn x).isSome = true) : Cb c (.builtin "isinstance") [x, .ty T] (.bl (p x)) := by
  obtain ⟨n, e⟩ := Option.isSome_iff_exists.mp h
  exact b_isD e (hp x n e)
/-! ### comparisons -/
/-- alike data, not None, not too deep -/
structure Cmp (x y : D) : Prop where
  px : isPy x = true
  py : isPy y = true
  al : PySem.W.alike (toPy x) (toPy y) = true
  nn : toPy x ≠ .none
  dp : min (toPy x).depth (toPy y).depth ≤ 60
def ltD (x y : D) : Bool := PySem.W.dataLt (toPy x) (toPy y)
def rCm (K : PySem.W.Frag) (x y : D) (b : Bool) : R2 := fun v w H Q => Dp K H v (toPy x) ∧ Dp K H w (toPy y) ∧ Q (.bl b) H
theorem cm_run {X : Cx} {x y : D} {b : Bool} {f : Value → Value → Sem Value} (h : ∀ {s : Shared} {Q : Value → Shared → Prop} {as bs : List Addr} {u v : Value}, Reads s.heap u (toPy x) as → Reads s.heap v (toPy y) bs → Q (.bool b) s → wpAny (model X.prog X.w) X.A (f u v) Q X.xe s) : OpR X f (rCm X.K x y b) := by
  intro pins s σ H vx vy u v Q I rx ry ⟨hd, he, q⟩
  obtain ⟨as, r1⟩ := Dp.reads I _ vx u hd rx
  obtain ⟨bs, r2⟩ := Dp.reads I _ vy v he ry
  exact h r1 r2 ⟨.bl _, H, I, rfl, q⟩
theorem cm_op {x y : D} {b : Bool} {f : Value → Value → Sem Value} (h : ∀ X, c.Ok X → OpR X f (rCm X.K x y b)) (px : isPy x = true) (py : isPy y = true) : Op2 c f x y (.bl b) := by
  intro F H vx vy Q l hx hy k
  exact ⟨rCm c.K x y b, fun X ok => by have := h X ok; rw [ok.K] at this; exact this, dp_vw l px hx, dp_vw l py hy, k _ F H (.refl l) rfl⟩
theorem o_ltD {x y : D} (h : Cmp x y) : Op2 c (compareOp .Lt) x y (.bl (ltD x y)) := cm_op (fun X ok => cm_run fun r1 r2 q => PySem.W.lt_data r1 r2 h.al h.nn (by have := ok.room1.units; have := h.dp; omega) q) h.px h.py
theorem o_leD {x y : D} (h : Cmp x y) : Op2 c (compareOp .LtE) x y (.bl (!ltD y x)) := cm_op (fun X ok => cm_run fun r1 r2 q => PySem.W.le_data r1 r2 h.al h.nn (by have := ok.room1.units; have := h.dp; omega) q) h.px h.py
theorem o_geD {x y : D} (h : Cmp x y) : Op2 c (compareOp .GtE) x y (.bl (!ltD x y)) := cm_op (fun X ok => cm_run fun r1 r2 q => PySem.W.ge_data r1 r2 h.al h.nn (by have := ok.room1.units; have := h.dp; omega) q) h.px h.py
/-- data as they can be read -/
theorem reads_vw {X : Cx} {pins : List (Addr × Obj)} {s : Shared} {σ : L2.St} {F H : Hp} (I : Inv X pins σ H s) (l : FLe F H) (hm : H sysModules = none) {x : D} {v : V} {u : Value} (hx : isR x = true) (hv : Vw X.K F H x v) (ru : RelV v u) : ∃ as, Reads s.heap u (toR x) as := by
  have rd : ∃ as, Reads s.heap u (toR x) as ∧ sysModules ∉ as := by
    cases x with
    | lst ds =>
      obtain ⟨a, vs, rfl, q1, hd⟩ := hv
      exact lst_reads I hm q1 ru fun its rv => readsAll_of I l hm ds hx hd rv
    | dic lk kvs =>
      obtain ⟨a, kws, rfl, q1, hd⟩ := hv
      cases kvs with
      | cons y ys => cases hx
      | nil =>
        cases (show kws = [] from hd)
        exact dic_reads I q1 ru
    | _ => exact reads_of I l hm _ hx hv ru
  obtain ⟨as, h, _⟩ := rd
  exact ⟨as, h⟩
/-- == () -/
theorem o_eqT0 (hK : (c.K.lookup sysModules).isSome = true) {ds : List D} (px : isR (.tup ds) = true) : Op2 c (compareOp .Eq) (.tup ds) (.tup []) (.bl (decide (ds.length = 0))) := by
  intro F H vx vy Q l hx hy k
  refine ⟨fun v w H' Q' => v = vx ∧ w = vy ∧ H' = H ∧ Q' (.bl (decide (ds.length = 0))) H, fun X ok => ?_, rfl, rfl, rfl, k _ F H (.refl l) rfl⟩
  intro pins s σ H' a b u v Q' I rx ry ⟨e1, e2, e3, q⟩
  subst e1 e2 e3
  obtain ⟨o, ho⟩ := Option.isSome_iff_exists.mp hK
  have hm : H' sysModules = none := (I.bs _ _ (I.ok.mod.kin _ _ (by rw [ok.K]; exact ho))).2
  obtain ⟨as, r1⟩ := reads_vw I l hm px (by rw [ok.K]; exact hx) rx
  obtain ⟨bs, r2⟩ := reads_vw I l hm (x := .tup []) rfl (by rw [ok.K]; exact hy) ry
  have r1 : Reads s.heap u (.tuple (toRs ds)) as := r1
  have r2 : Reads s.heap v (.tuple []) bs := r2
  cases r1 with
  | @tuple l1 o1 vs1 n1 _ as1 h1 h2 h3 h4 =>
    cases r2 with
    | @tuple l2 o2 vs2 n2 _ as2 k1 k2 k3 k4 =>
      have z2 : vs2.size = 0 := by simpa using SeqAt.ReadsAll.length _ _ _ k4
      have z1 : vs1.size = ds.length := by
        have e := SeqAt.ReadsAll.length _ _ _ h4
        have : ∀ ds : List D, (toRs ds).length = ds.length := fun ds => by
          induction ds with
          | nil => rfl
          | cons x xs ih => show (toR x :: toRs xs).length = _; simp [ih]
        rw [this] at e
        simpa using e
      have go := SeqAt.RcAt.tuples (s := s) (A := X.A) (e := fun _ => true) ⟨_, h1, h2, _, h3⟩ ⟨_, k1, k2, _, k3⟩ (by have := ok.room1.units; omega) (fun j _ j2 => by omega)
      refine go X.prog X.w X.xe (EP X pins σ Q') ?_
      have eb : ((List.range (min vs1.size vs2.size)).all (fun _ => true) && vs1.size == vs2.size) = decide (ds.length = 0) := by
        rw [z1, z2]
        cases ds <;> simp
      rw [eb]
      exact ⟨.bl _, H', I, rfl, q⟩
/-! ### numbers, texts of the module -/
theorem E_gI (S : ScOk c vis loc gl) {x : Str} {pos : Pos} {i : Int} (hx : x ∈ gl) (hm : ∃ t, c.mg x = some (.int i t)) : EvX c (.Name x pos) ρ (.d (.int i)) ρ := by
  obtain ⟨t, hm⟩ := hm
  exact E_const (v := .int i) (fun X ok => pe_glob (u := .int i t) (ok.glOf S hx) (by rw [ok.mg]; exact hm) ⟨t, rfl⟩ (S.glOf hx).2.1) fun _ => rfl
theorem E_gS (S : ScOk c vis loc gl) {x : Str} {pos : Pos} {i : Str} (hx : x ∈ gl) (hm : ∃ t, c.mg x = some (.str i t)) : EvX c (.Name x pos) ρ (.d (.str i)) ρ := by
  obtain ⟨t, hm⟩ := hm
  exact E_const (v := .str i) (fun X ok => pe_glob (u := .str i t) (ok.glOf S hx) (by rw [ok.mg]; exact hm) ⟨t, rfl⟩ (S.glOf hx).2.1) fun _ => rfl
end
end Fw

set_option Elab.async false
set_option maxRecDepth 100000
set_option maxHeartbeats 4000000
/-! Fw40: comprehensions over one name, turn by turn alike. -/
namespace Fw
open PySem PySem.Spec PyProof.Rows L2
section
variable {c : CD} {ρ ρ1 ρ2 : Env'} {vis loc : List Nat} {gl : List Str}
theorem blkOk_of {N : List Str} {sc scope : Scope} {own : List (Str × Nat)} (h : BlkOk N sc scope own) : BlkOk N sc scope own := h
theorem wipe1 {ρ : Env'} {i : Nat} (h : ρ[i]? = some .un) : wipeE ρ [i] = ρ := set_self h
theorem wipe1s {ρ : Env'} {i : Nat} {e : Ent} (h : ρ[i]? = some .un) : wipeE (ρ.set i e) [i] = ρ := by
  show (ρ.set i e).set i .un = ρ
  rw [List.set_set]
  exact set_self h
theorem Ev_frz {t : TE} {u : Tr} (h : Ev c.z t ρ (.fr u) ρ1) (w : u.whole = true) (hl : ρ1.length = ρ.length) : Ev c.z t ρ (.d u.toD) ρ1 := fun G F σ H Q T k => h G F σ H Q T fun v F' H' S s q => by
  obtain ⟨F2, l, S2, d⟩ := Stt.freezeT q (by rw [T.len, hl]) w
  exact k v F2 H' S2 (s.trans ⟨l, fun _ h => h⟩) d
theorem Ev_is {t : TE} {d d' : D} (h : Ev c.z t ρ (.d d) ρ1) (q : d = d') : Ev c.z t ρ (.d d') ρ1 := q ▸ h
/-- y = [..] on one line, the name a local: data -/
theorem S_setLc (S : ScOk c vis loc gl) {P : Out → Prop} {tg elt iter : Expr} {ifs : List Expr} {scope : Scope} {y : Str} {py pos spos : Pos} {own : List (Str × Nat)} {d : D} (i : Nat) (hy : c.N[i]? = some y) (hyl : c.sc.names.lookup y = some .local) {N' : List Str} {sc' : Scope} (eN : c.N = N') (es : c.sc = sc') (hok : BlkOk N' sc' scope own) (h : Ev c.z (tLcX c tg iter ifs elt scope own) ρ (.d d) ρ1)
    (hp : P (.nx (ρ1.set i (.d d)))) (hl : (py.line == pos.line) = true) (ha : (scope.names.any fun (n, k) => n == y && (k == .local || k == .cell)) = false) (hf : ∀ (X : Cx) x, foldedSetIterable iter X.env x = pure x) :
    EsX1 c (.Assign [.Name y py] (.ListComp elt [⟨tg, iter, ifs, 0⟩] scope pos) spos) ρ P := fun G F σ H D T k =>
  ⟨tAsg (tLcX c tg iter ifs elt scope own) (gName i), fun X ok => ps_setLc (own := own) ok.calm (by rw [ok.N]; exact S.nd) (by rw [ok.N]; exact hy) (by rw [ok.sc]; exact hyl) (sw_true (by rw [ok.sc]; exact S.kind) (by rw [ok.sc]; exact hyl) hl ha) (pi_tI ok tg iter) (by rw [ok.N, ok.sc, eN, es]; exact hok)
    (fun s H C cl fp => pg_tG (ok.blk scope s H C cl fp) tg) (fun s H C cl fp => pts_tTs (ok.blk scope s H C cl fp) ifs) (fun s H C cl fp => pe_tE (ok.blk scope s H C cl fp) elt) (hf X), h G F σ H _ T fun v F1 H1 S1 s1 q => k _ hp F1 _ H1 (S1.put q) s1⟩
/-- y = [..]: a list of one's own -/
theorem S_setLcF (S : ScOk c vis loc gl) {P : Out → Prop} {tg elt iter : Expr} {ifs : List Expr} {scope : Scope} {y : Str} {py pos spos : Pos} {own : List (Str × Nat)} {t : Tr} (i : Nat) (hy : c.N[i]? = some y) (hyl : c.sc.names.lookup y = some .local) {N' : List Str} {sc' : Scope} (eN : c.N = N') (es : c.sc = sc') (hok : BlkOk N' sc' scope own) (h : Ev c.z (tLcX c tg iter ifs elt scope own) ρ (.fr t) ρ1)
    (hil : i < ρ1.length) (hll : ρ1.length = ρ.length) (hp : P (.nx (ρ1.set i (.ot none t)))) (hl : (py.line == pos.line) = true) (ha : (scope.names.any fun (n, k) => n == y && (k == .local || k == .cell)) = false) (hf : ∀ (X : Cx) x, foldedSetIterable iter X.env x = pure x) :
    EsX1 c (.Assign [.Name y py] (.ListComp elt [⟨tg, iter, ifs, 0⟩] scope pos) spos) ρ P := fun G F σ H D T k =>
  ⟨tAsg (tLcX c tg iter ifs elt scope own) (gName i), fun X ok => ps_setLc (own := own) ok.calm (by rw [ok.N]; exact S.nd) (by rw [ok.N]; exact hy) (by rw [ok.sc]; exact hyl) (sw_true (by rw [ok.sc]; exact S.kind) (by rw [ok.sc]; exact hyl) hl ha) (pi_tI ok tg iter) (by rw [ok.N, ok.sc, eN, es]; exact hok)
    (fun s H C cl fp => pg_tG (ok.blk scope s H C cl fp) tg) (fun s H C cl fp => pts_tTs (ok.blk scope s H C cl fp) ifs) (fun s H C cl fp => pe_tE (ok.blk scope s H C cl fp) elt) (hf X), h G F σ H _ T fun v F1 H1 S1 s1 q => k _ hp F1 _ H1 (Stt.giveSlot q (by rw [T.len, hll]) hil) s1⟩
/-- [elt for x in iter if test]: slot i is x's -/
theorem Ev_lcPW {elt iter test : Expr} {scope : Scope} {p : Pos} {x : Str} (i : Nat) (vis' : List Nat) (gl' : List Str) {ds : List D} (f : D → D) (t : D → Bool) (hx : c.N[i]? = some x) (S' : ScOk (c.blk scope) vis' [i] gl') (hi : EiX c (.Name x p) iter ρ ds ρ1)
    (hu : ρ1[i]? = some .un) (turnT : ScOk (c.blk scope) vis' [i] gl' → ∀ (j : Nat) d, ds[j]? = some d → EtX (c.blk scope) test (ρ1.set i (.d d)) (t d) (ρ1.set i (.d d)))
    (turn : ScOk (c.blk scope) vis' [i] gl' → ∀ (j : Nat) d, ds[j]? = some d → t d = true → EvX (c.blk scope) elt (ρ1.set i (.d d)) (.d (f d)) (ρ1.set i (.d d))) (hl : ds.length ≤ 1000000) (hll : ρ1.length = ρ.length) :
    Ev c.z (tLcX c (.Name x p) iter [test] elt scope [(x, i)]) ρ (.d (.lst ((ds.filter t).map f))) ρ1 := by
  have e := Ev_lcG (c := c) (scope := scope) [(x, i)] (ds := ds) (fun _ => ρ1) (fun j => ((ds.take j).filter t).map f) (elt := elt) (ifs := [test]) (tg := .Name x p) hi (wipe1 hu) rfl (fun j d hj => by
    have hjl : j < ds.length := (List.getElem?_eq_some_iff.mp hj).1
    have ej : ds[j] = d := (List.getElem?_eq_some_iff.mp hj).2
    have et : ds.take (j + 1) = ds.take j ++ [d] := by rw [List.take_succ, hj]; rfl
    cases htd : t d with
    | true =>
      refine ⟨some (f d), .yes (G_name S' i hx (by simp) (by simp)) (Ts_one (by have := turnT S' j d hj; rw [htd] at this; exact this)) (turn S' j d hj htd) (wipe1s hu).symm, ?_⟩
      show ((ds.take (j + 1)).filter t).map f = ((ds.take j).filter t).map f ++ [f d]
      rw [et, List.filter_append, List.map_append]
      simp [htd]
    | false =>
      refine ⟨none, .no (G_name S' i hx (by simp) (by simp)) (Ts_one (by have := turnT S' j d hj; rw [htd] at this; exact this)) (wipe1s hu).symm, ?_⟩
      show ((ds.take (j + 1)).filter t).map f = ((ds.take j).filter t).map f ++ []
      rw [et, List.filter_append, List.map_append]
      simp [htd]) hl
  have e2 := Ev_frz e rfl hll
  have et : ((ds.take ds.length).filter t).map f = (ds.filter t).map f := by rw [List.take_length]
  rw [et] at e2
  exact e2
theorem E_lcP {elt iter test : Expr} {scope : Scope} {p pos : Pos} {x : Str} (i : Nat) (vis' : List Nat) (gl' : List Str) {ds : List D} (f : D → D) (t : D → Bool) (hN : c.N.Nodup) (hx : c.N[i]? = some x) {N' : List Str} {sc' : Scope} (eN : c.N = N') (es : c.sc = sc') (hok : BlkOk N' sc' scope [(x, i)]) (S' : ScOk (c.blk scope) vis' [i] gl') (hi : EiX c (.Name x p) iter ρ ds ρ1)
    (hu : ρ1[i]? = some .un) (turnT : ScOk (c.blk scope) vis' [i] gl' → ∀ (j : Nat) d, ds[j]? = some d → EtX (c.blk scope) test (ρ1.set i (.d d)) (t d) (ρ1.set i (.d d)))
    (turn : ScOk (c.blk scope) vis' [i] gl' → ∀ (j : Nat) d, ds[j]? = some d → t d = true → EvX (c.blk scope) elt (ρ1.set i (.d d)) (.d (f d)) (ρ1.set i (.d d))) (hl : ds.length ≤ 1000000) (hll : ρ1.length = ρ.length) (hf : ∀ (X : Cx) x, foldedSetIterable iter X.env x = pure x) :
    EvX c (.ListComp elt [⟨.Name x p, iter, [test], 0⟩] scope pos) ρ (.d (.lst ((ds.filter t).map f))) ρ1 := by
  exact E_lcX hN (by rw [eN, es]; exact hok) (Ev_lcPW i vis' gl' f t hx S' hi hu turnT turn hl hll) hf
/-- [elt for x in iter] -/
theorem Ev_lcAW {elt iter : Expr} {scope : Scope} {p : Pos} {x : Str} (i : Nat) (vis' : List Nat) (gl' : List Str) {ds : List D} (f : D → D) (hx : c.N[i]? = some x) (S' : ScOk (c.blk scope) vis' [i] gl') (hi : EiX c (.Name x p) iter ρ ds ρ1)
    (hu : ρ1[i]? = some .un) (turn : ScOk (c.blk scope) vis' [i] gl' → ∀ (j : Nat) d, ds[j]? = some d → EvX (c.blk scope) elt (ρ1.set i (.d d)) (.d (f d)) (ρ1.set i (.d d))) (hl : ds.length ≤ 1000000) (hll : ρ1.length = ρ.length) :
    Ev c.z (tLcX c (.Name x p) iter [] elt scope [(x, i)]) ρ (.d (.lst (ds.map f))) ρ1 := by
  have e := Ev_lcG (c := c) (scope := scope) [(x, i)] (ds := ds) (fun _ => ρ1) (fun j => (ds.take j).map f) (elt := elt) (ifs := []) (tg := .Name x p) hi (wipe1 hu) rfl (fun j d hj => by
    refine ⟨some (f d), .yes (G_name S' i hx (by simp) (by simp)) Ts_nil (turn S' j d hj) (wipe1s hu).symm, ?_⟩
    show (ds.take (j + 1)).map f = (ds.take j).map f ++ [f d]
    rw [List.take_succ, hj]
    simp) hl
  have e2 := Ev_frz e rfl hll
  have et : (ds.take ds.length).map f = ds.map f := by rw [List.take_length]
  rw [et] at e2
  exact e2
theorem E_lcA {elt iter : Expr} {scope : Scope} {p pos : Pos} {x : Str} (i : Nat) (vis' : List Nat) (gl' : List Str) {ds : List D} (f : D → D) (hN : c.N.Nodup) (hx : c.N[i]? = some x) {N' : List Str} {sc' : Scope} (eN : c.N = N') (es : c.sc = sc') (hok : BlkOk N' sc' scope [(x, i)]) (S' : ScOk (c.blk scope) vis' [i] gl') (hi : EiX c (.Name x p) iter ρ ds ρ1)
    (hu : ρ1[i]? = some .un) (turn : ScOk (c.blk scope) vis' [i] gl' → ∀ (j : Nat) d, ds[j]? = some d → EvX (c.blk scope) elt (ρ1.set i (.d d)) (.d (f d)) (ρ1.set i (.d d))) (hl : ds.length ≤ 1000000) (hll : ρ1.length = ρ.length) (hf : ∀ (X : Cx) x, foldedSetIterable iter X.env x = pure x) :
    EvX c (.ListComp elt [⟨.Name x p, iter, [], 0⟩] scope pos) ρ (.d (.lst (ds.map f))) ρ1 := by
  exact E_lcX hN (by rw [eN, es]; exact hok) (Ev_lcAW i vis' gl' f hx S' hi hu turn hl hll) hf
/-- all([..]) -/
theorem b_allM {ds : List D} {p : D → Bool} : Cb c (.builtin "all") [.lst (ds.map fun d => .bl (p d))] (.bl (ds.all p)) := by
  have e := b_all (c := c) (bs := ds.map p)
  have e1 : (ds.map p).map D.bl = ds.map fun d => .bl (p d) := by rw [List.map_map]; rfl
  have e2 : (ds.map p).all id = ds.all p := by rw [List.all_map]; rfl
  rw [e1, e2] at e
  exact e
end
end Fw

set_option Elab.async false
set_option maxRecDepth 100000
set_option maxHeartbeats 4000000
/-! Fw41: x(e, lambda ..), with the body's names looked up once. -/
namespace Fw
open PySem PySem.Spec PyProof.Rows L2
section
variable {c : CD} {ρ ρ1 ρ2 : Env'} {vis loc : List Nat} {gl : List Str}
theorem E_lamS (S : ScOk c vis loc gl) {j m : Nat} {x q : Str} {p lpos pos : Pos} {e : Expr} {params : Arguments} {body : Expr} {scope : Scope} {d : D} {r : Res} {Sl : List D → SpC → (Res → Prop) → Prop} {Sc : SpC} {cc P : Addr} {ps fr : List Str} {ix : List Nat} {xs : List D} (vis' : List Nat) (gl' : List Str)
    (F : KnL c.z j (m + 1) x Sl) (hj : j ≤ c.k) (hmk : c.mkr = some (q, cc)) (TB : LamX.TabB c.base c.mg cc P) (hmT : (P, q ++ "<lambda>") ∈ c.z.T) (hu : ∀ t ∈ c.z.T, t.1 = P → t.2 = q ++ "<lambda>") (he : EvX c e ρ (.d d) ρ1) (L : LamP ps fr scope)
    (hC : Cap c ρ1 fr ix xs) (hall : ∀ y ∈ scope.names, y.2 = .free → y.1 ∈ fr) (hdef : ∀ X : Cx, defaultsOf params X.env = ([], []))
    (hbind : ∀ (q : Str) (cl : List (Str × Addr)) (pm cv ctv : Value) (us : List Value), us.length = ps.length → bindArgs (PySem.W.kla_fn "<lambda>" q params body scope cl pm cv ctv) ⟨us, []⟩ = pure (ps.zip us)) (hlen : ∀ ds Q, Sc ds Q → ds.length = ps.length)
    (S2 : ∀ t, ScOk (lamCD (c.z.add t) (ps ++ fr) scope m) vis' [] gl')
    (hb : ∀ t, ScOk (lamCD (c.z.add t) (ps ++ fr) scope m) vis' [] gl' → ∀ ds Q, Sc ds Q → ∃ r ρ', EvX (lamCD (c.z.add t) (ps ++ fr) scope m) body (ds.map Ent.d ++ xs.map Ent.d) (.d r) ρ' ∧ Q r) (hS : ∀ Q : Res → Prop, Q r → Sl [d] Sc Q) (hr : r.ret = true) (hx : x ∈ gl) (hs : ∀ X : Cx, starEach [e, .Lambda params body scope lpos] X.env = [(false, eval e X.env), (false, eval (.Lambda params body scope lpos) X.env)]) :
    EvX c (.Call (.Name x p) [e, .Lambda params body scope lpos] [] pos) ρ r ρ1 :=
  E_lam S F hj hmk TB hmT hu he L hC hall hdef hbind hlen (fun t ds Q h => hb t (S2 t) ds Q h) hS hr hx hs
/-- what a lambda takes from the frame -/
theorem cap0 {ρ : Env'} : Cap c ρ [] [] [] := ⟨rfl, rfl, fun _ _ z => by simp at z⟩
theorem capS {ρ : Env'} {y : Str} {fr : List Str} {i : Nat} {ix : List Nat} {x : D} {xs : List D} (h : Cap c ρ fr ix xs) (hN : c.N[i]? = some y) (hr : ρ[i]? = some (.d x)) (hc : c.sc.names.lookup y = some .cell) (hf : c.fn y = true) : Cap c ρ (y :: fr) (i :: ix) (x :: xs) := by
  refine ⟨by simp [h.n], by simp [h.m], fun m z e => ?_⟩
  cases m with
  | zero =>
    simp at e
    subst e
    exact ⟨i, x, rfl, rfl, hN, hr, hc, hf⟩
  | succ m =>
    obtain ⟨i', x', a, b, r⟩ := h.at_ m z (by simpa using e)
    exact ⟨i', x', by simpa using a, by simpa using b, r⟩
end
end Fw

set_option Elab.async false
set_option maxRecDepth 100000
set_option maxHeartbeats 4000000
/-! Fw42: C(..) that makes a thing or raises; by position, by name. -/
namespace Fw
open PySem PySem.Spec PyProof.Rows L2
/-- nothing raised, or a class of the text and what the exception keeps -/
abbrev Outc := Option (Addr × List (Str × D))
/-- the judgement: a new thing, or the exception -/
def EzX (c : CD) (e : Expr) (ρ : Env') (o : Outc) (t : Tr) (ρ' : Env') : Prop := match o with
  | none => EvX c e ρ (.fr t) ρ'
  | some (C, fs) => ErX c e ρ (.ref C) fs ρ'
def InitOk (Sd : List Ent → (Res → List Ent → Prop) → (Value → List (Str × D) → List Ent → Prop) → Prop) (C : Addr) (nm : List Str) (xs : List D) (o : Outc) (t' : Tr) : Prop := ∀ (a : Addr) (Q : Res → List Ent → Prop) R, (match o with
  | none => Q (.d .non) (.ot (some a) t' :: xs.map Ent.d)
  | some (C', fs) => ∀ t, R (.ref C') fs (.ot (some a) t :: xs.map Ent.d)) → Sd (.ot (some a) (.o C nm []) :: xs.map Ent.d) Q R
section
variable {c : CD} {vis loc : List Nat} {gl : List Str} {ρ ρ1 ρ2 ρ3 : Env'} {P : Out → Prop}
theorem make_sp {Z : Zd} {G : Gd} {F0 H0 F1 H1 : Hp} {σ : L2.St} {Q : VK} {E : XK} {vs : List V} {xs : List D} {C a dx : Addr} {nm : List Str} {o : Outc} {t' : Tr} {Sd : List Ent → (Res → List Ent → Prop) → (Value → List (Str × D) → List Ent → Prop) → Prop} (T1 : Stt Z G F1 σ H1 ρ1) (s1 : FStep F0 H0 F1 H1) (hd : DenAll Z.K F1 xs vs)
    (ea : H1 a = none) (ed : H1 dx = none) (ne : dx ≠ a) (hS : InitOk Sd C nm xs o t')
    (kQ : o = none → ∀ F2 H2, Stt Z G F2 (σ ++ [some (.ref a)]) H2 (ρ1 ++ [.ot none t']) → FStep F0 H0 F2 H2 → Q (.ref a) H2)
    (kR : ∀ C' fs, o = some (C', fs) → ∀ F2 H2 d, Stt Z G F2 σ H2 ρ1 → FStep F0 H0 F2 H2 → XdOk Z.K F2 H2 fs d → E (.ref C') d H2) :
    SpE Z Sd (.ref a :: vs) (upd (upd H1 dx (.own a)) a (.ins C dx [])) (fun v H2 => v = .non ∧ Q (.ref a) H2) E := by
  have g1 : Grow Z F1 H1 (upd F1 dx (.own a)) (upd H1 dx (.own a)) := Grow.alloc T1.fle ed
  have T2 := T1.grow g1
  have ea' : upd H1 dx (.own a) a = none := by rw [upd_ne (fun z => ne z.symm)]; exact ea
  have T3 := Stt.newT (t := .o C nm []) (o := .ins C dx []) T2 ea' ⟨a, dx, [], [], rfl, rfl, upd_same, ⟨fun _ _ => rfl, Nat.le_refl _⟩, rfl⟩
  have lσ : σ.length = ρ1.length := T1.len
  have hi : (ρ1 ++ [.ot none (.o C nm [])])[ρ1.length]? = some (.ot none (.o C nm [])) := by simp
  obtain ⟨w0, as0, e1, qt, nd0, fr0, back, backF⟩ := T3.call1 hi
  have hw : w0 = .ref a := by
    rw [← lσ] at e1
    simp at e1
    exact e1.symm
  subst hw
  have hd2 := DenAll.mono g1.fle _ _ hd
  have A := stt_args T3 hd2
  obtain ⟨bss, qa, nda, fra⟩ := A.ents
  have fl : bss.flatten = [] := empty_of (io := []) qa fra
  have base : Stt Z ⟨upd (upd H1 dx (.own a)) a (.ins C dx []), as0, fun z => nfOf (upd F1 dx (.own a)) (upd (upd H1 dx (.own a)) a (.ins C dx [])) z ∧ z ∉ as0⟩ (upd F1 dx (.own a)) ((V.ref a :: vs).map some) (upd (upd H1 dx (.own a)) a (.ins C dx [])) (Ent.ot (some a) (.o C nm []) :: xs.map Ent.d) :=
    ⟨T3.fle, T3.fnt, fun b o e _ _ => e, fun b h => h.1, fun b h => h, T3.tabs, as0 :: bss, ⟨_, vs.map some, as0, bss, rfl, rfl, ⟨_, rfl, qt, ⟨fun _ a ha z => z.2 ha, fun y z => by cases z; rfl⟩⟩, qa.less fun a ha _ => by rw [fl] at ha; cases ha⟩, by simpa [fl] using nd0, fun y hy => by
      simp only [List.flatten_cons, fl, List.append_nil] at hy
      exact ⟨fr0 y hy, .inr hy⟩⟩
  have hset : ∀ t, (ρ1 ++ [Ent.ot none (.o C nm [])]).set ρ1.length (Ent.ot none t) = ρ1 ++ [Ent.ot none t] := fun t => by
    rw [List.set_append_right _ _ (Nat.le_refl _)]
    simp
  refine ⟨_, Ent.ot (some a) (.o C nm []) :: xs.map Ent.d, as0, _, base, hS a _ _ ?_⟩
  cases o with
  | none =>
    intro v F2 H2 S2 s2 q2
    have B := back S2 s2
    rw [hset] at B
    exact ⟨q2, kQ rfl F2 H2 B ((s1.trans (g1.step.trans .upd)).trans s2)⟩
  | some p =>
    obtain ⟨C', fs⟩ := p
    intro t F2 H2 d S2 s2 q2
    have B := back S2 s2
    rw [hset] at B
    exact kR C' fs rfl F2 H2 d (B.drops lσ) ((s1.trans (g1.step.trans .upd)).trans s2) q2
/-- C(args) -/
theorem E_makeZ (S : ScOk c vis loc gl) {j : Nat} {x : Str} {p pos : Pos} {e : Expr} {es : List Expr} {C : Addr} {nm : List Str} {t' : Tr} {xs : List D} {o : Outc} {Sd : List Ent → (Res → List Ent → Prop) → (Value → List (Str × D) → List Ent → Prop) → Prop} (F : KnC c.z j x C (SpE c.z Sd)) (hj : j < c.k) (ha : EaX c (e :: es) ρ (xs.map Res.d) ρ1)
    (hS : InitOk Sd C nm xs o t') (hx : x ∈ gl) (he : ∀ X : Cx, starEach (e :: es) X.env = (false, eval e X.env) :: starEach es X.env) (hpl : ∀ X : Cx, (backTo pos (starEach es X.env)).any (·.1) = false) : EzX c (.Call (.Name x p) (e :: es) [] pos) ρ o t' ρ1 := by
  obtain ⟨f, fd, ps, hm, hM, hb, hF⟩ := F.ex
  have pe : ∀ X, c.Ok X → PE X (.Call (.Name x p) (e :: es) [] pos) (tMake C (SpE c.z Sd) [] c.E (tA c (e :: es))) := fun X ok => by
    have hF' : FnK X.prog X.w X.K X.mg X.base (L2.CX X.prog X.w) j f fd ps (SpE c.z Sd) := by rw [ok.P, ok.w, ok.K, ok.mg, ok.base]; exact hF
    exact pk_make (by rw [ok.K]; exact hM) hF' (ok.room.mono (by omega)) (ok.glOf S hx) (by rw [ok.mg]; exact hm) (by rw [ok.K]; exact hb) .nil ok.pass (pa_tA ok _) (S.glOf hx).2.1 (he X) (hpl X)
  cases o with
  | none =>
    intro G F0 σ H Q T k
    refine ⟨_, pe, ha G F0 σ H _ T fun vs F1 H1 T1 s1 l q => fun a dx ea ed ne => ?_⟩
    rw [List.append_nil]
    exact make_sp T1 s1 (denAll_of l q) ea ed ne hS (fun _ F2 H2 B s => k _ F2 H2 (B.drops T1.len) s B) fun _ _ z => nomatch z
  | some p =>
    obtain ⟨C', fs⟩ := p
    intro G F0 σ H Q T k
    refine ⟨_, pe, ha G F0 σ H _ T fun vs F1 H1 T1 s1 l q => fun a dx ea ed ne => ?_⟩
    rw [List.append_nil]
    exact make_sp (Q := Q) T1 s1 (denAll_of l q) ea ed ne hS (fun z => nomatch z) fun C2 fs2 z F2 H2 d B s x => by
      cases z
      exact k F2 H2 d B s x
/-! ### by name -/
def tKw (c : CD) (kws : List Keyword) : TA := fun σ H Q => ∃ t, (∀ X, c.Ok X → PK X kws t) ∧ t σ H Q
theorem pk_tKw {X : Cx} (ok : c.Ok X) (kws : List Keyword) : PK X kws (tKw c kws) := ⟨fun pos pins s σ H Q I ⟨_, h, q⟩ => (h X ok).run pos pins s σ H Q I q⟩
def EkX (c : CD) (kws : List Keyword) (ρ : Env') (ds : List D) (ρ' : Env') : Prop := ∀ G F σ H Q, Stt c.z G F σ H ρ → (∀ vs F' H', Stt c.z G F' σ H' ρ' → FStep F H F' H' → DenAll c.K F' ds vs → Q vs H') → tKw c kws σ H Q
theorem K_nil : EkX c [] ρ [] ρ := fun G F σ H Q T k => ⟨tNil, fun X ok => pk_nil, k [] F H T (.refl F H) rfl⟩
theorem K_cons {nm : Option Str} {e : Expr} {kpos : Pos} {kws : List Keyword} {d : D} {ds : List D} (h : EvX c e ρ (.d d) ρ1) (h' : EkX c kws ρ1 ds ρ2) : EkX c (⟨nm, e, kpos⟩ :: kws) ρ (d :: ds) ρ2 := fun G F σ H Q T k =>
  ⟨tCons (tE c e) (tKw c kws), fun X ok => pk_cons (pe_tE ok e) (pk_tKw ok kws), h G F σ H _ T fun v F1 H1 T1 s1 q => h' G F1 σ H1 _ T1 fun vs F2 H2 T2 s2 qs => k (v :: vs) F2 H2 T2 (s1.trans s2) ⟨v, vs, rfl, Den.mono s2.fle _ _ q, qs⟩⟩
/-- a class by its name, its parameters by names ks, in another order -/
structure KnCK (Z : Zd) (k : Nat) (x : Str) (C : Addr) (ks : List Str) (g : {α : Type} → List α → List α) (sp : Sp) : Prop where
  ex : ∃ f fd ps, Z.mg x = some (.ref C) ∧ Mk Z.K C f ∧ KBn Z.K fd ps 1 ks (fun us ws => us ++ g ws) (fun vs zs => vs ++ g zs) ∧ FnK Z.P Z.w Z.K Z.mg Z.base (L2.CX Z.P Z.w) k f fd ps sp
theorem goMakeK {X : Cx} {CX : CXT} {k : Nat} {f C : Addr} {fd : FuncData} {ps ks : List Str} {sp : Sp} {E : XK} {g : {α : Type} → List α → List α} {pins : List (Addr × Obj)} {σ : L2.St} {H : Hp} {s : Shared} {Q : VK} {ws : List Value} {zs : List V} (M : Mk X.K C f) (F : FnK X.prog X.w X.K X.mg X.base CX k f fd ps sp) (hr : Rm (k + 1) X.A)
    (hb : KBn X.K fd ps 1 ks (fun us ws => us ++ g ws) (fun vs zs => vs ++ g zs)) (hx : Passes CX X E) (I : Inv X pins σ H s) (rz : Vals zs ws) (l2 : zs.length = ks.length)
    (h : ∀ x dx, H x = none → H dx = none → dx ≠ x → sp (.ref x :: g zs) (upd (upd H dx (.own x)) x (.ins C dx [])) (fun v H2 => v = .non ∧ Q (.ref x) H2) E) : wpAny (model X.prog X.w) X.A (call (.ref C) [] (ks.zip ws)) (EP X pins σ Q) X.xe s := by
  have q0 := h (s.heap.objs.size + 1) s.heap.objs.size (I.hok.fresh (Nat.le_succ _)) (I.hok.fresh (Nat.le_refl _)) (Nat.ne_of_lt (Nat.lt_succ_self _))
  have J := Inv.made (C := C) I
  have r1 : Vals [V.ref (s.heap.objs.size + 1)] [Value.ref (s.heap.objs.size + 1)] := .cons rfl .nil
  have r2 := hb.rel r1 rz
  have go := F.run _ X.stack _ _ ⟨[Value.ref (s.heap.objs.size + 1)], ks.zip ws⟩ _ _ _ E (hr.make C [] (ks.zip ws)) (J.env0.make C [] (ks.zip ws)) (hb.to _ [Value.ref (s.heap.objs.size + 1)] ws J.kIn rfl (rz.length.symm.trans l2)) r2 q0
  refine wpAny_call (make_map (f := f) I.kIn M.makes M.init (beq_iff_eq.mp M.fn) (codeAny_mono go fun r s' q => ?_))
  have z := back_of J hx q
  cases r with
  | error e => exact z
  | ok fl =>
    cases fl with
    | ret u =>
      obtain ⟨v, H', I3, rv, ev, q3⟩ := z
      subst ev
      exact ⟨rv, V.ref (s.heap.objs.size + 1), H', I3, rfl, q3⟩
    | next => exact z.elim
    | brk => exact z.elim
    | cont => exact z.elim
def tMakeW (C : Addr) (n : Nat) (sp : Sp) (g : List V → List V) (E : XK) (tk : TA) : TE := fun σ H Q => tk σ H fun zs H2 => zs.length = n ∧ ∀ x dx, H2 x = none → H2 dx = none → dx ≠ x → sp (.ref x :: g zs) (upd (upd H2 dx (.own x)) x (.ins C dx [])) (fun v H3 => v = .non ∧ Q (.ref x) H3) E
/-- C(k = v, ..) -/
theorem E_makeW (S : ScOk c vis loc gl) {j : Nat} {x : Str} {p pos : Pos} {kws : List Keyword} {ks : List Str} {C : Addr} {nm : List Str} {t' : Tr} {xs : List D} {o : Outc} {g : {α : Type} → List α → List α} {Sd : List Ent → (Res → List Ent → Prop) → (Value → List (Str × D) → List Ent → Prop) → Prop} (F : KnCK c.z j x C ks g (SpE c.z Sd)) (hj : j < c.k) (ha : EkX c kws ρ xs ρ1) (hl : xs.length = ks.length)
    (hg : ∀ {F : Hp} {ds : List D} {vs : List V}, DenAll c.K F ds vs → DenAll c.K F (g ds) (g vs)) (hS : InitOk Sd C nm (g xs) o t') (hx : x ∈ gl)
    (hall : ∀ X : Cx, (backToKw pos (keywordEach kws X.env)).all (·.1.isSome) = true) (hks : ∀ X : Cx, (backToKw pos (keywordEach kws X.env)).filterMap (·.1) = ks)
    (hpl : ∀ X : Cx, ((backTo pos (starEach [] X.env)).any (·.1) || (backToKw pos (keywordEach kws X.env)).any (·.1.isNone)) = false) : EzX c (.Call (.Name x p) [] kws pos) ρ o t' ρ1 := by
  obtain ⟨f, fd, ps, hm, hM, hb, hF⟩ := F.ex
  have pe : ∀ X, c.Ok X → PE X (.Call (.Name x p) [] kws pos) (tMakeW C ks.length (SpE c.z Sd) g c.E (tKw c kws)) := fun X ok => by
    have hF' : FnK X.prog X.w X.K X.mg X.base (L2.CX X.prog X.w) j f fd ps (SpE c.z Sd) := by rw [ok.P, ok.w, ok.K, ok.mg, ok.base]; exact hF
    have hM' : Mk X.K C f := by rw [ok.K]; exact hM
    refine ⟨fun pins s σ H Q I h => wpAny_Call_Name_kw (ld_glob I (ok.glOf S hx) (by rw [ok.mg]; exact hm) ?_ (S.glOf hx).2.1)⟩
    refine PySem.W.callWith_KW0 (h₀ := X.base) I.ok.mod.kin hM'.kp (hall X) ?_ (hpl X)
    refine thn ((pk_tKw ok kws).run pos pins s σ H _ I h) fun ws s2 ⟨zs, H2, I2, rz, l2, q2⟩ => ⟨I2.kIn, ?_⟩
    rw [hks X]
    exact goMakeK (by rw [ok.K]; exact hM) hF' (ok.room.mono (by omega)) (by rw [ok.K]; exact hb) ok.pass I2 rz l2 q2
  cases o with
  | none =>
    intro G F0 σ H Q T k
    refine ⟨_, pe, ha G F0 σ H _ T fun vs F1 H1 T1 s1 hd => ⟨hd.length.trans hl, fun a dx ea ed ne => ?_⟩⟩
    exact make_sp T1 s1 (hg hd) ea ed ne hS (fun _ F2 H2 B s => k _ F2 H2 (B.drops T1.len) s B) fun _ _ z => nomatch z
  | some p =>
    obtain ⟨C', fs⟩ := p
    intro G F0 σ H Q T k
    refine ⟨_, pe, ha G F0 σ H _ T fun vs F1 H1 T1 s1 hd => ⟨hd.length.trans hl, fun a dx ea ed ne => ?_⟩⟩
    exact make_sp (Q := Q) T1 s1 (hg hd) ea ed ne hS (fun z => nomatch z) fun C2 fs2 z F2 H2 d B s x => by
      cases z
      exact k F2 H2 d B s x
end
end Fw

set_option Elab.async false
set_option maxRecDepth 100000
set_option maxHeartbeats 4000000
/-! Fw43: lambdas without parameters that may raise, handed to a def. -/
namespace Fw
open PySem PySem.Spec PyProof.Rows L2
/-- what a call of f comes to: something, or the exception -/
def CallZ (Z : Zd) (k : Nat) (kp : Addr → Obj → Prop) (F : Hp) (f : Addr) (o : Outc) : Prop := (∀ h : Heap, (∀ b o, kp b o → h.get? b = some o) → PySem.W.FnAt f h) ∧ ∀ (A : Around) (outer : List Env) (s : Shared) (H : Hp) (Q : VK) (E : XK) (F1 : Hp),
  Rm k A → Env0 Z.P Z.w Z.K Z.mg Z.base A outer s H → (∀ b o, kp b o → s.heap.get? b = some o ∧ H b = none) → FLe F F1 → FLe F1 H → (∀ b o, F1 b = some o → NT o) → Z.Tb H →
  (match o with
    | none => ∀ v F' H', Grow Z F1 H F' H' → Q v H'
    | some (C, fs) => ∀ d F' H', Grow Z F1 H F' H' → XdOk Z.K F' H' fs d → E (.ref C) d H') →
  codeAny (model Z.P Z.w) A (.call (.ref f) ⟨[], []⟩) (CR (L2.CX Z.P Z.w) outer Z.P Z.w H s Q E) s
theorem CallZ.mono {Z : Zd} {k : Nat} {kp : Addr → Obj → Prop} {F F' : Hp} {f : Addr} {o : Outc} (h : CallZ Z k kp F f o) (l : FLe F F') : CallZ Z k kp F' f o := ⟨h.1, fun A outer s H Q E F1 r e kk l1 => h.2 A outer s H Q E F1 r e kk (l.trans l1)⟩
def lamCE (Z : Zd) (N : List Str) (scope : Scope) (k : Nat) (E : XK) : CD := ⟨Z, N, scope, fun _ => false, k, E, fun _ _ => False, none⟩
theorem callZ_of {Z : Zd} {k : Nat} {kp : Addr → Obj → Prop} {F H0 : Hp} {s0 : Shared} {f c' : Addr} {q : Str} {params : Arguments} {body : Expr} {scope : Scope} {cl : List (Str × Addr)} {pm ctv : Value} {fr : List Str} {caps : L2.St} {ρc : List Ent} {o : Outc}
    (L : LamP [] fr scope) (hf : kp f (PySem.W.kla_obj "<lambda>" q params body scope cl pm c' ctv)) (hcode : (c', q) ∈ Z.cd)
    (hfree : ∀ y, scope.names.lookup y = some .free → ∃ c, cl.lookup y = some c) (hinj : ∀ x y c, cl.lookup x = some c → cl.lookup y = some c → x = y)
    (hcell : ∀ x c, cl.lookup x = some c → ∃ v o, kp c o ∧ o.data = .cell v) (hcap : ∀ (i : Nat) (y : Str) (v : V), fr[i]? = some y → caps[i]? = some (some v) → ∃ u c o, RelV v u ∧ cl.lookup y = some c ∧ kp c o ∧ o.data = .cell (some u))
    (hcl : caps.length = fr.length) (hE : EntsOk Z (fun _ => False) F H0 ρc caps (List.replicate fr.length [])) (hρ : ∀ e ∈ ρc, (match e with | .d _ => True | .un => True | _ => False))
    (hbind : ∀ (s : Shared), BindsTo s (PySem.W.kla_fn "<lambda>" q params body scope cl pm (.ref c') ctv) ⟨[], []⟩ [])
    (hb : ∀ E, ∃ t ρ', EzX (lamCE Z fr scope k E) body ρc o t ρ') : CallZ Z (k + 1) kp F f o := by
  refine ⟨fun h hk => ⟨_, _, _, _, hk f _ hf⟩, ?_⟩
  intro A outer s H Q E F1 rm e0 kk l1 l2 lnt tb hS
  obtain ⟨z, ρ', hev⟩ := hb E
  obtain ⟨⟨oc, wvs, t, hoc, hdc, hvc⟩, _, _⟩ := e0.hok c' _ (tb.2 _ hcode)
  have lim : s.heap.NoLimit := e0.mod.nolimit.keeps fun b o e => (e0.bs b o e).1
  refine PySem.W.kla_callFunE rm.room.depth (kk f _ hf).1 rfl L.co L.gen rfl ⟨c', oc, wvs, t, rfl, hoc, hdc, hvc⟩ ?_
  refine hbind s _ _ _ _ ?_
  refine wpAny_newFunctionEnv L.nocell (fun y hy => by cases hy) (fun h₁ hns hsb => ⟨lim.fresh _ hsb, ?_⟩) L.kind
  have kp' : ∀ b o, s.heap.get? b = some o → h₁.get? b = some o := fun b o e => hsb.extBut b o (Nat.ne_of_lt (Heap.lt_size e)) (Heap.get?_push_of_some _ e)
  have J : Inv (lamC Z.P Z.w Z.K Z.mg Z.base ([] ++ fr) q cl scope f c' A outer s H E) [] (([] : List V).map some ++ caps) H { s with heap := h₁, toks := s.toks + (([] : List Str).zip ([] : List Value)).length } :=
    lam_inv L hfree hinj (fun x c e => by
      obtain ⟨v, o, ho, hdo⟩ := hcell x c e
      exact ⟨⟨v, o, (kk c o ho).1, hdo⟩, (kk c o ho).2⟩) (fun i y v e1 e2 => by
      obtain ⟨u, c, o, rv, ec, ho, hdo⟩ := hcap i y v e1 e2
      exact ⟨u, c, rv, ec, o, (kk c o ho).1, hdo⟩) rm.room.hd e0 hns kp' .nil rfl hcl
  have hE1 : EntsOk Z (fun _ => False) F1 H ρc caps (List.replicate fr.length []) := by
    have go : ∀ {ρ : Env'} {σ : L2.St} {as : List (List Addr)}, EntsOk Z (fun _ => False) F H0 ρ σ as → (∀ e ∈ ρ, (match e with | .d _ => True | .un => True | _ => False)) → EntsOk Z (fun _ => False) F1 H ρ σ as := by
      intro ρ
      induction ρ with
      | nil => intro σ as h _; exact h
      | cons e ρ ih =>
        intro σ as h k
        obtain ⟨o, σ', bs, as', rfl, rfl, q, r⟩ := h
        refine ⟨o, σ', bs, as', rfl, rfl, ?_, ih r fun e he => k e (List.mem_cons_of_mem _ he)⟩
        have ke := k e (by simp)
        cases e with
        | un => exact q
        | d x => exact ⟨q.1, q.2.imp fun v h => ⟨h.1, Den.mono l1 x v h.2⟩⟩
        | ot b t => exact ke.elim
        | fn _ _ _ => exact ke.elim
    exact go hE hρ
  have T0 : Stt Z ⟨H, [], nfOf F1 H⟩ F1 (([] : List V).map some ++ caps) H ρc := by
    have hE2 : EntsOk Z (nfOf F1 H) F1 H ρc caps (List.replicate fr.length []) := by
      have go2 : ∀ {ρ : Env'} {σ : L2.St} {as : List (List Addr)}, EntsOk Z (fun _ => False) F1 H ρ σ as → (∀ e ∈ ρ, (match e with | .d _ => True | .un => True | _ => False)) → EntsOk Z (nfOf F1 H) F1 H ρ σ as := by
        intro ρ
        induction ρ with
        | nil => intro σ as h _; exact h
        | cons e ρ ih =>
          intro σ as h k
          obtain ⟨o, σ', bs, as', rfl, rfl, q, r⟩ := h
          refine ⟨o, σ', bs, as', rfl, rfl, ?_, ih r fun e he => k e (List.mem_cons_of_mem _ he)⟩
          have ke := k e (by simp)
          cases e with
          | un => exact q
          | d x => exact q
          | ot b t => exact ke.elim
          | fn _ _ _ => exact ke.elim
      exact go2 hE1 hρ
    exact ⟨l2, lnt, fun b o e _ _ => e, fun a h => h, fun a h => h, tb, _, hE2, by simp, by simp⟩
  have okL : (lamCE Z fr scope k E).Ok (lamC Z.P Z.w Z.K Z.mg Z.base ([] ++ fr) q cl scope f c' A outer s H E) :=
    ⟨rfl, rfl, rfl, rfl, rfl, rfl, rfl, rfl, rfl, PassesOwn.leaving, takes_of (E := E) rfl rfl rfl rfl, rm.deeper _, (fun _ _ h => h.elim), fun _ z => nomatch z⟩
  refine PySem.W.kla_codeExpr (wpAny_mono ((pe_tE okL body).run [] _ _ H (fun v H' => Q v H') J ?_) (fun v s' hq => ?_) fun e s' hq => ?_)
  · cases o with
    | none => exact hev _ F1 _ H _ T0 fun v F' H' S' s q => hS v F' H' (grow_of S' s)
    | some p =>
      obtain ⟨C, fs⟩ := p
      exact hev _ F1 _ H _ T0 fun F' H' d S' s q => hS d F' H' (grow_of S' s) q
  · obtain ⟨w', H', J', rv, q⟩ := hq
    exact ⟨w', H', J'.os, J'.bare, J'.base, J'.hok, rv, q⟩
  · exact hq
/-- the def x takes a thing that is called without arguments; So: what comes of it -/
structure KnZ (Z : Zd) (k j : Nat) (x : Str) (So : Outc → (D → Prop) → Prop) : Prop where
  ex : ∃ f fd p1, Z.mg x = some (.ref f) ∧ PySem.W.keepIn Z.K (.ref f) = true ∧ Binds Z.K fd [p1] [] ∧
    ∀ (p : Addr × Str) (A : Around) (outer : List Env) (s : Shared) (H : Hp) (args : Args) (us : List Value) (Q : VK) (E : XK) (F : Hp) (fa : Addr) (o : Outc) (kp : Addr → Obj → Prop),
      Rm k A → Env0 Z.P Z.w Z.K Z.mg Z.base A outer s H → BindsTo s fd args ([p1].zip us) → Vals [V.ref fa] us → (∀ b o, kp b o → s.heap.get? b = some o ∧ H b = none ∧ b ∉ frs outer) → CallZ (Z.add p) j kp F fa o →
      FLe F H → (∀ b o, F b = some o → NT o) → (Z.add p).Tb H → So o (fun z => ∀ v F' H', Grow (Z.add p) F H F' H' → Den Z.K F' z v → Q v H') →
      codeAny (model Z.P Z.w) A (.call (.ref f) args) (CR (L2.CX Z.P Z.w) outer Z.P Z.w H s Q E) s
section
variable {c : CD} {ρ ρ1 ρ2 : Env'} {vis loc : List Nat} {gl : List Str}
/-- x(lambda: body) -/
theorem E_lam0 (S : ScOk c vis loc gl) {j m : Nat} {x q : Str} {p lpos pos : Pos} {params : Arguments} {body : Expr} {scope : Scope} {z : D} {So : Outc → (D → Prop) → Prop} {o : Outc} {cc P : Addr} {fr : List Str} {ix : List Nat} {xs : List D} (vis' : List Nat) (gl' : List Str)
    (F : KnZ c.z j (m + 1) x So) (hj : j ≤ c.k) (hmk : c.mkr = some (q, cc)) (TB : LamX.TabB c.base c.mg cc P) (hmT : (P, q ++ "<lambda>") ∈ c.z.T) (hu : ∀ t ∈ c.z.T, t.1 = P → t.2 = q ++ "<lambda>") (L : LamP [] fr scope)
    (hC : Cap c ρ fr ix xs) (hall : ∀ y ∈ scope.names, y.2 = .free → y.1 ∈ fr) (hdef : ∀ X : Cx, defaultsOf params X.env = ([], []))
    (hbind : ∀ (q : Str) (cl : List (Str × Addr)) (pm cv ctv : Value), bindArgs (PySem.W.kla_fn "<lambda>" q params body scope cl pm cv ctv) ⟨[], []⟩ = pure [])
    (S2 : ∀ t E, ScOk (lamCE (c.z.add t) fr scope m E) vis' [] gl')
    (hb : ∀ t E, ScOk (lamCE (c.z.add t) fr scope m E) vis' [] gl' → ∃ r ρ', EzX (lamCE (c.z.add t) fr scope m E) body (xs.map Ent.d) o r ρ') (hS : ∀ Q : D → Prop, Q z → So o Q) (hx : x ∈ gl) (hs : ∀ X : Cx, starEach [.Lambda params body scope lpos] X.env = [(false, eval (.Lambda params body scope lpos) X.env)]) :
    EvX c (.Call (.Name x p) [.Lambda params body scope lpos] [] pos) ρ (.d z) ρ := fun G F0 σ H Q T k => by
  obtain ⟨f, fd, p1, hm, hk, hbd, run⟩ := F.ex
  refine ⟨fun σ' H' Q' => σ' = σ ∧ H' = H ∧ Q' = Q, fun X ok => ⟨fun pins s σ' H' Q' I h => ?_⟩, rfl, rfl, rfl⟩
  obtain ⟨rfl, rfl, rfl⟩ := h
  obtain ⟨oq, oc⟩ := ok.maker _ hmk
  refine wpAny_Call_Name_kw (ld_glob I (ok.glOf S hx) (by rw [ok.mg]; exact hm) ?_ (S.glOf hx).2.1)
  refine PySem.W.callWith_K (h₀ := X.base) I.ok.mod.kin (by rw [ok.K]; exact hk) ?_ (hs X) rfl
  rw [hs X]
  show wpAny _ _ (spliced ((false, eval (.Lambda params body scope lpos) X.env) :: [])) _ _ s
  have I1 := I
  have T1 := T
  have hfree : ∀ y ∈ scope.names, y.2 = .free → ∃ c, X.env.cells.lookup y.1 = some c := fun y hy e => by
    obtain ⟨mm, hmm⟩ := List.getElem?_of_mem (hall y hy e)
    obtain ⟨i, xx, _, _, _, _, hc, _⟩ := hC.at_ mm y.1 hmm
    exact I1.ok.has _ (.inl (by show X.env.scope.names.lookup y.1 = _; rw [ok.sc]; exact hc))
  refine Calls.spliced_cons (lam_mk (T := c.z.T) (cc := cc) (P := P) (nm := q ++ "<lambda>") I1 (by rw [ok.base, ok.mg]; exact TB) oc (by rw [oq]) hmT hu T1.tabs.1 (hdef X) hfree fun fa c' pm ctv H2 s2 I2 eN dom2 T2 hfo hfn hfr hco => ?_)
  have kin2 : X.K.In s2.heap := I2.kIn
  refine Calls.spliced_nil ⟨kin2, ?_⟩
  -- the state behind the making
  have g2 : Grow c.z F0 H' F0 H2 := ⟨eN, .refl F0, fun b o e => eN b o (T1.fle b o e) (T1.fnt b o e), fun _ _ e => e, dom2, fun tb => ⟨T2, fun t ht => eN _ _ (tb.2 t ht) fun ps => LamX.codeO_ne ps⟩, fun h => h⟩
  have T3 := T1.grow g2
  have hcl : ∀ {y : Str} {c0 : Addr}, (cloFrom X.env.cells scope.names []).lookup y = some c0 → y ∈ fr ∧ X.env.cells.lookup y = some c0 := fun {y c0} ec => by
    rcases cloFrom_mem (PySem.mem_of_lookup ec) with hz | ⟨h1, h2⟩
    · cases hz
    · obtain ⟨c1, hc1⟩ := hfree _ h1 rfl
      have hc1 : X.env.cells.lookup y = some c1 := hc1
      rw [hc1] at h2
      exact ⟨hall _ h1 rfl, by rw [hc1, show c0 = c1 from h2]⟩
  have looks : ∀ {y : Str}, y ∈ fr → ∃ c0, (cloFrom X.env.cells scope.names []).lookup y = some c0 := fun {y} hy => mem_lookup (cloFrom_has (cells := X.env.cells) (acc := []) (PySem.mem_of_lookup (L.free y hy)))
  have nfs : ∀ {y : Str} {c0 : Addr}, y ∈ fr → X.env.cells.lookup y = some c0 → c0 ∉ frs X.stack := fun {y c0} hy hc z => by
    rcases List.mem_cons.mp (I2.stkSub _ z) with w | w
    · exact I2.cne y c0 hc w
    · obtain ⟨_, o, ho, _⟩ := I2.ok.funs.mem w
      obtain ⟨mm, hmm⟩ := List.getElem?_of_mem hy
      obtain ⟨_, _, _, _, _, _, _, hfn'⟩ := hC.at_ mm y hmm
      exact absurd (Heap.lt_size ho) (Nat.not_lt.mpr (I2.ok.cab y c0 (by rw [ok.fn]; exact hfn') hc))
  let kp : Addr → Obj → Prop := fun b o => s2.heap.get? b = some o ∧ H2 b = none ∧ b ∉ frs X.stack
  obtain ⟨mvals, hns, hloc⟩ := I2.loc
  -- what is captured
  let caps : L2.St := ix.map fun i => (σ'[i]?).join
  have hcaps : caps.length = fr.length := by simp [caps, hC.n]
  have capd : ∀ (mm : Nat) (y : Str), fr[mm]? = some y → ∃ x0 v0, xs[mm]? = some x0 ∧ caps[mm]? = some (some v0) ∧ Den c.K F0 x0 v0 ∧ ∃ u0 c0, RelV v0 u0 ∧ X.env.cells.lookup y = some c0 ∧ s2.heap.IsCell c0 (some u0) := fun mm y hy => by
    obtain ⟨i, x0, hi, hx0, hN, hρ, hc, _⟩ := hC.at_ mm y hy
    obtain ⟨v0, hv0, dv0⟩ := T3.at hρ
    refine ⟨x0, v0, hx0, ?_, dv0, ?_⟩
    · show (ix.map fun i => (σ'[i]?).join)[mm]? = _
      rw [List.getElem?_map, hi]
      show some ((σ'[i]?).join) = _
      rw [hv0]
      rfl
    · have vis' : Vis X.env.scope y := .inr (.inl (by rw [ok.sc]; exact hc))
      obtain ⟨u0, r0, lk⟩ := hloc i y v0 (by rw [ok.N]; exact hN) hv0 vis'
      rcases lk with ⟨hkd, _⟩ | ⟨_, c0, ec, ic⟩
      · have hkd : X.env.scope.names.lookup y = some .local := hkd
        rw [ok.sc, hc] at hkd
        cases hkd
      · exact ⟨u0, c0, r0, ec, ic⟩
  have hE : EntsOk (c.z.add (c', q ++ "<lambda>")) (fun _ => False) F0 H2 (xs.map Ent.d) caps (List.replicate fr.length []) := by
    have go : ∀ (xs : List D) (fr : List Str) (caps : L2.St), xs.length = fr.length → caps.length = fr.length → (∀ (mm : Nat) (y : Str), fr[mm]? = some y → ∃ x0 v0, xs[mm]? = some x0 ∧ caps[mm]? = some (some v0) ∧ Den c.K F0 x0 v0) → EntsOk (c.z.add (c', q ++ "<lambda>")) (fun _ => False) F0 H2 (xs.map Ent.d) caps (List.replicate fr.length []) := by
      intro xs
      induction xs with
      | nil =>
        intro fr caps l1 l2 _
        cases fr with
        | nil => exact ⟨List.eq_nil_of_length_eq_zero l2, rfl⟩
        | cons _ _ => simp at l1
      | cons x0 xs ih =>
        intro fr caps l1 l2 hh
        cases fr with
        | nil => simp at l1
        | cons y fr =>
          cases caps with
          | nil => simp at l2
          | cons o caps =>
            obtain ⟨x1, v1, e1, e2, e3⟩ := hh 0 y rfl
            simp at e1 e2
            subst e1 e2
            exact ⟨some v1, caps, [], List.replicate fr.length [], rfl, rfl, ⟨rfl, v1, rfl, e3⟩, ih fr caps (by simpa using l1) (by simpa using l2) fun mm y hy => by
              obtain ⟨x2, v2, a1, a2, a3⟩ := hh (mm + 1) y (by simpa using hy)
              exact ⟨x2, v2, by simpa using a1, by simpa using a2, a3⟩⟩
    exact go xs fr caps hC.m hcaps fun mm y hy => by
      obtain ⟨x0, v0, a1, a2, a3, _⟩ := capd mm y hy
      exact ⟨x0, v0, a1, a2, a3⟩
  have hCall : CallZ (c.z.add (c', q ++ "<lambda>")) (m + 1) kp F0 fa o := by
    refine callZ_of (s0 := s2) (q := q ++ "<lambda>") (cl := cloFrom X.env.cells scope.names []) (fr := fr) (caps := caps) (ρc := xs.map Ent.d) (H0 := H2) L ⟨hfo, hfn, hfr⟩ (by simp) (fun y hy => looks ?_) (fun y z c0 e1 e2 => I2.ok.inj y z c0 (hcl e1).2 (hcl e2).2) (fun y c0 ec => ?_) (fun mm y v0 hy hv => ?_) hcaps hE (fun e he => ?_) (fun s => .of_eq (hbind _ _ _ _ _)) (fun E => hb _ E (S2 _ E))
    · exact hall _ (PySem.mem_of_lookup hy) rfl
    · obtain ⟨vv, o2, ho2, hd2⟩ := I2.cell y c0 (hcl ec).2
      exact ⟨vv, o2, ⟨ho2, I2.freeC y c0 (hcl ec).2, nfs (hcl ec).1 (hcl ec).2⟩, hd2⟩
    · obtain ⟨x0, v1, a1, a2, a3, u0, c0, b1, b2, o2, b3, b4⟩ := capd mm y hy
      rw [hv] at a2
      cases a2
      obtain ⟨c1, hc1⟩ := looks (List.mem_of_getElem? hy)
      have := (hcl hc1).2
      rw [b2] at this
      cases this
      exact ⟨u0, c0, o2, b1, hc1, ⟨b3, I2.freeC y c0 b2, nfs (List.mem_of_getElem? hy) b2⟩, b4⟩
    · obtain ⟨_, _, rfl⟩ := List.mem_map.mp he
      trivial
  have e0 : Env0 c.z.P c.z.w c.z.K c.z.mg c.z.base X.A X.stack s2 H2 := by
    have := I2.env0
    rw [ok.P, ok.w, ok.K, ok.mg, ok.base] at this
    exact this
  have hbt : BindsTo s2 fd ⟨[Value.ref fa], []⟩ ([p1].zip [Value.ref fa]) := by
    have kin3 : c.z.K.In s2.heap := by
      have := kin2
      rw [ok.K] at this
      exact this
    have := hbd s2 [Value.ref fa] kin3 rfl
    simpa using this
  have fin := run (c', q ++ "<lambda>") X.A X.stack s2 H2 ⟨[Value.ref fa], []⟩ [Value.ref fa] Q' c.E F0 fa o kp (ok.room.mono hj) e0 hbt (.cons rfl .nil) (fun b o h => h) hCall T3.fle T3.fnt ⟨T3.tabs.1, fun t ht => by
      rcases List.mem_cons.mp ht with rfl | ht
      · exact hco
      · exact T3.tabs.2 t ht⟩ (hS _ fun w F' H3 g q => ?_)
  · refine wpAny_call (codeAny_mono (by rw [ok.P, ok.w]; exact fin) fun r s' q => ?_)
    have z := back_of (CX := L2.CX X.prog X.w) (E := c.E) I2 ok.pass (r := r) (s' := s') (Q := Q') (by rw [ok.P, ok.w]; exact q)
    cases r with
    | error e => exact z
    | ok fl => cases fl <;> first | exact z | exact z.elim
  · have g3 : Grow c.z F0 H2 F' H3 := ⟨g.same, g.fle, g.le, g.new, g.dom, fun t => (g.tabs ⟨t.1, fun y hy => by
      rcases List.mem_cons.mp hy with rfl | hy
      · exact hco
      · exact t.2 y hy⟩).of_add, g.nt⟩
    exact k w F' H3 (T3.grow g3) (g2.step.trans g3.step) q
end
end Fw

set_option Elab.async false
set_option maxRecDepth 100000
set_option maxHeartbeats 4000000
/-! Fw44: what was handed in is called in a try; repr within a handler; clauses by class. -/
namespace Fw
open PySem PySem.Spec PyProof.Rows L2
def rRp (K : PySem.W.Frag) : List V → Hp → VK → Prop := fun vs H Q => ∃ (x : D) (F : Hp) (v : V), vs = [v] ∧ FLe F H ∧ Den K F x v ∧ Rp x ∧ Q (.str (toR x).shown) H
theorem call_reprD {X : Cx} (hK : (X.K.lookup sysModules).isSome = true) (hc : Calm X.A) (hu : X.A.units + 200 < cLine) : CallR X (.builtin "repr") (rRp X.K) := by
  intro pins s σ H xs us Q I r ⟨x, F, v, e1, l, hv, hx, q⟩
  subst e1
  obtain ⟨o, ho⟩ := Option.isSome_iff_exists.mp hK
  have hm : H sysModules = none := (I.bs _ _ (I.ok.mod.kin _ _ ho)).2
  cases r with
  | @cons _ u _ _ ru rr =>
    cases rr
    obtain ⟨as, hr, hn⟩ := reads_of I l hm _ hx.is hv ru
    have hdp := hx.dp
    have hsh := hx.sh
    have hsz := hx.sz
    generalize toR x = d at hr hdp hsh hsz q
    cases u with
    | ref a => exact repr_of_reads' hr hsh (fun _ => hn) hc (by omega) (fun _ _ e => e) (fun h' u tk hk => ⟨.str _, H, I.kept (t' := tk) hk, ⟨_, rfl⟩, q⟩) hsz
    | none => cases hr; exact PySem.P.repr_of_none ⟨.str _, H, I.tok _, ⟨_, rfl⟩, q⟩
    | bool b => cases hr; exact PySem.P.repr_of_bool ⟨.str _, H, I.tok _, ⟨_, rfl⟩, q⟩
    | int i t => cases hr; exact PySem.P.repr_of_int (by simpa [PyData.showable] using hsh) ⟨.str _, H, I.tok _, ⟨_, rfl⟩, q⟩
    | str y t => cases hr; exact PySem.P.repr_of_str ⟨.str _, H, I.tok _, ⟨_, rfl⟩, q⟩ (by simpa only [PyData.shown] using hsz)
    | _ => cases hr
/-- the call of what was handed in -/
def tAct (Z : Zd) (i : Nat) (fa : Addr) (F0 : Hp) (o : Outc) (W : WX) : TE := fun σ H Q => σ[i]? = some (some (.ref fa)) ∧ ∃ F1, FLe F0 F1 ∧ FLe F1 H ∧ (∀ b u, F1 b = some u → NT u) ∧ Z.Tb H ∧
  (match o with
    | none => ∀ v F' H', Grow Z F1 H F' H' → Q v H'
    | some (C, fs) => ∀ d F' H', Grow Z F1 H F' H' → XdOk Z.K F' H' fs d → W (.ref C) d σ H')
theorem pe_act {X : Cx} {Z : Zd} {i j : Nat} {y : Str} {p pos : Pos} {fa : Addr} {F0 : Hp} {o : Outc} {W : WX} {kp : Addr → Obj → Prop} (hP : X.prog = Z.P) (hw : X.w = Z.w) (hK : X.K = Z.K) (hmg : X.mg = Z.mg) (hbs : X.base = Z.base) (hr : Rm j X.A)
    (hN : X.N[i]? = some y) (hv : Vis X.env.scope y) (h1 : (y == ("__debug__" : Str)) = false) (h2 : (y == ("__classdict__" : Str)) = false) (hk : ∀ b u, kp b u → X.s_0.heap.get? b = some u ∧ X.H_0 b = none ∧ b ∉ X.fs ∧ b ∉ X.ex) (tk : Takes X W) (hz : CallZ Z j kp F0 fa o) :
    PE X (.Call (.Name y p) [] [] pos) (tAct Z i fa F0 o W) := by
  refine ⟨fun pins s σ H Q I ⟨ef, F1, l0, l1, lnt, tb, hq⟩ => ?_⟩
  refine wpAny_Call_Name_kw (thn ((pe_var (pos := p) hN hv h1 h2).run pins s σ H (fun v H1 => v = .ref fa ∧ H1 = H) I ⟨.ref fa, ef, rfl, rfl⟩) fun u s1 hs => ?_)
  obtain ⟨v, H1, I1, r1, rfl, rfl⟩ := hs
  obtain rfl : u = Value.ref fa := r1
  have kk : ∀ b u, kp b u → s1.heap.get? b = some u ∧ H1 b = none := fun b u z => by
    obtain ⟨k1, k2, k3, k4⟩ := hk b u z
    exact ⟨I1.base.keep b u k1 k2 k3 k4, I1.base.free b u k1 k2 k4⟩
  have e0 : Env0 Z.P Z.w Z.K Z.mg Z.base X.A X.stack s1 H1 := by
    have := I1.env0
    rw [hP, hw, hK, hmg, hbs] at this
    exact this
  have run := hz.2 X.A X.stack s1 H1 Q (fun cls d H' => W cls d σ H') F1 hr e0 kk l0 l1 lnt tb (by
    cases o with
    | none => exact hq
    | some p => exact hq)
  refine PySem.W.callWith_F0 (hz.1 s1.heap fun b u z => (kk b u z).1) (wpAny_call (codeAny_mono (by rw [hP, hw]; exact run) fun r s' q => ?_))
  have q : CR (L2.CX X.prog X.w) X.stack X.prog X.w H1 s1 Q (fun cls d H' => W cls d σ H') r s' := by rw [hP, hw]; exact q
  cases r with
  | error e => exact tk _ _ (L2.XE.of_call I1 (fun _ _ _ h => h) q)
  | ok fl => cases fl <;> first | exact I1.after q | exact q.elim
/-- the clause of the exception's class -/
theorem wClas_run {K : PySem.W.Frag} {A : Str → Addr} {i : Nat} {ts : Str → Addr → Value → Option Addr → TS} {Wout : WX} {D : Ends} {d : Option Addr} {σ : L2.St} {H : Hp} {x : Str} (hts : ∀ a, H a = none → ts x a (.ref (A x)) d (gone i D) (σ.set i (some (.ref a))) H) :
    ∀ {ys : List Str}, x ∈ ys → (∀ y ∈ ys, PySem.W.exmOne K (.ref (A x)) (.ref (A y)) = some (decide (x = y))) → wClas K Wout D (ys.map fun y => (Value.ref (A y), i, ts y)) (.ref (A x)) d σ H
  | [], h, _ => by cases h
  | y :: ys, h, he => by
    refine ⟨decide (x = y), he y (by simp), fun e a na => ?_, fun e => ?_⟩
    · have e := of_decide_eq_true e
      subst e
      exact hts a na
    · have e := of_decide_eq_false e
      exact wClas_run hts (by
        rcases List.mem_cons.mp h with z | z
        · exact absurd z e
        · exact z) fun y hy => he y (List.mem_cons_of_mem _ hy)
end Fw

set_option Elab.async false
set_option maxRecDepth 100000
set_option maxHeartbeats 4000000
/-! Fw45: == of lists of alike data. -/
namespace Fw
open PySem PySem.Spec PyProof.Rows L2
section
variable {c : CD} {ρ ρ1 ρ2 : Env'}
theorem toPys_len (ds : List D) : (toPys ds).length = ds.length := by
  induction ds with
  | nil => rfl
  | cons x xs ih => show (toPy x :: toPys xs).length = _; simp [ih]
theorem o_eqLA {xs ys : List D} (px : isPys xs = true) (py : isPys ys = true) (al : PySem.W.alikeAll (toPys xs) (toPys ys) = true) (hl : xs.length = ys.length) (dp : min (PyData.depthAll (toPys xs)) (PyData.depthAll (toPys ys)) ≤ 60) :
    Op2 c (compareOp .Eq) (.lst xs) (.lst ys) (.bl (PyData.eqvAll (toPys xs) (toPys ys))) := by
  refine cm_op (fun X ok => cm_run (x := .lst xs) (y := .lst ys) fun {s Q as bs u v} r1 r2 q => ?_) px py
  have r1 : Reads s.heap u (.list (toPys xs)) as := r1
  have r2 : Reads s.heap v (.list (toPys ys)) bs := r2
  have hroom := ok.room1.units
  cases r1 with
  | @list l1 o1 vs1 n1 _ as1 h1 h2 h3 h4 =>
    cases r2 with
    | @list l2 o2 vs2 n2 _ as2 k1 k2 k3 k4 =>
      have z1 : vs1.size = xs.length := by
        have e := SeqAt.ReadsAll.length _ _ _ h4
        rw [toPys_len] at e
        simpa using e
      have z2 : vs2.size = ys.length := by
        have e := SeqAt.ReadsAll.length _ _ _ k4
        rw [toPys_len] at e
        simpa using e
      rw [← SeqAt.eqvAll_same_length (by rw [toPys_len, toPys_len]; exact hl : (toPys xs).length = (toPys ys).length), toPys_len, ← z1] at q
      refine SeqAt.RcAt.lists (s := s) (A := X.A) ⟨_, h1, h2, _, h3⟩ ⟨_, k1, k2, _, k3⟩ (by omega) (by omega) (fun j j1 j2 => ?_) X.prog X.w X.xe Q q
      have := PySem.W.eqAt_alikeAll (toPys xs) (toPys ys) X.A.in1 s vs1.toList vs2.toList _ _ h4 k4 al (by show X.A.units + 1 + _ < _; omega) j (by simpa using j1) (by simpa using j2)
      simpa using this
end
end Fw

set_option Elab.async false
set_option maxRecDepth 100000
set_option maxHeartbeats 4000000
/-! Fw46: promises with own things, where more code objects are known. -/
namespace Fw
open PySem PySem.Spec PyProof.Rows L2
abbrev SpO := List Ent → (Res → List Ent → Prop) → (Value → List (Str × D) → List Ent → Prop) → Prop
def plainAll (es : List Ent) : Prop := ∀ e ∈ es, Ent.plain e
def MonoE (Sd : SpO) : Prop := ∀ es Q Q' R R', Sd es Q R → plainAll es ∧ ((∀ r es', plainAll es' → Q r es' → Q' r es') → (∀ C fs es', plainAll es' → R C fs es' → R' C fs es') → Sd es Q' R')
theorem plain_cons {a : Option Addr} {t : Tr} {ds : List D} : plainAll (.ot a t :: ds.map Ent.d) := fun e he => by
  rcases List.mem_cons.mp he with rfl | z
  · trivial
  · exact plain_ds ds e z
section
variable {Z : Zd} {p : Addr × Str} {nf : Addr → Prop}
theorem SpE.add {Sd : SpO} (m : MonoE Sd) (vs : List V) (H : Hp) (Q : VK) (E : XK) (h : SpE (Z.add p) Sd vs H Q E) : SpE Z Sd vs H Q E := by
  obtain ⟨F, es, io, nf, T, hS⟩ := h
  have hpe : plainAll es := (m _ _ (fun _ _ => True) _ (fun _ _ _ => True) hS).1
  have hcd := T.tabs.2 p (by simp)
  obtain ⟨ass, q, nd, fr⟩ := T.ents
  have hno : p.1 ∉ ass.flatten := fun z => by
    obtain ⟨u, hu, hn⟩ := q.there _ z
    cases hn <;> (rw [hcd] at hu; unfold LamX.CodeO at hu; cases hu)
  have hio : ∀ a ∈ ass.flatten, a ∈ io := fun a ha => by
    rcases (fr a ha).2 with z | z
    · obtain ⟨u, hu, _⟩ := q.there _ ha
      have z : H a = none := z
      rw [z] at hu
      cases hu
    · exact z
  have T1 : Stt Z ⟨H, ass.flatten, nf⟩ F (vs.map some) H es := ⟨T.fle, T.fnt, fun b o e _ _ => e, T.nf, fun a h => h, T.tabs.of_add, ass, (EntsOk.add hpe).mp q, nd, fun a ha => ⟨(fr a ha).1, .inr ha⟩⟩
  have tb : ∀ {F' H' : Hp} {σ : L2.St} {ρ : Env'}, Stt Z ⟨H, ass.flatten, nf⟩ F' σ H' ρ → (Z.add p).Tb H' := fun {F' H' σ ρ} S => ⟨S.tabs.1, fun q hq => by
    rcases List.mem_cons.mp hq with rfl | hq
    · exact S.keep _ _ hcd hno (fun ps => LamX.codeO_ne ps)
    · exact S.tabs.2 q hq⟩
  have up : ∀ {F' H' : Hp} {σ : L2.St} {ρ : Env'}, plainAll ρ → Stt Z ⟨H, ass.flatten, nf⟩ F' σ H' ρ → Stt (Z.add p) ⟨H, io, nf⟩ F' σ H' ρ := fun {F' H' σ ρ} k S => by
    obtain ⟨ass', q', nd', fr'⟩ := S.ents
    exact ⟨S.fle, S.fnt, fun b o e n m => S.keep b o e (fun z => n (hio b z)) m, S.nf, S.dom, tb S, ass', (EntsOk.add k).mpr q', nd', fun a ha => ⟨(fr' a ha).1, (fr' a ha).2.imp id fun z => hio a z⟩⟩
  refine ⟨F, es, ass.flatten, nf, T1, ?_⟩
  refine (m es _ _ _ _ hS).2 (fun r es' hp hr v F' H' S' s q => hr v F' H' (up hp S') s ?_) (fun C fs es' hp hr F' H' d S' s q => hr F' H' d (up hp S') s q)
  cases r with
  | d x => exact q
  | sub i p' => exact q
  | fr t => exact up (fun e he => by
      rcases List.mem_append.mp he with z | z
      · exact hp e z
      · rw [List.mem_singleton.mp z]; trivial) q
theorem FnK.add {CX : CXT} {k : Nat} {f : Addr} {fd : FuncData} {ps : List Str} {Sd : SpO} (m : MonoE Sd) (F : FnK Z.P Z.w Z.K Z.mg Z.base CX k f fd ps (SpE Z Sd)) : FnK Z.P Z.w Z.K Z.mg Z.base CX k f fd ps (SpE (Z.add p) Sd) :=
  ⟨fun vs H Q E q => F.len vs H Q E (SpE.add m vs H Q E q), fun A outer s H args us vs Q E hr he hb hv q => F.run A outer s H args us vs Q E hr he hb hv (SpE.add m vs H Q E q)⟩
theorem KnC.add {k : Nat} {x : Str} {C : Addr} {Sd : SpO} (m : MonoE Sd) (h : KnC Z k x C (SpE Z Sd)) : KnC (Z.add p) k x C (SpE (Z.add p) Sd) := by
  obtain ⟨f, fd, ps, h1, h2, h3, F⟩ := h.ex
  exact ⟨f, fd, ps, h1, h2, h3, F.add m⟩
theorem KnCK.add {k : Nat} {x : Str} {C : Addr} {ks : List Str} {g : {α : Type} → List α → List α} {Sd : SpO} (m : MonoE Sd) (h : KnCK Z k x C ks g (SpE Z Sd)) : KnCK (Z.add p) k x C ks g (SpE (Z.add p) Sd) := by
  obtain ⟨f, fd, ps, h1, h2, h3, F⟩ := h.ex
  exact ⟨f, fd, ps, h1, h2, h3, F.add m⟩
end
end Fw

set_option Elab.async false
set_option maxRecDepth 100000
set_option maxHeartbeats 4000000
/-! Fw47: sorted texts, s.split(t). -/
namespace Fw
open PySem PySem.Spec PyProof.Rows L2
/-- texts in order -/
def leS (x y : Str) : Bool := !ltCps y.cps.toList x.cps.toList
def srt (xs : List Str) : List Str := xs.mergeSort leS
theorem leS_iff {x y : Str} : leS x y = true ↔ x.cps.toList ≤ y.cps.toList := by
  unfold leS
  rw [ltCps_eq]
  simp
theorem leS_anti {x y : Str} (h1 : leS x y = true) (h2 : leS y x = true) : x = y := PySem.W.str_of_cps (List.le_antisymm (leS_iff.mp h1) (leS_iff.mp h2))
theorem leS_trans {x y z : Str} (h1 : leS x y = true) (h2 : leS y z = true) : leS x z = true := leS_iff.mpr (List.le_trans (leS_iff.mp h1) (leS_iff.mp h2))
theorem leS_total {x y : Str} : (leS x y || leS y x) = true := by
  rw [Bool.or_eq_true, leS_iff, leS_iff]
  exact List.le_total _ _
theorem sortedS_pair : ∀ {ys : List Str}, sortedS ys = true → ys.Pairwise fun x y => leS x y = true
  | [], _ => .nil
  | x :: ys, h => by
    have go : ∀ (ys : List Str) (x : Str), risingS x ys = true → (x :: ys).Pairwise fun x y => leS x y = true := by
      intro ys
      induction ys with
      | nil => intro x _; simp
      | cons y ys ih =>
        intro x h
        obtain ⟨h1, h2⟩ := and2 (show (leS x y && risingS y ys) = true from h)
        have p := ih y h2
        refine List.pairwise_cons.mpr ⟨fun z hz => ?_, p⟩
        rcases List.mem_cons.mp hz with rfl | hz
        · exact h1
        · exact leS_trans h1 (List.rel_of_pairwise_cons p hz)
    exact go ys x h
theorem srt_pair (xs : List Str) : (srt xs).Pairwise fun x y => leS x y = true := List.pairwise_mergeSort (le := leS) (fun _ _ _ h1 h2 => leS_trans h1 h2) (fun _ _ => leS_total) xs
theorem srt_perm (xs : List Str) : (srt xs).Perm xs := List.mergeSort_perm xs leS
theorem srt_of {xs ys : List Str} (h : ys.Perm xs) (hs : sortedS ys = true) : ys = srt xs := List.Perm.eq_of_pairwise (le := fun x y => leS x y = true) (fun _ _ _ _ h1 h2 => leS_anti h1 h2) (sortedS_pair hs) (srt_pair xs) (h.trans (srt_perm xs).symm)
section
variable {c : CD} {ρ ρ1 ρ2 : Env'}
/-- sorted(texts) -/
theorem b_sortedS {xs : List Str} (hl : xs.length < 64) : Cb c (.builtin "sorted") [.lst (xs.map D.str)] (.lst ((srt xs).map D.str)) := by
  intro F H vs Q l h k
  obtain ⟨v, _, rfl, ⟨a, ws, rfl, hv, r⟩, rfl⟩ := h
  refine ⟨_, fun X ok => by have := cr_sortedS (X := X); rw [ok.K] at this; exact this, ?_⟩
  rw [DenAll.strs.mp r] at hv
  refine ⟨a, xs, rfl, SqL.of hv, hl, fun ys p hp hs n => ?_⟩
  rw [srt_of hp hs]
  exact k _ _ _ (Grow.alloc l n) ⟨p, _, rfl, upd_same, DenAll.strs.mpr rfl⟩
/-- s.split(t) -/
theorem E_split {o e : Expr} {ap cpos : Pos} {a b : Str} (ho : EvX c o ρ (.d (.str a)) ρ1) (he : EvX c e ρ1 (.d (.str b)) ρ2) (hb : (b.length == 0) = false) (hl : a.length ≤ 1000000) (h1s : ∀ X : Cx, starEach [e] X.env = [(false, eval e X.env)]) (hbase : ∀ X : Cx, attributeBase o "split" X.env (eval o X.env) = eval o X.env) (hline : (ap.endLine == cpos.line) = true) :
    EvX c (.Call (.Attribute o "split" ap) [e] [] cpos) ρ (.fr (.fl ((Txt.split a b).map D.str))) ρ2 := fun G F σ H Q T k => by
  refine ⟨_, fun X ok => pe_split (pe_tE ok o) (pe_tE ok e) (h1s X) (hbase X) hline, ?_⟩
  refine ho G F σ H _ T fun v F1 H1 T1 s1 q1 => ?_
  have q1 : v = .str a := q1
  subst q1
  refine ⟨⟨a, rfl⟩, he G F1 σ H1 _ T1 fun u F2 H2 T2 s2 q2 => ?_⟩
  have q2 : u = .str b := q2
  subst q2
  refine ⟨a, b, rfl, rfl, hb, by rw [sizeLine_eq]; omega, fun p n => ?_⟩
  have T3 : Stt c.z G F2 (σ ++ [some (.ref p)]) (upd H2 p (.lst ((Txt.split a b).map V.str))) (ρ2 ++ [.ot none (.fl ((Txt.split a b).map D.str))]) := T2.newT n ⟨p, _, rfl, rfl, upd_same, DenAll.strs.mpr rfl⟩
  exact k _ F2 _ (T3.drops T2.len) ((s1.trans s2).trans .upd) T3
end
end Fw

set_option Elab.async false
set_option maxRecDepth 100000
set_option maxHeartbeats 4000000
/-! Fw48: a tuple's repetition, a tuple told backwards, sums of lists as new things. -/
namespace Fw
open PySem PySem.Spec PyProof.Rows L2
theorem tuple_mul1 (l : Addr) (items : Array Value) (n : Nat) (dd : Option Addr) (sl : Array (Option Value)) (u : Tok) :
    Meets (Builtin.«tuple.__mul__» ⟨[.ref l, .int 1 u], []⟩) (fun _ R s => s.heap.get? l = some { cls := .type "tuple", dict := dd, data := .seq items n, slots := sl } ∧ R (.ok (.ret (Value.ref l))) s) :=
  .of_wp fun prog w A R s h => by
    obtain ⟨hp, g, d, tk, os⟩ := s
    obtain ⟨hl, h⟩ := h
    have f1 := AutoSeq1.idx_int
    have c1 : (items.isEmpty || (1 : Int) == 1) = true := by simp
    wp_walk using wpAny_loadPart' hl
    repeat (first
      | (refine wpAny_ite_true c1 ?_; wp_walk using wpAny_loadPart' hl)
      | (refine wpAny_ite_true (decide_eq_true c1) ?_; wp_walk using wpAny_loadPart' hl))
    exact ⟨_, rfl, h⟩
/-- t * 1 -/
def rRep1 (K : PySem.W.Frag) : R2 := fun x y H Q => ∃ l xs, x = .ref l ∧ y = .int 1 ∧ SqT K H l xs ∧ Q (.ref l) H
theorem op_rep1 {X : Cx} : OpR X (binaryOp .Mult) (rRep1 X.K) := by
  intro pins s σ H x y v u Q I rx ry h
  obtain ⟨l, xs, rfl, rfl, hT, q⟩ := h
  cases rx
  obtain ⟨t, rfl⟩ := ry
  obtain ⟨its, r, ⟨⟨cls, dd, data, sl⟩, ho, hc, n, hd⟩, hs⟩ := I.tuple hT
  simp only at hc hd
  subst hc hd
  refine wpAny_binaryOp_repeat_ref (T := "tuple") (U := "int") (by decide) ⟨_, ho, rfl⟩ (fun s' => typeIs_int s' 1 t) noFill_tuple_mul F.fills_int_mul F.slot_int_rmul repeat_tuple F.slot_int_index.lookup
    (call_meets F.slot_int_rmul (typeIs_int s 1 t) F.entry_int_rmul (F.args_int_rmul_2 _ _) (int_rmul_tuple 1 t l its.toArray n dd sl)
      ⟨ho, rfl, ⟨_, ho, rfl⟩, call_meets F.slot_tuple_mul ⟨_, ho, rfl⟩ F.entry_tuple_mul (F.args_tuple_mul_2 _ _) (tuple_mul1 l its.toArray n dd sl t) ⟨ho, ?_⟩⟩)
  exact ⟨.ref l, H, I, rfl, q⟩
/-! ### t[::-1] -/
theorem places_rev (n : Nat) : Builtin.Slice.slicePlaces ((n : Int) - 1) (-1) (-1) = n := by
  unfold Builtin.Slice.slicePlaces
  rw [if_neg (by omega)]
  by_cases h : (n : Int) - 1 > -1
  · rw [if_pos h]
    show (((n : Int) - 1 - -1 - 1) / - -1 + 1).toNat = n
    simp only [Int.neg_neg, Int.ediv_one]
    omega
  · rw [if_neg h]
    omega
theorem fm_map {α β : Type} {f : α → Option β} {g : α → β} : ∀ {l : List α}, (∀ m ∈ l, f m = some (g m)) → l.filterMap f = l.map g
  | [], _ => rfl
  | a :: l, h => by
    rw [List.filterMap_cons, h a (by simp), List.map_cons, fm_map fun m hm => h m (List.mem_cons_of_mem _ hm)]
theorem pick_rev (xs : List Value) : ((List.range xs.length).filterMap fun (m : Nat) => xs.toArray[(((xs.length : Nat) : Int) - 1 + (m : Int) * (-1)).toNat]?).toArray = xs.reverse.toArray := by
  congr 1
  apply List.ext_getElem?
  intro i
  have e : ((List.range xs.length).filterMap fun (m : Nat) => xs.toArray[(((xs.length : Nat) : Int) - 1 + (m : Int) * (-1)).toNat]?) = (List.range xs.length).map fun m => xs.getD (xs.length - 1 - m) .none := by
    refine fm_map fun m hm => ?_
    have hm : m < xs.length := by simpa using hm
    have e1 : (((xs.length : Nat) : Int) - 1 + (m : Int) * (-1)).toNat = xs.length - 1 - m := by omega
    rw [e1]
    show xs.toArray[xs.length - 1 - m]? = some (xs.getD (xs.length - 1 - m) .none)
    rw [List.getElem?_toArray, List.getD_eq_getElem?_getD, List.getElem?_eq_getElem (by omega)]
    rfl
  rw [e, List.getElem?_map]
  by_cases hi : i < xs.length
  · rw [List.getElem?_range hi, List.getElem?_reverse hi]
    show some (xs.getD (xs.length - 1 - i) .none) = _
    rw [List.getD_eq_getElem?_getD, List.getElem?_eq_getElem (by omega)]
    rfl
  · rw [List.getElem?_eq_none (by simpa using hi), List.getElem?_eq_none (by simpa using hi)]
    rfl
theorem getItem_tuple_rev {prog : Program} {w : World} {A : Around} {E : Value → Shared → Prop} {s : Shared} {t sl : Addr} {its : List Value} {vs : Value} {Q : Value → Shared → Prop} (ht : IsTup s.heap t its.toArray) (hs : s.heap.IsSliceOf sl .none .none vs) (ps : IsPart vs (some (-1)))
    (h : Q (.ref s.heap.objs.size) { s with heap := s.heap.push { cls := .type "tuple", data := .seq its.reverse.toArray } })
    (hsz : its.length ≤ sizeLine) : wpAny (model prog w) A (getItem (.ref t) (.ref sl)) Q E s := by
  have htake : sizeOk (.seq its.reverse.toArray) := by
    show its.reverse.toArray.size ≤ sizeLine
    rw [List.size_toArray, List.length_reverse]
    exact hsz
  obtain ⟨os, hos, hcs, hds⟩ := id hs
  have hTs : s.TypeIs (.ref sl) "slice" := ⟨os, hos, hcs⟩
  unfold getItem
  try with_reducible refine wpAny_holding ?_
  first | refine wpAny_bind (wpAny_pure ?_) | skip
  refine wpAny_bind (wpAny_sequenceKey ht.typeIs (by decide) ?_)
  refine wpAny_bind (wpAny_callSpecial?_slot (name := Str.ofString "__getitem__") ht.typeIs PyProof.Rows.slot_tuple_getitem
    (wpAny_call_entry PyProof.Rows.slot_tuple_getitem ht.typeIs entry_tuple_getitem ?_ (args_tuple_getitem _ _)))
  show wpAny _ _ (Builtin.Tuple.tupleItemsOf (.ref t) >>= _) _ _ s
  refine wpAny_bind (tupleItemsOf_ ht ?_)
  refine wpAny_bind (wpAny_typeOf hTs ?_)
  rw [if_pos (by decide)]
  refine wpAny_bind ?_
  unfold Builtin.Slice.sliceApplied Builtin.Slice.sliceFields
  refine wpAny_bind (wpAny_bind (wpAny_field hos hds (x := .none) rfl (wpAny_bind (wpAny_field hos hds (x := .none) rfl (wpAny_bind (wpAny_field hos hds (x := vs) rfl (wpAny_pure ?_)))))))
  refine wpAny_bind (HT.slicePart_ ps ?_)
  show wpAny _ _ (if ((-1 : Int) == 0) = true then _ else _) _ _ s
  rw [if_neg (by decide)]
  refine wpAny_bind (HT.slicePart_ .none (wpAny_bind (HT.slicePart_ .none (wpAny_bind (wpAny_pure ?_)))))
  show wpAny _ _ (pure (((its.toArray.size : Nat) : Int) - 1, (-1 : Int), Builtin.Slice.slicePlaces (((its.toArray.size : Nat) : Int) - 1) (-1) (-1))) _ _ s
  rw [places_rev, List.size_toArray]
  refine wpAny_pure ?_
  have hno : ¬ (((((its.length : Nat) : Int) - 1) == 0 && (-1 : Int) == 1 && its.length == its.toArray.size) = true) := by
    intro q
    rw [Bool.and_eq_true, Bool.and_eq_true] at q
    exact absurd q.1.2 (by decide)
  show wpAny _ _ (if ((((its.length : Nat) : Int) - 1) == 0 && (-1 : Int) == 1 && its.length == its.toArray.size) = true then _ else _) _ _ s
  rw [if_neg hno, pick_rev]
  first
    | exact wpAny_bind (m := Builtin.Tuple.tupleExact _) (wpAny_newObj_type (wpAny_pure ⟨_, rfl, wpAny_pure h⟩) htake)
    | exact wpAny_bind (m := Builtin.Tuple.tupleExact _) (wpAny_newObj_type (wpAny_bind (wpAny_pure (wpAny_pure ⟨_, rfl, wpAny_pure h⟩))) htake)
    | exact wpAny_bind (wpAny_bind (m := Builtin.Tuple.tupleExact _) (wpAny_newObj_type (wpAny_pure (wpAny_pure ⟨_, rfl, wpAny_pure h⟩)) htake))
    | exact wpAny_bind (wpAny_bind (m := Builtin.Tuple.tupleExact _) (wpAny_newObj_type (wpAny_pure ⟨_, rfl, wpAny_pure h⟩) htake))
def tRevT (K : PySem.W.Frag) (te : TE) : TE := fun σ H Q => te σ H fun x H1 => ∃ a xs, x = .ref a ∧ SqT K H1 a xs ∧ ∀ p, H1 p = none → Q (.ref p) (upd H1 p (.tup xs.reverse))
theorem pe_revT {X : Cx} {e : Expr} {te : TE} {k : Nat} {p1 p2 p3 pos : Pos} (he : PE X e te) : PE X (.Subscript e (.Slice none none (some (.UnaryOp .USub (.Constant (.int 1) k p1) p2)) p3) pos) (tRevT X.K te) := by
  refine ⟨fun pins s σ H Q I h => ?_⟩
  refine Subscript_ (thn (he.run pins s σ H _ I h) fun v s1 ⟨x, H1, I1, r1, q1⟩ => ?_)
  obtain ⟨a, xs, ex, hx, q⟩ := q1
  subst ex
  cases r1
  have hst : PO X (some (.UnaryOp .USub (.Constant (.int 1) k p1) p2)) (tPart (tUn (rU fun i => .int (-i)) (tC (.int 1)))) := po_some (pe_un un_neg pe_int)
  refine wpAny_Slice ?_
  rw [evalPart_none]
  refine wpAny_pure (wpAny_pure ?_)
  refine thn (hst.run pins s1 σ H1 (fun o H4 => o = some (-1) ∧ H4 = H1) I1 ⟨1, rfl, -1, rfl, rfl, rfl⟩) fun vs s4 ⟨o, H4, I4, ps, eo, e4⟩ => ?_
  subst eo e4
  have I5 : Inv X pins σ H4 { s4 with heap := s4.heap.push { cls := .type "slice", data := .fields #[.none, .none, vs] } } := I4.kept (t' := s4.toks) fun b ob q => Heap.get?_push_of_some _ q
  obtain ⟨its, r, ht, hz⟩ := I5.tuple hx
  have hlen := r.length
  show wpAny (model X.prog X.w) X.A (subscriptTail e (.Slice none none (some (.UnaryOp .USub (.Constant (.int 1) k p1) p2)) p3) (.ref a) (.ref s4.heap.objs.size)) (EP X pins σ Q) X.xe { s4 with heap := s4.heap.push { cls := .type "slice", data := .fields #[.none, .none, vs] } }
  refine tail_any (ops := [.ref a, .ref s4.heap.objs.size]) ht.typeIs (PyProof.Rows.slot_tuple_getitem.lookup) ?_ (by with_unfolding_all rfl)
  refine getItem_tuple_rev ht (Heap.IsSliceOf.new _ .none .none vs) ps ?_ (by omega)
  refine ⟨.ref _, _, I5.laid (t' := s4.toks) (o := .tup xs.reverse) (fun b ob q => Heap.get?_push_of_some _ q) (Nat.le_refl _) ?_, rfl, q _ (I5.hok.fresh (Nat.le_refl _))⟩
  exact ⟨by rw [List.length_reverse]; exact hz, _, r.reverse, IsTup.new _ _⟩
section
variable {c : CD} {ρ ρ1 ρ2 : Env'} {vis loc : List Nat} {gl : List Str}
/-- t * k, t not empty -/
theorem o_repT {xs : List D} {k : Int} (hne : xs ≠ []) (h1 : 1 ≤ k) (h2 : k ≤ 1000) (hl : xs.length ≤ 1000) : Op2 c (binaryOp .Mult) (.tup xs) (.int k) (.tup (List.replicate k.toNat xs).flatten) := by
  intro F H vx vy Q l hx hy kk
  obtain ⟨a, vs, rfl, ha, hd⟩ := hx
  have hy : vy = .int k := hy
  subst hy
  by_cases e : k = 1
  · subst e
    refine ⟨rRep1 c.K, fun X ok => by have := op_rep1 (X := X); rw [ok.K] at this; exact this, a, vs, rfl, rfl, l.tup ha, kk _ F H (.refl l) ?_⟩
    rw [show (List.replicate (1 : Int).toNat xs).flatten = xs by simp [show (1 : Int).toNat = 1 from rfl]]
    exact ⟨a, vs, rfl, ha, hd⟩
  · refine ⟨rRepT c.K, fun X ok => by have := op_repT (X := X); rw [ok.K] at this; exact this, a, k, vs, rfl, rfl, l.tup ha, fun z => hne (by rw [z] at hd; exact List.eq_nil_of_length_eq_zero hd.length.symm), by omega, h2, by rw [hd.length]; exact hl, fun p n => ?_⟩
    exact kk _ _ _ (Grow.alloc l n) (den_tup (l.none n) (den_rep hd _))
/-- xs + ys, lists, a new thing -/
theorem E_addLF {a b : Expr} {pos : Pos} {ra rb : Res} {xs ys : List D} (ha : EvX c a ρ ra ρ1) (hb : EvX c b ρ1 rb ρ2) (la : Lk ρ2 ra (.lst xs)) (lb : Lk ρ2 rb (.lst ys)) (h : xs.length + ys.length ≤ 1000000) (st : ra.st = true := by rfl) : EvX c (.BinOp a .Add b pos) ρ (.fr (.fl (xs ++ ys))) ρ2 := fun G F σ H Q T k => by
  refine ⟨_, fun X ok => pe_op (op_cat (X := X)) (pe_tE ok a) (pe_tE ok b), ?_⟩
  refine ha G F σ H _ T fun vx F1 H1 T1 s1 q1 => hb G F1 σ H1 _ T1 fun vy F2 H2 T2 s2 q2 => ?_
  obtain ⟨a', vs, rfl, ha', hd⟩ := la.vw T2 (ResOk.mono s2.fle st q1)
  obtain ⟨b', ws, rfl, hb', he⟩ := lb.vw T2 q2
  refine ⟨a', b', vs, ws, rfl, rfl, ha', hb', by rw [hd.length, he.length, sizeLine_eq]; omega, fun p n => ?_⟩
  have T3 : Stt c.z G F2 (σ ++ [some (.ref p)]) (upd H2 p (.lst (vs ++ ws))) (ρ2 ++ [.ot none (.fl (xs ++ ys))]) := T2.newT n ⟨p, _, rfl, rfl, upd_same, hd.append he⟩
  exact k _ F2 _ (T3.drops T2.len) ((s1.trans s2).trans .upd) T3
theorem DenAll.rev {K : PySem.W.Frag} {F : Hp} : ∀ {ds : List D} {vs : List V}, DenAll K F ds vs → DenAll K F ds.reverse vs.reverse
  | [], vs, h => by rw [show vs = [] from h]; rfl
  | d :: ds, vs, h => by
    obtain ⟨v, vs', rfl, q, r⟩ := h
    rw [List.reverse_cons, List.reverse_cons]
    exact (DenAll.rev r).append (.single q)
/-- t[::-1] -/
theorem E_revT {e : Expr} {k : Nat} {p1 p2 p3 pos : Pos} {xs : List D} (h : EvX c e ρ (.d (.tup xs)) ρ1) : EvX c (.Subscript e (.Slice none none (some (.UnaryOp .USub (.Constant (.int 1) k p1) p2)) p3) pos) ρ (.d (.tup xs.reverse)) ρ1 := fun G F σ H Q T kk => by
  refine ⟨tRevT c.K (tE c e), fun X ok => by have := pe_revT (k := k) (p1 := p1) (p2 := p2) (p3 := p3) (pos := pos) (pe_tE ok e); rw [ok.K] at this; exact this, ?_⟩
  refine h G F σ H _ T fun v F1 H1 T1 s1 q1 => ?_
  obtain ⟨a, vs, rfl, ha, hd⟩ := q1
  refine ⟨a, vs, rfl, T1.fle.tup ha, fun p n => ?_⟩
  have g := Grow.alloc (Z := c.z) (F := F1) (o := .tup vs.reverse) T1.fle n
  exact kk _ _ _ (T1.grow g) (s1.trans g.step) (den_tup (T1.fle.none n) hd.rev)
end
end Fw

set_option Elab.async false
set_option maxRecDepth 100000
set_option maxHeartbeats 4000000
/-! Fw49: defs of the top by their names. -/
namespace Fw
open PySem PySem.Spec PyProof.Rows L2
theorem kn_top {Z : Zd} {x : Str} {ps : List Str} {params : Arguments} {body : List Stmt} {scope : Scope} {f : Addr} {fd : FuncData} {k : Nat} {sp : Sp} (hm : Z.mg x = some (.ref f)) (F : FunD Z.K x x params body scope [] [] f fd)
    (hb : ∀ (kV doc pm : Value) (an : Option Addr) (cdv ct : Value) (us : List Value), us.length = ps.length → bindArgs (PySem.W.fnOf x x params body scope .none kV doc pm an cdv ct) ⟨us, []⟩ = pure (ps.zip us)) (H : FnK Z.P Z.w Z.K Z.mg Z.base (L2.CX Z.P Z.w) k f fd ps sp) : Kn Z k x sp := ⟨f, fd, ps, hm, F.kp, FunD.bindsN F hb, H⟩
theorem cutD_sub {ds : List D} {lo hi : Option Int} : ∀ x ∈ cutD ds lo hi, x ∈ ds := fun x hx => List.mem_of_mem_drop (List.mem_of_mem_take hx)
theorem cutD_len {ds : List D} {lo hi : Option Int} : (cutD ds lo hi).length ≤ ds.length := by
  unfold cutD
  rw [List.length_take, List.length_drop]
  omega
/-- ahead of k, what stands at k, behind -/
theorem cutD_set {ds : List D} {k : Nat} {b : D} (h : k < ds.length) : cutD ds none (some (k : Nat)) ++ [b] ++ cutD ds (some ((k : Nat) + 1)) none = ds.set k b := by
  have e1 : cutD ds none (some (k : Nat)) = ds.take k := by
    unfold cutD
    rw [HT.sIx_none, HT.sIx_nat, Nat.min_eq_left (Nat.le_of_lt h), List.drop_zero, Nat.sub_zero]
  have e2 : cutD ds (some ((k : Nat) + 1)) none = ds.drop (k + 1) := by
    unfold cutD
    rw [show (((k : Nat) : Int) + 1) = ((k + 1 : Nat) : Int) by omega, HT.sIx_none, HT.sIx_nat, Nat.min_eq_left (by omega)]
    exact List.take_of_length_le (by rw [List.length_drop]; omega)
  rw [e1, e2]
  simp [List.set_eq_take_append_cons_drop, h]
end Fw

set_option Elab.async false
set_option maxRecDepth 100000
set_option maxHeartbeats 4000000
/-! Fw50: tuple(text). -/
namespace Fw
open PySem PySem.Spec PyProof.Rows L2
def signV (x : Str) : List V := x.cps.toList.map fun n => V.str ⟨#[n]⟩
theorem vals_signs {x : Str} {acc : Array Value} (h : ItemsOf (SignAt x) acc x.cps.size) : Vals (signV x) acc.toList := by
  have go : ∀ (vs : List V) (us : List Value), vs.length = us.length → (∀ (j : Nat) v u, vs[j]? = some v → us[j]? = some u → RelV v u) → Vals vs us := by
    intro vs
    induction vs with
    | nil => intro us l _; cases us with
      | nil => exact .nil
      | cons _ _ => simp at l
    | cons v vs ih => intro us l k; cases us with
      | nil => simp at l
      | cons u us => exact .cons (k 0 v u rfl rfl) (ih us (by simpa using l) fun j a b e1 e2 => k (j + 1) a b (by simpa using e1) (by simpa using e2))
  refine go _ _ (by unfold signV; simp [h.1]) fun j v u e1 e2 => ?_
  obtain ⟨c, t, e, rfl⟩ := h.2 j u (by simpa using e2)
  unfold signV at e1
  rw [List.getElem?_map, Array.getElem?_toList, e] at e1
  cases e1
  exact ⟨t, rfl⟩
theorem call_tupS {X : Cx} (hc : X.calm = true) : CallR X (.type "tuple") (fun xs H Q => ∃ x, xs = [.str x] ∧ x.cps.size ≤ sizeLine ∧ ∀ p, H p = none → Q (.ref p) (upd H p (.tup (signV x)))) := by
  rintro pins s σ H xs us Q I r ⟨x, rfl, hl, q⟩
  obtain ⟨u, rfl, ru⟩ := Vals.one r
  obtain ⟨t, rfl⟩ := ru
  refine call_tuple_str (I.ok.hd hc) x t (fun h1 tk acc kp hacc => ?_) hl
  have I1 : Inv X pins σ H { s with heap := h1, toks := tk } := I.kept (t' := tk) kp
  have rv := vals_signs hacc
  exact ⟨.ref h1.objs.size, _, I1.laid (t' := tk) (o := .tup (signV x)) (fun b o e => Heap.get?_push_of_some _ e) (Nat.le_refl _) ⟨by unfold signV; simpa using hl, acc.toList, rv, by
    have := IsTup.new h1 acc
    simpa using this⟩, rfl, q _ (I1.hok.fresh (Nat.le_refl _))⟩
section
variable {c : CD}
/-- tuple(a text) -/
theorem b_tupS {x : Str} (hl : x.length ≤ 1000) : Cb c (.type "tuple") [.str x] (.tup (Fw.signs x)) := by
  intro F H vs Q l h k
  obtain ⟨v, _, rfl, hv, rfl⟩ := h
  have hv : v = .str x := hv
  subst hv
  refine ⟨_, fun X ok => call_tupS ok.calm, x, rfl, by rw [sizeLine_eq]; have : x.cps.size = x.length := rfl; omega, fun p n => ?_⟩
  refine k _ _ _ (Grow.alloc l n) (den_tup (l.none n) ?_)
  unfold signV Fw.signs
  have go : ∀ (ns : List Nat) (F : Hp), DenAll c.K F (ns.map fun n => D.str ⟨#[n]⟩) (ns.map fun n => V.str ⟨#[n]⟩) := by
    intro ns F
    induction ns with
    | nil => rfl
    | cons n ns ih => exact ⟨_, _, rfl, rfl, ih⟩
  exact go _ _
end
end Fw

set_option Elab.async false
set_option maxRecDepth 100000
set_option maxHeartbeats 4000000
/-! Fw51: what the head tells, put together: __init__ of exceptions, makers' code objects. -/
namespace Fw
open PySem PySem.Spec PyProof.Rows L2
theorem bindsKw {K : PySem.W.Frag} {x qual : Str} {params : Arguments} {body : List Stmt} {scope : Scope} {kws : List (Str × V)} {f : Addr} {fd : FuncData} (F : FunD K x qual params body scope [] kws f fd) {us : List Value} {kw : List (Str × Value)} {r : List (Str × Value)}
    (h : ∀ (kV doc pm : Value) (an : Option Addr) (cdv ct : Value), bindArgs (PySem.W.fnOf x qual params body scope .none kV doc pm an cdv ct) ⟨us, kw⟩ = pure r) (s : Shared) : BindsTo s fd ⟨us, kw⟩ r := by
  obtain ⟨oc, od, dV, kV, doc, pm, an, cdv, ct, osl, rfl, lk, hcd, hD, hK⟩ := F.ex
  rcases hD with ⟨_, rfl⟩ | ⟨e, _⟩
  · exact .of_eq (h kV doc pm an cdv ct)
  · exact absurd rfl e
/-- what an exception class's __init__ gives -/
def Ini (Z : Zd) (fI : Addr) (f : Str) : Prop := ∃ fd, FnK Z.P Z.w Z.K Z.mg Z.base (L2.CX Z.P Z.w) 1 fI fd ["self", f] (SpXI Z.K f) ∧
    (∀ (s : Shared) (x u : Value), BindsTo s fd ⟨[x, u], []⟩ [(("self" : Str), x), (f, u)]) ∧ ∀ (s : Shared) (x u : Value), BindsTo s fd ⟨[x], [(f, u)]⟩ [(("self" : Str), x), (f, u)]
theorem code_of {K : PySem.W.Frag} {x qual : Str} {params : Arguments} {body : List Stmt} {scope : Scope} {dvs : List V} {kws : List (Str × V)} {p : He.Defn} {fd : FuncData} (F : FunD K x qual params body scope dvs kws (He.fAd K p) fd) : fd.code = .ref (He.cT K p).1 := by
  obtain ⟨oc, od, dV, kV, doc, pm, an, cdv, ct, osl, rfl, lk, hcd, hD, hK⟩ := F.ex
  obtain ⟨c, rfl⟩ := He.codeIn_ref hcd
  have e := He.codeOf_eq lk rfl
  show Value.ref c = Value.ref (He.codeOf K p)
  rw [e]
/-- the makers' tables and what lambdas made there are called -/
def tabL (K : PySem.W.Frag) (tf : List He.Defn) : List (Addr × Str) := tf.map fun p => ((He.cT K p).2, p.1 ++ ".<locals>." ++ "<lambda>")
theorem tab_un {K : PySem.W.Frag} {tf : List He.Defn} (nd : (tf.map fun p => (He.cT K p).2).Nodup) {p : He.Defn} (hp : p ∈ tf) : ∀ t ∈ tabL K tf, t.1 = (He.cT K p).2 → t.2 = p.1 ++ ".<locals>." ++ "<lambda>" := by
  intro t ht e
  obtain ⟨q, hq, rfl⟩ := List.mem_map.mp ht
  have e : (He.cT K q).2 = (He.cT K p).2 := e
  have : q = p := by
    have go : ∀ tf : List He.Defn, (tf.map fun p => (He.cT K p).2).Nodup → p ∈ tf → q ∈ tf → q = p := by
      intro tf
      induction tf with
      | nil => intro _ h _; cases h
      | cons a tf ih =>
        intro nd h1 h2
        have nd := List.nodup_cons.mp nd
        rcases List.mem_cons.mp h1 with z1 | z1 <;> rcases List.mem_cons.mp h2 with z2 | z2
        · rw [z1, z2]
        · exact absurd (List.mem_map.mpr ⟨q, z2, by rw [e, z1]⟩) nd.1
        · exact absurd (List.mem_map.mpr ⟨p, z1, by rw [← e, z2]⟩) nd.1
        · exact ih nd.2 z1 z2
    exact go tf nd hp hq
  rw [this]
def isGlo (x : Str) : He.Fa → Bool
  | .glo y => decide (y = x)
  | _ => false
def isFree (x : Str) : He.Fa → Bool
  | .free y => decide (y = x)
  | _ => false
def isNoat (x f : Str) : He.Fa → Bool
  | .noat y g => decide (y = x) && decide (g = f)
  | _ => false
section
variable {K : PySem.W.Frag} {h : Heap} {mg : Str → Option Value} (X : K.In h) (G : h.Ns mainGlobals mg) {fa : List He.Fa} {fn : List He.DefD} (c : He.SaysD fa fn K)
include c
theorem fa_ok {f : He.Fa} (hf : f ∈ fa) : f.ok K = true := by
  obtain ⟨i, hi⟩ := List.getElem?_of_mem hf
  exact c.fact i hi
theorem noat_in {x y : Str} (hx : fa.any (isNoat x y) = true) : NoAttr K (He.ga K x) y := by
  obtain ⟨f, hf, e⟩ := List.any_eq_true.mp hx
  cases f with
  | noat a b =>
    obtain ⟨e1, e2⟩ := and2 (show (decide (a = x) && decide (b = y)) = true from e)
    have e1 := of_decide_eq_true e1
    have e2 := of_decide_eq_true e2
    subst e1 e2
    exact He.noat_ok (fa_ok c hf)
  | _ => cases e
include X G
theorem glo_in {x : Str} (hx : fa.any (isGlo x) = true) : mg x = some (.ref (He.ga K x)) := by
  obtain ⟨f, hf, e⟩ := List.any_eq_true.mp hx
  cases f with
  | glo y =>
    have e : y = x := of_decide_eq_true e
    subst e
    exact He.glo_ok X G (fa_ok c hf)
  | _ => cases e
theorem free_in {x : Str} (hx : fa.any (isFree x) = true) : mg x = none := by
  obtain ⟨f, hf, e⟩ := List.any_eq_true.mp hx
  cases f with
  | free y =>
    have e : y = x := of_decide_eq_true e
    subst e
    exact He.free_ok X G (fa_ok c hf)
  | _ => cases e
end
end Fw

set_option Elab.async false
set_option maxRecDepth 100000
set_option maxHeartbeats 0
namespace K03
open PySem PySem.Spec PyProof.Rows L2 Fw
def top (i : Nat) : Stmt := PySem.Challenge.pw_lasthands_k03_cases_refused.main.body.getD i (.Pass ⟨0, 0, 0, 0⟩)
def mth (i j : Nat) : Stmt := match top i with
  | .ClassDef (body := b) .. => b.getD j (.Pass ⟨0, 0, 0, 0⟩)
  | s => s
/-- a def's default as it stands in the part -/
def dfl (p : Str × Option Str) (j : Nat) (K : PySem.W.Frag) : Addr := match K.lookup (He.fAd K p) with
  | some ⟨_, _, .func fd, _⟩ => (match fd.defaults with
    | .ref T => (match K.lookup T with
      | some ⟨_, _, .seq items _, _⟩ => (match items.getD j .none with
        | .ref a => a
        | _ => 0)
      | _ => 0)
    | _ => 0)
  | _ => 0
def lo0 : List Str := ["HandError", "InvalidNumber", "UnknownRoom", "InvalidRooms", "InvalidDoors", "InvalidPeople", "InvalidSightings", "InvalidNotices", "Case", "SMALL_LETTERS", "LONGEST_NAME", "FEWEST_ROOMS", "MOST_ROOMS", "MOST_DOORS", "MOST_PEOPLE", "MOST_LAST", "MOST_SIGHTINGS", "MOST_NOTICES", "MOST_WEIGHT", "is_whole", "is_between", "is_string", "is_made_of", "is_name", "is_tuple_of", "is_row", "first_wrong", "is_one_of", "is_weight", "is_door"]
def lo1 : List Str := ["is_sighting", "is_notice", "wrong_room", "wrong_door", "wrong_person", "wrong_sighting", "wrong_notice", "check_rooms", "check_doors", "check_people", "check_last", "check_end", "check_sightings", "check_notices", "parts_of", "_law_purse", "_law_take", "_law_pick", "_law_is_number", "_law_is_name", "_law_names", "_law_case", "_law_small", "_law_odd", "_law_bent", "_law_wrong_names", "_law_wrong_doors", "_law_is_sighting", "_law_is_notice", "_law_due"]
def lo2 : List Str := ["_law_caught", "_law_are_refused", "_law_by_hand", "_law_right"]
abbrev loose : List Str := lo0 ++ lo1 ++ lo2
def d_InvalidNumber : He.DefD := ⟨("InvalidNumber", some "__init__"), "__init__", "InvalidNumber.__init__", defArgs (mth 2 0), defBody (mth 2 0), defScope (mth 2 0), [], []⟩
def d_UnknownRoom : He.DefD := ⟨("UnknownRoom", some "__init__"), "__init__", "UnknownRoom.__init__", defArgs (mth 3 0), defBody (mth 3 0), defScope (mth 3 0), [], []⟩
def d_InvalidRooms : He.DefD := ⟨("InvalidRooms", some "__init__"), "__init__", "InvalidRooms.__init__", defArgs (mth 4 0), defBody (mth 4 0), defScope (mth 4 0), [], []⟩
def d_InvalidDoors : He.DefD := ⟨("InvalidDoors", some "__init__"), "__init__", "InvalidDoors.__init__", defArgs (mth 5 0), defBody (mth 5 0), defScope (mth 5 0), [], []⟩
def d_InvalidPeople : He.DefD := ⟨("InvalidPeople", some "__init__"), "__init__", "InvalidPeople.__init__", defArgs (mth 6 0), defBody (mth 6 0), defScope (mth 6 0), [], []⟩
def d_InvalidSightings : He.DefD := ⟨("InvalidSightings", some "__init__"), "__init__", "InvalidSightings.__init__", defArgs (mth 7 0), defBody (mth 7 0), defScope (mth 7 0), [], []⟩
def d_InvalidNotices : He.DefD := ⟨("InvalidNotices", some "__init__"), "__init__", "InvalidNotices.__init__", defArgs (mth 8 0), defBody (mth 8 0), defScope (mth 8 0), [], []⟩
def d_Case___init__ : He.DefD := ⟨("Case", some "__init__"), "__init__", "Case.__init__", defArgs (mth 46 0), defBody (mth 46 0), defScope (mth 46 0), [.adr (dfl ("Case", some "__init__") 0), .adr (dfl ("Case", some "__init__") 1)], []⟩
def d_Case___eq__ : He.DefD := ⟨("Case", some "__eq__"), "__eq__", "Case.__eq__", defArgs (mth 46 1), defBody (mth 46 1), defScope (mth 46 1), [], []⟩
def d_is_whole : He.DefD := ⟨("is_whole", none), "is_whole", "is_whole", defArgs (top 12), defBody (top 12), defScope (top 12), [], []⟩
def d_is_between : He.DefD := ⟨("is_between", none), "is_between", "is_between", defArgs (top 13), defBody (top 13), defScope (top 13), [], []⟩
def d_is_string : He.DefD := ⟨("is_string", none), "is_string", "is_string", defArgs (top 14), defBody (top 14), defScope (top 14), [], []⟩
def d_is_made_of : He.DefD := ⟨("is_made_of", none), "is_made_of", "is_made_of", defArgs (top 15), defBody (top 15), defScope (top 15), [], []⟩
def d_is_name : He.DefD := ⟨("is_name", none), "is_name", "is_name", defArgs (top 16), defBody (top 16), defScope (top 16), [], []⟩
def d_is_tuple_of : He.DefD := ⟨("is_tuple_of", none), "is_tuple_of", "is_tuple_of", defArgs (top 17), defBody (top 17), defScope (top 17), [], []⟩
def d_is_row : He.DefD := ⟨("is_row", none), "is_row", "is_row", defArgs (top 18), defBody (top 18), defScope (top 18), [], []⟩
def d_first_wrong : He.DefD := ⟨("first_wrong", none), "first_wrong", "first_wrong", defArgs (top 19), defBody (top 19), defScope (top 19), [], []⟩
def d_is_one_of : He.DefD := ⟨("is_one_of", none), "is_one_of", "is_one_of", defArgs (top 29), defBody (top 29), defScope (top 29), [], []⟩
def d_is_weight : He.DefD := ⟨("is_weight", none), "is_weight", "is_weight", defArgs (top 30), defBody (top 30), defScope (top 30), [], []⟩
def d_is_door : He.DefD := ⟨("is_door", none), "is_door", "is_door", defArgs (top 31), defBody (top 31), defScope (top 31), [], []⟩
def d_is_sighting : He.DefD := ⟨("is_sighting", none), "is_sighting", "is_sighting", defArgs (top 32), defBody (top 32), defScope (top 32), [], []⟩
def d_is_notice : He.DefD := ⟨("is_notice", none), "is_notice", "is_notice", defArgs (top 33), defBody (top 33), defScope (top 33), [], []⟩
def d_wrong_room : He.DefD := ⟨("wrong_room", none), "wrong_room", "wrong_room", defArgs (top 34), defBody (top 34), defScope (top 34), [], []⟩
def d_wrong_door : He.DefD := ⟨("wrong_door", none), "wrong_door", "wrong_door", defArgs (top 35), defBody (top 35), defScope (top 35), [], []⟩
def d_wrong_person : He.DefD := ⟨("wrong_person", none), "wrong_person", "wrong_person", defArgs (top 36), defBody (top 36), defScope (top 36), [], []⟩
def d_wrong_sighting : He.DefD := ⟨("wrong_sighting", none), "wrong_sighting", "wrong_sighting", defArgs (top 37), defBody (top 37), defScope (top 37), [], []⟩
def d_wrong_notice : He.DefD := ⟨("wrong_notice", none), "wrong_notice", "wrong_notice", defArgs (top 38), defBody (top 38), defScope (top 38), [], []⟩
def d_check_rooms : He.DefD := ⟨("check_rooms", none), "check_rooms", "check_rooms", defArgs (top 39), defBody (top 39), defScope (top 39), [], []⟩
def d_check_doors : He.DefD := ⟨("check_doors", none), "check_doors", "check_doors", defArgs (top 40), defBody (top 40), defScope (top 40), [], []⟩
def d_check_people : He.DefD := ⟨("check_people", none), "check_people", "check_people", defArgs (top 41), defBody (top 41), defScope (top 41), [], []⟩
def d_check_last : He.DefD := ⟨("check_last", none), "check_last", "check_last", defArgs (top 42), defBody (top 42), defScope (top 42), [], []⟩
def d_check_end : He.DefD := ⟨("check_end", none), "check_end", "check_end", defArgs (top 43), defBody (top 43), defScope (top 43), [], []⟩
def d_check_sightings : He.DefD := ⟨("check_sightings", none), "check_sightings", "check_sightings", defArgs (top 44), defBody (top 44), defScope (top 44), [], []⟩
def d_check_notices : He.DefD := ⟨("check_notices", none), "check_notices", "check_notices", defArgs (top 45), defBody (top 45), defScope (top 45), [], []⟩
def d_parts_of : He.DefD := ⟨("parts_of", none), "parts_of", "parts_of", defArgs (top 47), defBody (top 47), defScope (top 47), [], []⟩
def d__law_purse : He.DefD := ⟨("_law_purse", none), "_law_purse", "_law_purse", defArgs (top 49), defBody (top 49), defScope (top 49), [], []⟩
def d__law_take : He.DefD := ⟨("_law_take", none), "_law_take", "_law_take", defArgs (top 50), defBody (top 50), defScope (top 50), [], []⟩
def d__law_pick : He.DefD := ⟨("_law_pick", none), "_law_pick", "_law_pick", defArgs (top 51), defBody (top 51), defScope (top 51), [], []⟩
def d__law_is_number : He.DefD := ⟨("_law_is_number", none), "_law_is_number", "_law_is_number", defArgs (top 52), defBody (top 52), defScope (top 52), [], []⟩
def d__law_is_name : He.DefD := ⟨("_law_is_name", none), "_law_is_name", "_law_is_name", defArgs (top 53), defBody (top 53), defScope (top 53), [], []⟩
def d__law_names : He.DefD := ⟨("_law_names", none), "_law_names", "_law_names", defArgs (top 54), defBody (top 54), defScope (top 54), [], []⟩
def d__law_case : He.DefD := ⟨("_law_case", none), "_law_case", "_law_case", defArgs (top 55), defBody (top 55), defScope (top 55), [], []⟩
def d__law_small : He.DefD := ⟨("_law_small", none), "_law_small", "_law_small", defArgs (top 56), defBody (top 56), defScope (top 56), [], []⟩
def d__law_odd : He.DefD := ⟨("_law_odd", none), "_law_odd", "_law_odd", defArgs (top 57), defBody (top 57), defScope (top 57), [], []⟩
def d__law_bent : He.DefD := ⟨("_law_bent", none), "_law_bent", "_law_bent", defArgs (top 58), defBody (top 58), defScope (top 58), [], []⟩
def d__law_wrong_names : He.DefD := ⟨("_law_wrong_names", none), "_law_wrong_names", "_law_wrong_names", defArgs (top 59), defBody (top 59), defScope (top 59), [], []⟩
def d__law_wrong_doors : He.DefD := ⟨("_law_wrong_doors", none), "_law_wrong_doors", "_law_wrong_doors", defArgs (top 60), defBody (top 60), defScope (top 60), [], []⟩
def d__law_is_sighting : He.DefD := ⟨("_law_is_sighting", none), "_law_is_sighting", "_law_is_sighting", defArgs (top 61), defBody (top 61), defScope (top 61), [], []⟩
def d__law_is_notice : He.DefD := ⟨("_law_is_notice", none), "_law_is_notice", "_law_is_notice", defArgs (top 62), defBody (top 62), defScope (top 62), [], []⟩
def d__law_due : He.DefD := ⟨("_law_due", none), "_law_due", "_law_due", defArgs (top 63), defBody (top 63), defScope (top 63), [], []⟩
def d__law_caught : He.DefD := ⟨("_law_caught", none), "_law_caught", "_law_caught", defArgs (top 64), defBody (top 64), defScope (top 64), [], []⟩
def d__law_are_refused : He.DefD := ⟨("_law_are_refused", none), "_law_are_refused", "_law_are_refused", defArgs (top 65), defBody (top 65), defScope (top 65), [], []⟩
def d__law_by_hand : He.DefD := ⟨("_law_by_hand", none), "_law_by_hand", "_law_by_hand", defArgs (top 66), defBody (top 66), defScope (top 66), [], []⟩
def d__law_right : He.DefD := ⟨("_law_right", none), "_law_right", "_law_right", defArgs (top 67), defBody (top 67), defScope (top 67), [], []⟩
def d_law : He.DefD := ⟨("law", none), "law", "law", defArgs (top 68), defBody (top 68), defScope (top 68), [], []⟩
def fn : List He.DefD := [d_InvalidNumber, d_UnknownRoom, d_InvalidRooms, d_InvalidDoors, d_InvalidPeople, d_InvalidSightings, d_InvalidNotices, d_Case___init__, d_Case___eq__, d_is_whole, d_is_between, d_is_string, d_is_made_of, d_is_name, d_is_tuple_of, d_is_row, d_first_wrong, d_is_one_of, d_is_weight, d_is_door, d_is_sighting, d_is_notice, d_wrong_room, d_wrong_door, d_wrong_person, d_wrong_sighting, d_wrong_notice, d_check_rooms, d_check_doors, d_check_people, d_check_last, d_check_end, d_check_sightings, d_check_notices, d_parts_of, d__law_purse, d__law_take, d__law_pick, d__law_is_number, d__law_is_name, d__law_names, d__law_case, d__law_small, d__law_odd, d__law_bent, d__law_wrong_names, d__law_wrong_doors, d__law_is_sighting, d__law_is_notice, d__law_due, d__law_caught, d__law_are_refused, d__law_by_hand, d__law_right, d_law]
def frees : List Str := ["ValueError", "abs", "all", "bool", "enumerate", "int", "isinstance", "len", "list", "max", "min", "range", "repr", "sorted", "str", "tuple"]
def fa : List He.Fa := [.glo "HandError", .glo "InvalidNumber", .glo "UnknownRoom", .glo "InvalidRooms", .glo "InvalidDoors", .glo "InvalidPeople", .glo "InvalidSightings", .glo "InvalidNotices", .glo "Case", .glo "is_whole", .glo "is_between", .glo "is_string", .glo "is_made_of", .glo "is_name", .glo "is_tuple_of", .glo "is_row", .glo "first_wrong", .glo "is_one_of", .glo "is_weight", .glo "is_door", .glo "is_sighting", .glo "is_notice", .glo "wrong_room", .glo "wrong_door", .glo "wrong_person", .glo "wrong_sighting", .glo "wrong_notice", .glo "check_rooms", .glo "check_doors", .glo "check_people", .glo "check_last", .glo "check_end", .glo "check_sightings", .glo "check_notices", .glo "parts_of", .glo "_law_purse", .glo "_law_take", .glo "_law_pick", .glo "_law_is_number", .glo "_law_is_name", .glo "_law_names", .glo "_law_case", .glo "_law_small", .glo "_law_odd", .glo "_law_bent", .glo "_law_wrong_names", .glo "_law_wrong_doors", .glo "_law_is_sighting", .glo "_law_is_notice", .glo "_law_due", .glo "_law_caught", .glo "_law_are_refused", .glo "_law_by_hand", .glo "_law_right", .glo "law", .int "LONGEST_NAME" 8, .int "FEWEST_ROOMS" 2, .int "MOST_ROOMS" 4, .int "MOST_DOORS" 10, .int "MOST_PEOPLE" 3, .int "MOST_LAST" 8, .int "MOST_SIGHTINGS" 16, .int "MOST_NOTICES" 6, .int "MOST_WEIGHT" 9, .str "SMALL_LETTERS" "abcdefghijklmnopqrstuvwxyz", .free "ValueError", .free "abs", .free "all", .free "bool", .free "enumerate", .free "int", .free "isinstance", .free "len", .free "list", .free "max", .free "min", .free "range", .free "repr", .free "sorted", .free "str", .free "tuple", .cls "Case", .mkr "Case", .noat "Case" "rooms", .noat "Case" "doors", .noat "Case" "people", .noat "Case" "last", .noat "Case" "begin", .noat "Case" "end", .noat "Case" "sightings", .noat "Case" "notices"]
def tf : List He.Defn := [("wrong_room", none), ("wrong_door", none), ("wrong_person", none), ("wrong_sighting", none), ("wrong_notice", none), ("_law_are_refused", none)]
def kept : List (Str × Str) := [("InvalidNumber", "given"), ("UnknownRoom", "given"), ("InvalidRooms", "index"), ("InvalidDoors", "index"), ("InvalidPeople", "index"), ("InvalidSightings", "index"), ("InvalidNotices", "index")]
def excs : List Str := ["InvalidNumber", "UnknownRoom", "InvalidRooms", "InvalidDoors", "InvalidPeople", "InvalidSightings", "InvalidNotices"]
def fb (K : PySem.W.Frag) : Bool :=
  (K.lookup sysModules).isSome && (
  ((excs).all fun x => exB K (He.ga K x) && xfB K (He.ga K x)) &&
  ((kept.all fun p => decide (PySem.W.findIn K (.ref (He.ga K p.1)) p.2 = some none) && (decide (PySem.W.findIn K (.ref (He.ga K p.1)) "__init__" = some (some (.ref (He.ma K (He.ga K p.1) "__init__")))) && decide (PySem.W.typeIn K (.ref (He.ma K (He.ga K p.1) "__init__")) = some (.type "function")))) &&
  (((excs).all fun x => excs.all fun y => decide (PySem.W.exmOne K (.ref (He.ga K x)) (.ref (He.ga K y)) = some (decide (x = y)))) &&
  decide ((tf.map fun p => (He.cT K p).2).Nodup))))
abbrev R : PySem.W.OpenRow := PySem.W.OpenLaw.row PySem.Challenge.rw_lasthands_k03_cases_refused
abbrev hk : PySem.W.Hook := hookG 4 fa fn tf fb
def ob (s : PySem.W.SharedT) : He.AlD × Bool := obsG 4 fa fn tf fb (HandSHeadRun.getT s)
theorem ob_eq (s : PySem.W.SharedT) : ob s = hk.obs s.abs := obsG_eq (HandSHeadRun.getT_eq s)
theorem run (w : World) : HandSHeadRun.RunEq R (PySem.W.view R.prog [68]) hk ob 20000 loose w := by
  intro os
  kernel_rfl
end K03

set_option Elab.async false
set_option maxRecDepth 100000
set_option maxHeartbeats 4000000
namespace K03
open PySem PySem.Spec PyProof.Rows L2 Fw
/-- what the head tells -/
structure B03 (Z : Zd) (A : Str → Addr) (fC : Addr) : Prop where
  fr : ∀ x ∈ frees, Z.mg x = none
  gi_LONGEST_NAME : ∃ t, Z.mg "LONGEST_NAME" = some (.int 8 t)
  gi_FEWEST_ROOMS : ∃ t, Z.mg "FEWEST_ROOMS" = some (.int 2 t)
  gi_MOST_ROOMS : ∃ t, Z.mg "MOST_ROOMS" = some (.int 4 t)
  gi_MOST_DOORS : ∃ t, Z.mg "MOST_DOORS" = some (.int 10 t)
  gi_MOST_PEOPLE : ∃ t, Z.mg "MOST_PEOPLE" = some (.int 3 t)
  gi_MOST_LAST : ∃ t, Z.mg "MOST_LAST" = some (.int 8 t)
  gi_MOST_SIGHTINGS : ∃ t, Z.mg "MOST_SIGHTINGS" = some (.int 16 t)
  gi_MOST_NOTICES : ∃ t, Z.mg "MOST_NOTICES" = some (.int 6 t)
  gi_MOST_WEIGHT : ∃ t, Z.mg "MOST_WEIGHT" = some (.int 9 t)
  gs_SMALL_LETTERS : ∃ t, Z.mg "SMALL_LETTERS" = some (.str "abcdefghijklmnopqrstuvwxyz" t)
  mkE : ∀ p ∈ kept, KnE Z 1 p.1 (A p.1) p.2
  em : ∀ x ∈ excs, ∀ y ∈ excs, PySem.W.exmOne Z.K (.ref (A x)) (.ref (A y)) = some (decide (x = y))
  xf : ∀ x ∈ excs, XfC Z.K (A x)
  no : ∀ p ∈ kept, PySem.W.findIn Z.K (.ref (A p.1)) p.2 = some none
  mg : ∀ x ∈ excs, Z.mg x = some (.ref (A x))
  sm : (Z.K.lookup sysModules).isSome = true
  mgC : Z.mg "Case" = some (.ref (A "Case"))
  cC : Cls Z.K (A "Case")
  mC : Mk Z.K (A "Case") fC
  nC : ∀ x ∈ (["rooms", "doors", "people", "last", "begin", "end", "sightings", "notices"] : List Str), NoAttr Z.K (A "Case") x
/-! ### data -/
mutual
/-- data of any kind: short texts of signs, empty dicts alone -/
def okB : D → Bool
  | .non => true
  | .bl _ => true
  | .int _ => true
  | .str x => PyData.strOk x && decide (x.length ≤ 1000)
  | .tup ds => okBs ds
  | .lst ds => okBs ds
  | .dic _ kvs => kvs.isEmpty
  | _ => false
def okBs : List D → Bool
  | [] => true
  | d :: ds => okB d && okBs ds
end
theorem okB_ty {x : D} (h : okB x = true) : (tyn x).isSome = true := by
  cases x <;> first | rfl | cases h
theorem okB_at {ds : List D} {i : Nat} {d : D} (h : okBs ds = true) (e : ds[i]? = some d) : okB d = true := by
  induction ds generalizing i with
  | nil => simp at e
  | cons x xs ih =>
    obtain ⟨h1, h2⟩ := and2 (show (okB x && okBs xs) = true from h)
    cases i with
    | zero => simp at e; rw [← e]; exact h1
    | succ i => exact ih h2 (by simpa using e)
theorem okB_len {x : Str} (h : okB (.str x) = true) : x.length ≤ sizeLine := by
  obtain ⟨_, h2⟩ := and2 (show (PyData.strOk x && decide (x.length ≤ 1000)) = true from h)
  have := of_decide_eq_true h2
  rw [sizeLine_eq]
  omega
theorem okBs_iff {ds : List D} : okBs ds = true ↔ ∀ d ∈ ds, okB d = true := by
  induction ds with
  | nil => simp [okBs]
  | cons x xs ih =>
    show (okB x && okBs xs) = true ↔ _
    rw [Bool.and_eq_true, ih]
    simp
def wholeB (v : D) : Bool := intB v && !boolB v
def inR (v : D) (lo hi : Int) : Bool := match v with
  | .int i => decide (lo ≤ i) && decide (i ≤ hi)
  | _ => false
def betB (v : D) (lo hi : Int) : Bool := wholeB v && inR v lo hi
def letters : Str := "abcdefghijklmnopqrstuvwxyz"
def madeB (x s : Str) : Bool := !decide (x = "") && (Fw.signs x).all fun d => match d with
  | .str y => inStr y s
  | _ => false
def nameR (v : D) : Bool := match v with
  | .str x => decide ((x.length : Int) ≤ 8) && madeB x letters
  | _ => false
def nameB (v : D) : Bool := strB v && nameR v
def itemsOf : D → List D
  | .tup ds => ds
  | .tun ds => ds
  | _ => []
def tupOf (v : D) (n : Int) : Bool := tupB v && decide (((itemsOf v).length : Int) = n)
def rowB (v : D) (lo hi : Int) : Bool := tupB v && (decide (lo ≤ ((itemsOf v).length : Int)) && decide (((itemsOf v).length : Int) ≤ hi))
def inL (ns : List Str) (v : D) : Bool := match v with
  | .str x => decide (x ∈ ns)
  | _ => false
def oneB (ns : List Str) (v : D) : Bool := strB v && inL ns v
theorem strB_eq {v : D} (h : strB v = true) : ∃ x, v = .str x := by
  cases v <;> first | exact ⟨_, rfl⟩ | cases h
theorem wholeB_eq {v : D} (h : wholeB v = true) : ∃ i, v = .int i := by
  cases v <;> first | exact ⟨_, rfl⟩ | cases h
theorem tupB_eq {v : D} (o : okB v = true) (h : tupB v = true) : ∃ ds, v = .tup ds ∧ okBs ds = true := by
  cases v <;> first | exact ⟨_, rfl, o⟩ | (cases h; done) | (cases o; done)
/-- the first place that is not right -/
def fwN (p : Nat → Bool) (n : Nat) : Option Nat := (List.range n).find? fun j => !p j
def resD : Option Nat → D
  | none => .non
  | some j => .int (j : Nat)
section
variable {Z : Zd} {A : Str → Addr} {fC : Addr} (B : B03 Z A fC)
def sp_is_whole : SpD := fun ds Q _ => ∃ v : D, ds = [v] ∧ okB v = true ∧ Q (.d (.bl (wholeB v)))
theorem sc12 : FnScope ["value"] ["value"] (defScope (top 12)) := ⟨rfl, rfl, rfl, by decide +kernel, rfl, by decide +kernel, by decide +kernel⟩
include B in
theorem kn_is_whole {f : Addr} {fd : FuncData} (F : FunD Z.K "is_whole" "is_whole" (defArgs (top 12)) (defBody (top 12)) (defScope (top 12)) [] [] f fd)  : FnK Z.P Z.w Z.K Z.mg Z.base (L2.CX Z.P Z.w) 1 f fd ["value"] (SpP Z sp_is_whole) := by
  refine kn_ofP F sc12 (fun ds Q R h => ?_) (by decide) (mkr := none) (fun _ z => nomatch z) fun E ds Q R h => ?_
  · obtain ⟨v, rfl, hv, hQ⟩ := h; rfl
  · obtain ⟨v, rfl, hv, hQ⟩ := h
    have S : ScOk ⟨Z, ["value"], defScope (top 12), fun _ => true, 0, E, fun _ _ => False, none⟩ [0] [] ["isinstance", "bool", "int"] := scOk_of sc12.nd rfl (by kernel_rfl)
    exact S_seq (S_ret (E_and (E_cb S (A_cons (E_var S 0 rfl rfl rfl) (A_cons (E_ty S (mem_of 2 rfl) (B.fr "int" (mem_of 5 rfl)) rfl) A_nil (fun _ => rfl)) (fun _ => rfl)) (.cons (.d _) (.cons (.d _) .nil)) (b_isK k_int (okB_ty hv)) (mem_of 0 rfl) (B.fr "isinstance" (mem_of 6 rfl)) rfl (fun _ => rfl) (fun _ => rfl)) (fun _ => (E_one (E_not (E_cb S (A_cons (E_var S 0 rfl rfl rfl) (A_cons (E_ty S (mem_of 1 rfl) (B.fr "bool" (mem_of 3 rfl)) rfl) A_nil (fun _ => rfl)) (fun _ => rfl)) (.cons (.d _) (.cons (.d _) .nil)) (b_isK k_bool (okB_ty hv)) (mem_of 0 rfl) (B.fr "isinstance" (mem_of 6 rfl)) rfl (fun _ => rfl) (fun _ => rfl)))))) ⟨hQ, Nat.le_of_ble_eq_true rfl⟩)
def sp_is_between : SpD := fun ds Q _ => ∃ (v : D) (lo hi : Int), ds = [v, .int lo, .int hi] ∧ okB v = true ∧ Q (.d (.bl (betB v lo hi)))
theorem sc13 : FnScope ["value", "least", "most"] ["value", "least", "most"] (defScope (top 13)) := ⟨rfl, rfl, rfl, by decide +kernel, rfl, by decide +kernel, by decide +kernel⟩
include B in
theorem kn_is_between {f : Addr} {fd : FuncData} (F : FunD Z.K "is_between" "is_between" (defArgs (top 13)) (defBody (top 13)) (defScope (top 13)) [] [] f fd) (k_is_whole : Kn Z 1 "is_whole" (SpP Z sp_is_whole)) : FnK Z.P Z.w Z.K Z.mg Z.base (L2.CX Z.P Z.w) 2 f fd ["value", "least", "most"] (SpP Z sp_is_between) := by
  refine kn_ofP F sc13 (fun ds Q R h => ?_) (by decide) (mkr := none) (fun _ z => nomatch z) fun E ds Q R h => ?_
  · obtain ⟨v, lo, hi, rfl, hv, hQ⟩ := h; rfl
  · obtain ⟨v, lo, hi, rfl, hv, hQ⟩ := h
    have S : ScOk ⟨Z, ["value", "least", "most"], defScope (top 13), fun _ => true, 1, E, fun _ _ => False, none⟩ [0, 1, 2] [] ["is_whole"] := scOk_of sc13.nd rfl (by kernel_rfl)
    refine S_seq (S_ret (E_and (E_call S k_is_whole (Nat.le_of_ble_eq_true rfl) (D_cons (E_var S 0 rfl rfl rfl) D_nil (fun _ => rfl)) (fun Q R h => ⟨_, rfl, hv, h⟩) (mem_of 0 rfl) (fun _ => rfl) (fun _ => rfl)) (fun hw => (E_one ?r))) ⟨hQ, Nat.le_of_ble_eq_true rfl⟩)
    obtain ⟨i, rfl⟩ := wholeB_eq hw
    exact (E_chain (E_var S 1 rfl rfl rfl) (E_var S 0 rfl rfl rfl) (.d _) (.d _) o_le (fun _ => (E_var S 2 rfl rfl rfl)) (.d _) (fun _ => o_le) rfl)
def sp_is_string : SpD := fun ds Q _ => ∃ v : D, ds = [v] ∧ okB v = true ∧ Q (.d (.bl (strB v)))
theorem sc14 : FnScope ["value"] ["value"] (defScope (top 14)) := ⟨rfl, rfl, rfl, by decide +kernel, rfl, by decide +kernel, by decide +kernel⟩
include B in
theorem kn_is_string {f : Addr} {fd : FuncData} (F : FunD Z.K "is_string" "is_string" (defArgs (top 14)) (defBody (top 14)) (defScope (top 14)) [] [] f fd)  : FnK Z.P Z.w Z.K Z.mg Z.base (L2.CX Z.P Z.w) 1 f fd ["value"] (SpP Z sp_is_string) := by
  refine kn_ofP F sc14 (fun ds Q R h => ?_) (by decide) (mkr := none) (fun _ z => nomatch z) fun E ds Q R h => ?_
  · obtain ⟨v, rfl, hv, hQ⟩ := h; rfl
  · obtain ⟨v, rfl, hv, hQ⟩ := h
    have S : ScOk ⟨Z, ["value"], defScope (top 14), fun _ => true, 0, E, fun _ _ => False, none⟩ [0] [] ["isinstance", "str"] := scOk_of sc14.nd rfl (by kernel_rfl)
    exact S_seq (S_ret (E_cb S (A_cons (E_var S 0 rfl rfl rfl) (A_cons (E_ty S (mem_of 1 rfl) (B.fr "str" (mem_of 14 rfl)) rfl) A_nil (fun _ => rfl)) (fun _ => rfl)) (.cons (.d _) (.cons (.d _) .nil)) (b_isK k_str (okB_ty hv)) (mem_of 0 rfl) (B.fr "isinstance" (mem_of 6 rfl)) rfl (fun _ => rfl) (fun _ => rfl)) ⟨hQ, Nat.le_of_ble_eq_true rfl⟩)
def sp_is_made_of : SpD := fun ds Q _ => ∃ x s : Str, ds = [.str x, .str s] ∧ x.length ≤ 1000 ∧ Q (.d (.bl (madeB x s)))
theorem sc15 : FnScope ["text", "signs", "sign"] ["text", "signs"] (defScope (top 15)) := ⟨rfl, rfl, rfl, by decide +kernel, rfl, by decide +kernel, by decide +kernel⟩
include B in
theorem kn_is_made_of {f : Addr} {fd : FuncData} (F : FunD Z.K "is_made_of" "is_made_of" (defArgs (top 15)) (defBody (top 15)) (defScope (top 15)) [] [] f fd)  : FnK Z.P Z.w Z.K Z.mg Z.base (L2.CX Z.P Z.w) 1 f fd ["text", "signs"] (SpP Z sp_is_made_of) := by
  refine kn_ofP F sc15 (fun ds Q R h => ?_) (by decide) (mkr := none) (fun _ z => nomatch z) fun E ds Q R h => ?_
  · obtain ⟨x, s, rfl, hx, hQ⟩ := h; rfl
  · obtain ⟨x, s, rfl, hx, hQ⟩ := h
    have S : ScOk ⟨Z, ["text", "signs", "sign"], defScope (top 15), fun _ => true, 0, E, fun _ _ => False, none⟩ [0, 1] [] ["all"] := scOk_of sc15.nd rfl (by kernel_rfl)
    refine S_seq (S_ret (E_and (E_cmp (E_var S 0 rfl rfl rfl) E_str (.d _) (.d _) o_neS rfl) (fun _ => E_one (E_cb S (A_cons ?lc A_nil (fun _ => rfl)) (.cons (.d _) .nil) b_allM (mem_of 0 rfl) (B.fr "all" (mem_of 2 rfl)) rfl (fun _ => rfl) (fun _ => rfl)))) ⟨hQ, Nat.le_of_ble_eq_true rfl⟩)
    refine E_lcA 2 [1, 2] [] (ds := Fw.signs x) (fun d => .bl (match d with | .str y => inStr y s | _ => false)) sc15.nd rfl rfl rfl ⟨rfl, by (dsimp only; decide +kernel), by (dsimp only; decide +kernel), by (dsimp only; decide +kernel), by (dsimp only; decide +kernel)⟩ (scOk_of sc15.nd rfl (by kernel_rfl)) (I_str (E_var S 0 rfl rfl rfl)) rfl (fun S' j d hj => ?t) ?l rfl (fun _ _ => rfl)
    case t =>
      obtain ⟨n, hn, rfl⟩ := List.mem_map.mp (List.mem_of_getElem? hj)
      exact E_cmp (E_var S' 2 rfl rfl rfl) (E_var S' 1 rfl rfl rfl) (.d _) (.d _) o_inT rfl
    case l =>
      unfold Fw.signs
      rw [List.length_map]
      have : x.cps.toList.length = x.length := by simp [Str.length]
      omega
end
end K03

set_option Elab.async false
set_option maxRecDepth 100000
set_option maxHeartbeats 4000000
namespace K03
open PySem PySem.Spec PyProof.Rows L2 Fw
mutual
theorem okB_isR : ∀ x : D, okB x = true → isR x = true
  | .non, _ => rfl
  | .bl _, _ => rfl
  | .int _, _ => rfl
  | .str _, _ => rfl
  | .tup ds, h => okBs_isRs ds h
  | .lst ds, h => okBs_isRs ds h
  | .dic _ _, h => h
  | .tun _, h => nomatch h
  | .scr _, h => nomatch h
  | .obj _ _ _, h => nomatch h
  | .exc _ _, h => nomatch h
  | .ty _, h => nomatch h
  | .cls _, h => nomatch h
  | .ptr _, h => nomatch h
theorem okBs_isRs : ∀ ds : List D, okBs ds = true → isRs ds = true
  | [], _ => rfl
  | d :: ds, h => by
    obtain ⟨h1, h2⟩ := and2 (show (okB d && okBs ds) = true from h)
    show (isR d && isRs ds) = true
    rw [okB_isR d h1, okBs_isRs ds h2]
    rfl
end
theorem okBs_take {ds : List D} (h : okBs ds = true) (n : Nat) : okBs (ds.take n) = true := okBs_iff.mpr fun d hd => okBs_iff.mp h d (List.mem_of_mem_take hd)
theorem cmpS {x y : Str} : Cmp (.str x) (.str y) := ⟨rfl, rfl, rfl, (fun z => nomatch z), Nat.le_of_ble_eq_true rfl⟩
theorem cmpP {a b x y : Str} : Cmp (.tup [.str a, .str b]) (.tup [.str x, .str y]) := ⟨rfl, rfl, rfl, (fun z => nomatch z), Nat.le_of_ble_eq_true rfl⟩
/-- a maker of lambdas: its code object, the table -/
structure Mkr (Z : Zd) (x : Str) (cc P : Addr) : Prop where
  tb : LamX.TabB Z.base Z.mg cc P
  mem : (P, x ++ ".<locals>." ++ "<lambda>") ∈ Z.T
  un : ∀ t ∈ Z.T, t.1 = P → t.2 = x ++ ".<locals>." ++ "<lambda>"
section
variable {Z : Zd} {A : Str → Addr} {fC : Addr} (B : B03 Z A fC)
def sp_is_name : SpD := fun ds Q _ => ∃ v : D, ds = [v] ∧ okB v = true ∧ Q (.d (.bl (nameB v)))
theorem sc16 : FnScope ["value"] ["value"] (defScope (top 16)) := ⟨rfl, rfl, rfl, by decide +kernel, rfl, by decide +kernel, by decide +kernel⟩
include B in
theorem kn_is_name {f : Addr} {fd : FuncData} (F : FunD Z.K "is_name" "is_name" (defArgs (top 16)) (defBody (top 16)) (defScope (top 16)) [] [] f fd) (k_is_string : Kn Z 1 "is_string" (SpP Z sp_is_string)) (k_is_made_of : Kn Z 1 "is_made_of" (SpP Z sp_is_made_of)) : FnK Z.P Z.w Z.K Z.mg Z.base (L2.CX Z.P Z.w) 2 f fd ["value"] (SpP Z sp_is_name) := by
  refine kn_ofP F sc16 (fun ds Q R h => ?_) (by decide) (mkr := none) (fun _ z => nomatch z) fun E ds Q R h => ?_
  · obtain ⟨v, rfl, hv, hQ⟩ := h; rfl
  · obtain ⟨v, rfl, hv, hQ⟩ := h
    have S : ScOk ⟨Z, ["value"], defScope (top 16), fun _ => true, 1, E, fun _ _ => False, none⟩ [0] [] ["is_string", "SMALL_LETTERS", "is_made_of", "len", "LONGEST_NAME"] := scOk_of sc16.nd rfl (by kernel_rfl)
    refine S_seq (S_ret (E_and (E_call S k_is_string (Nat.le_of_ble_eq_true rfl) (D_cons (E_var S 0 rfl rfl rfl) D_nil (fun _ => rfl)) (fun Q R h => ⟨_, rfl, hv, h⟩) (mem_of 0 rfl) (fun _ => rfl) (fun _ => rfl)) (fun hs => ?r)) ⟨hQ, Nat.le_of_ble_eq_true rfl⟩)
    obtain ⟨x, rfl⟩ := strB_eq hs
    have hx : x.length ≤ 1000 := of_decide_eq_true (and2 (show (PyData.strOk x && decide (x.length ≤ 1000)) = true from hv)).2
    exact (E_and (E_cmp (E_cb S (A_cons (E_var S 0 rfl rfl rfl) A_nil (fun _ => rfl)) (.cons (.d _) .nil) (b_lenS (okB_len hv)) (mem_of 3 rfl) (B.fr "len" (mem_of 7 rfl)) rfl (fun _ => rfl) (fun _ => rfl)) (E_globI S (mem_of 4 rfl) (B.gi_LONGEST_NAME)) (.d _) (.d _) o_le rfl) (fun _ => (E_one (E_call S k_is_made_of (Nat.le_of_ble_eq_true rfl) (D_cons (E_var S 0 rfl rfl rfl) (D_cons (E_globS S (mem_of 1 rfl) (B.gs_SMALL_LETTERS)) D_nil (fun _ => rfl)) (fun _ => rfl)) (fun Q R h => ⟨_, _, rfl, hx, h⟩) (mem_of 2 rfl) (fun _ => rfl) (fun _ => rfl)))))
def sp_is_tuple_of : SpD := fun ds Q _ => ∃ (v : D) (n : Int), ds = [v, .int n] ∧ okB v = true ∧ Q (.d (.bl (tupOf v n)))
theorem sc17 : FnScope ["value", "many"] ["value", "many"] (defScope (top 17)) := ⟨rfl, rfl, rfl, by decide +kernel, rfl, by decide +kernel, by decide +kernel⟩
include B in
theorem kn_is_tuple_of {f : Addr} {fd : FuncData} (F : FunD Z.K "is_tuple_of" "is_tuple_of" (defArgs (top 17)) (defBody (top 17)) (defScope (top 17)) [] [] f fd)  : FnK Z.P Z.w Z.K Z.mg Z.base (L2.CX Z.P Z.w) 1 f fd ["value", "many"] (SpP Z sp_is_tuple_of) := by
  refine kn_ofP F sc17 (fun ds Q R h => ?_) (by decide) (mkr := none) (fun _ z => nomatch z) fun E ds Q R h => ?_
  · obtain ⟨v, n, rfl, hv, hQ⟩ := h; rfl
  · obtain ⟨v, n, rfl, hv, hQ⟩ := h
    have S : ScOk ⟨Z, ["value", "many"], defScope (top 17), fun _ => true, 0, E, fun _ _ => False, none⟩ [0, 1] [] ["isinstance", "tuple", "len"] := scOk_of sc17.nd rfl (by kernel_rfl)
    refine S_seq (S_ret (E_and (E_cb S (A_cons (E_var S 0 rfl rfl rfl) (A_cons (E_ty S (mem_of 1 rfl) (B.fr "tuple" (mem_of 15 rfl)) rfl) A_nil (fun _ => rfl)) (fun _ => rfl)) (.cons (.d _) (.cons (.d _) .nil)) (b_isK k_tup (okB_ty hv)) (mem_of 0 rfl) (B.fr "isinstance" (mem_of 6 rfl)) rfl (fun _ => rfl) (fun _ => rfl)) (fun hs => E_one ?r)) ⟨hQ, Nat.le_of_ble_eq_true rfl⟩)
    obtain ⟨ds, rfl, _⟩ := tupB_eq hv hs
    exact (E_cmp (E_cb S (A_cons (E_var S 0 rfl rfl rfl) A_nil (fun _ => rfl)) (.cons (.d _) .nil) (b_len rfl) (mem_of 2 rfl) (B.fr "len" (mem_of 7 rfl)) rfl (fun _ => rfl) (fun _ => rfl)) (E_var S 1 rfl rfl rfl) (.d _) (.d _) o_eqI rfl)
def sp_is_row : SpD := fun ds Q _ => ∃ (v : D) (lo hi : Int), ds = [v, .int lo, .int hi] ∧ okB v = true ∧ Q (.d (.bl (rowB v lo hi)))
theorem sc18 : FnScope ["value", "least", "most"] ["value", "least", "most"] (defScope (top 18)) := ⟨rfl, rfl, rfl, by decide +kernel, rfl, by decide +kernel, by decide +kernel⟩
include B in
theorem kn_is_row {f : Addr} {fd : FuncData} (F : FunD Z.K "is_row" "is_row" (defArgs (top 18)) (defBody (top 18)) (defScope (top 18)) [] [] f fd)  : FnK Z.P Z.w Z.K Z.mg Z.base (L2.CX Z.P Z.w) 1 f fd ["value", "least", "most"] (SpP Z sp_is_row) := by
  refine kn_ofP F sc18 (fun ds Q R h => ?_) (by decide) (mkr := none) (fun _ z => nomatch z) fun E ds Q R h => ?_
  · obtain ⟨v, lo, hi, rfl, hv, hQ⟩ := h; rfl
  · obtain ⟨v, lo, hi, rfl, hv, hQ⟩ := h
    have S : ScOk ⟨Z, ["value", "least", "most"], defScope (top 18), fun _ => true, 0, E, fun _ _ => False, none⟩ [0, 1, 2] [] ["isinstance", "tuple", "len"] := scOk_of sc18.nd rfl (by kernel_rfl)
    refine S_seq (S_ret (E_and (E_cb S (A_cons (E_var S 0 rfl rfl rfl) (A_cons (E_ty S (mem_of 1 rfl) (B.fr "tuple" (mem_of 15 rfl)) rfl) A_nil (fun _ => rfl)) (fun _ => rfl)) (.cons (.d _) (.cons (.d _) .nil)) (b_isK k_tup (okB_ty hv)) (mem_of 0 rfl) (B.fr "isinstance" (mem_of 6 rfl)) rfl (fun _ => rfl) (fun _ => rfl)) (fun hs => E_one ?r)) ⟨hQ, Nat.le_of_ble_eq_true rfl⟩)
    obtain ⟨ds, rfl, _⟩ := tupB_eq hv hs
    exact (E_chain (E_var S 1 rfl rfl rfl) (E_cb S (A_cons (E_var S 0 rfl rfl rfl) A_nil (fun _ => rfl)) (.cons (.d _) .nil) (b_len rfl) (mem_of 2 rfl) (B.fr "len" (mem_of 7 rfl)) rfl (fun _ => rfl) (fun _ => rfl)) (.d _) (.d _) o_le (fun _ => (E_var S 2 rfl rfl rfl)) (.d _) (fun _ => o_le) rfl)
def sp_is_one_of : SpD := fun ds Q _ => ∃ (ns : List Str) (v : D), ds = [.tup (ns.map D.str), v] ∧ okB v = true ∧ Q (.d (.bl (oneB ns v)))
theorem sc29 : FnScope ["menu", "value"] ["menu", "value"] (defScope (top 29)) := ⟨rfl, rfl, rfl, by decide +kernel, rfl, by decide +kernel, by decide +kernel⟩
include B in
theorem kn_is_one_of {f : Addr} {fd : FuncData} (F : FunD Z.K "is_one_of" "is_one_of" (defArgs (top 29)) (defBody (top 29)) (defScope (top 29)) [] [] f fd) (k_is_string : Kn Z 1 "is_string" (SpP Z sp_is_string)) : FnK Z.P Z.w Z.K Z.mg Z.base (L2.CX Z.P Z.w) 2 f fd ["menu", "value"] (SpP Z sp_is_one_of) := by
  refine kn_ofP F sc29 (fun ds Q R h => ?_) (by decide) (mkr := none) (fun _ z => nomatch z) fun E ds Q R h => ?_
  · obtain ⟨ns, v, rfl, hv, hQ⟩ := h; rfl
  · obtain ⟨ns, v, rfl, hv, hQ⟩ := h
    have S : ScOk ⟨Z, ["menu", "value"], defScope (top 29), fun _ => true, 1, E, fun _ _ => False, none⟩ [0, 1] [] ["is_string"] := scOk_of sc29.nd rfl (by kernel_rfl)
    refine S_seq (S_ret (E_and (E_call S k_is_string (Nat.le_of_ble_eq_true rfl) (D_cons (E_var S 1 rfl rfl rfl) D_nil (fun _ => rfl)) (fun Q R h => ⟨_, rfl, hv, h⟩) (mem_of 0 rfl) (fun _ => rfl) (fun _ => rfl)) (fun hs => E_one ?r)) ⟨hQ, Nat.le_of_ble_eq_true rfl⟩)
    obtain ⟨x, rfl⟩ := strB_eq hs
    exact (E_cmp (E_var S 1 rfl rfl rfl) (E_var S 0 rfl rfl rfl) (.d _) (.d _) (o_inS rfl) rfl)
def sp_is_weight : SpD := fun ds Q _ => ∃ v : D, ds = [v] ∧ okB v = true ∧ Q (.d (.bl (betB v 1 9)))
theorem sc30 : FnScope ["value"] ["value"] (defScope (top 30)) := ⟨rfl, rfl, rfl, by decide +kernel, rfl, by decide +kernel, by decide +kernel⟩
include B in
theorem kn_is_weight {f : Addr} {fd : FuncData} (F : FunD Z.K "is_weight" "is_weight" (defArgs (top 30)) (defBody (top 30)) (defScope (top 30)) [] [] f fd) (k_is_between : Kn Z 2 "is_between" (SpP Z sp_is_between)) : FnK Z.P Z.w Z.K Z.mg Z.base (L2.CX Z.P Z.w) 3 f fd ["value"] (SpP Z sp_is_weight) := by
  refine kn_ofP F sc30 (fun ds Q R h => ?_) (by decide) (mkr := none) (fun _ z => nomatch z) fun E ds Q R h => ?_
  · obtain ⟨v, rfl, hv, hQ⟩ := h; rfl
  · obtain ⟨v, rfl, hv, hQ⟩ := h
    have S : ScOk ⟨Z, ["value"], defScope (top 30), fun _ => true, 2, E, fun _ _ => False, none⟩ [0] [] ["MOST_WEIGHT", "is_between"] := scOk_of sc30.nd rfl (by kernel_rfl)
    exact S_seq (S_ret (E_call S k_is_between (Nat.le_of_ble_eq_true rfl) (D_cons (E_var S 0 rfl rfl rfl) (D_cons E_int (D_cons (E_globI S (mem_of 0 rfl) (B.gi_MOST_WEIGHT)) D_nil (fun _ => rfl)) (fun _ => rfl)) (fun _ => rfl)) (fun Q R h => ⟨_, _, _, rfl, hv, h⟩) (mem_of 1 rfl) (fun _ => rfl) (fun _ => rfl)) ⟨hQ, Nat.le_of_ble_eq_true rfl⟩)
def lt01 (v : D) : Bool := match itemsOf v with
  | [a, b] => ltD a b
  | _ => false
def doorB (ns : List Str) (v : D) : Bool := tupOf v 2 && ((itemsOf v).all (oneB ns) && lt01 v)
theorem oneB_eq {ns : List Str} {v : D} (h : oneB ns v = true) : ∃ x, v = .str x ∧ x ∈ ns := by
  obtain ⟨h1, h2⟩ := and2 h
  obtain ⟨x, rfl⟩ := strB_eq h1
  exact ⟨x, rfl, of_decide_eq_true h2⟩
theorem tupOf_eq {v : D} {n : Nat} (o : okB v = true) (h : tupOf v n = true) : ∃ ds, v = .tup ds ∧ okBs ds = true ∧ ds.length = n := by
  obtain ⟨h1, h2⟩ := and2 h
  obtain ⟨ds, rfl, hd⟩ := tupB_eq o h1
  have h2 : (ds.length : Int) = n := of_decide_eq_true h2
  exact ⟨ds, rfl, hd, by omega⟩
def sp_is_door : SpD := fun ds Q _ => ∃ (ns : List Str) (v : D), ds = [.tup (ns.map D.str), v] ∧ okB v = true ∧ Q (.d (.bl (doorB ns v)))
theorem sc31 : FnScope ["rooms", "value", "room"] ["rooms", "value"] (defScope (top 31)) := ⟨rfl, rfl, rfl, by decide +kernel, rfl, by decide +kernel, by decide +kernel⟩
include B in
theorem kn_is_door {f : Addr} {fd : FuncData} (F : FunD Z.K "is_door" "is_door" (defArgs (top 31)) (defBody (top 31)) (defScope (top 31)) [] [] f fd) (k_is_tuple_of : Kn Z 1 "is_tuple_of" (SpP Z sp_is_tuple_of)) (k_is_one_of : Kn Z 2 "is_one_of" (SpP Z sp_is_one_of)) : FnK Z.P Z.w Z.K Z.mg Z.base (L2.CX Z.P Z.w) 3 f fd ["rooms", "value"] (SpP Z sp_is_door) := by
  refine kn_ofP F sc31 (fun ds Q R h => ?_) (by decide) (mkr := none) (fun _ z => nomatch z) fun E ds Q R h => ?_
  · obtain ⟨ns, v, rfl, hv, hQ⟩ := h; rfl
  · obtain ⟨ns, v, rfl, hv, hQ⟩ := h
    have S : ScOk ⟨Z, ["rooms", "value", "room"], defScope (top 31), fun _ => true, 2, E, fun _ _ => False, none⟩ [0, 1] [] ["is_tuple_of", "all"] := scOk_of sc31.nd rfl (by kernel_rfl)
    refine S_seq (S_ret (E_and (E_call S k_is_tuple_of (Nat.le_of_ble_eq_true rfl) (D_cons (E_var S 1 rfl rfl rfl) (D_cons E_int D_nil (fun _ => rfl)) (fun _ => rfl)) (fun Q R h => ⟨_, _, rfl, hv, h⟩) (mem_of 0 rfl) (fun _ => rfl) (fun _ => rfl)) (fun hs => ?r)) ⟨hQ, Nat.le_of_ble_eq_true rfl⟩)
    obtain ⟨ds, rfl, hd, hl⟩ := tupOf_eq (n := 2) hv hs
    refine E_and (u := ds.all (oneB ns)) (E_cb S (A_cons (E_lcA 2 [0, 2] ["is_one_of"] (ds := ds) (fun d => .bl (oneB ns d)) sc31.nd rfl rfl rfl ⟨rfl, by (dsimp only; decide +kernel), by (dsimp only; decide +kernel), by (dsimp only; decide +kernel), by (dsimp only; decide +kernel)⟩ (scOk_of sc31.nd rfl (by kernel_rfl)) (I_tup (E_var S 1 rfl rfl rfl)) rfl (fun S' j d hj => E_call S' k_is_one_of (Nat.le_refl _) (D_cons (E_var S' 0 rfl rfl rfl) (D_cons (E_var S' 2 rfl rfl rfl) D_nil (fun _ => rfl)) (fun _ => rfl)) (fun Q R h => ⟨_, _, rfl, okB_at hd hj, h⟩) (mem_of 0 rfl) (fun _ => rfl) (fun _ => rfl)) (by omega) rfl (fun _ _ => rfl)) A_nil (fun _ => rfl)) (.cons (.d _) .nil) b_allM (mem_of 1 rfl) (B.fr "all" (mem_of 2 rfl)) rfl (fun _ => rfl) (fun _ => rfl)) (fun ha => E_one ?s)
    match ds, hl with
    | [a, b], _ =>
      simp only [List.all_cons, List.all_nil, Bool.and_true, Bool.and_eq_true] at ha
      obtain ⟨x, rfl, _⟩ := oneB_eq ha.1
      obtain ⟨y, rfl, _⟩ := oneB_eq ha.2
      exact (E_cmp (E_ix (E_var S 1 rfl rfl rfl) E_int (.d _) (.d _) (i_seq rfl rfl) (fun _ _ => rfl)) (E_ix (E_var S 1 rfl rfl rfl) E_int (.d _) (.d _) (i_seq rfl rfl) (fun _ _ => rfl)) (.d _) (.d _) (o_ltD cmpS) rfl)
def sigB (rs ps : List Str) (last : Int) (v : D) : Bool := match itemsOf v with
  | [a, b, x, y] => (oneB ps a && betB b 0 last) && (oneB rs x && betB y 1 9)
  | _ => false
def isSig (rs ps : List Str) (last : Int) (v : D) : Bool := tupB v && sigB rs ps last v
def notR (rs : List Str) (last : Int) (v : D) : Bool := match itemsOf v with
  | [b, x, y] => betB b 0 last && (oneB rs x && betB y 1 9)
  | _ => false
def isNot (rs : List Str) (last : Int) (v : D) : Bool := tupB v && notR rs last v
def sp_is_sighting : SpD := fun ds Q _ => ∃ (rs ps : List Str) (last : Int) (v : D), ds = [.tup (rs.map D.str), .tup (ps.map D.str), .int last, v] ∧ okB v = true ∧ Q (.d (.bl (isSig rs ps last v)))
theorem tupOf_no {v : D} {n : Nat} (o : okB v = true) (h : tupOf v n = false) : tupB v = false ∨ ∃ ds, v = .tup ds ∧ ds.length ≠ n := by
  cases t : tupB v with
  | false => exact .inl rfl
  | true =>
    obtain ⟨ds, rfl, _⟩ := tupB_eq o t
    refine .inr ⟨ds, rfl, fun e => ?_⟩
    have h : decide ((ds.length : Int) = n) = false := h
    have := of_decide_eq_false h
    omega
theorem sc32 : FnScope ["rooms", "people", "last", "value"] ["rooms", "people", "last", "value"] (defScope (top 32)) := ⟨rfl, rfl, rfl, by decide +kernel, rfl, by decide +kernel, by decide +kernel⟩
include B in
theorem kn_is_sighting {f : Addr} {fd : FuncData} (F : FunD Z.K "is_sighting" "is_sighting" (defArgs (top 32)) (defBody (top 32)) (defScope (top 32)) [] [] f fd) (k_is_tuple_of : Kn Z 1 "is_tuple_of" (SpP Z sp_is_tuple_of)) (k_is_one_of : Kn Z 2 "is_one_of" (SpP Z sp_is_one_of)) (k_is_between : Kn Z 2 "is_between" (SpP Z sp_is_between)) (k_is_weight : Kn Z 3 "is_weight" (SpP Z sp_is_weight)) : FnK Z.P Z.w Z.K Z.mg Z.base (L2.CX Z.P Z.w) 4 f fd ["rooms", "people", "last", "value"] (SpP Z sp_is_sighting) := by
  refine kn_ofP F sc32 (fun ds Q R h => ?_) (by decide) (mkr := none) (fun _ z => nomatch z) fun E ds Q R h => ?_
  · obtain ⟨rs, ps, last, v, rfl, hv, hQ⟩ := h; rfl
  · obtain ⟨rs, ps, last, v, rfl, hv, hQ⟩ := h
    have S : ScOk ⟨Z, ["rooms", "people", "last", "value"], defScope (top 32), fun _ => true, 3, E, fun _ _ => False, none⟩ [0, 1, 2, 3] [] ["is_tuple_of", "is_between", "is_one_of", "is_weight"] := scOk_of sc32.nd rfl (by kernel_rfl)
    cases ht : tupOf v 4 with
    | false =>
      refine S_seq (S_ifT (T_w (W_or (u := !tupOf v 4) (v := true) (T_not (T_val (E_call S k_is_tuple_of (Nat.le_of_ble_eq_true rfl) (D_cons (E_var S 3 rfl rfl rfl) (D_cons E_int D_nil (fun _ => rfl)) (fun _ => rfl)) (fun Q R h => ⟨_, _, rfl, hv, h⟩) (mem_of 0 rfl) (fun _ => rfl) (fun _ => rfl)) (fun _ _ => rfl))) (fun z => by rw [ht] at z; cases z))) (by rw [ht]; rfl) (S_seq (S_ret E_bl ⟨?_, Nat.le_of_ble_eq_true rfl⟩)))
      have e : isSig rs ps last v = false := by
        unfold isSig
        rcases tupOf_no (n := 4) hv ht with z | ⟨ds, rfl, hl⟩
        · rw [z]; rfl
        · unfold sigB
          simp only [tupB, itemsOf, Bool.true_and]
          split
          · simp at hl
          · rfl
      rw [e] at hQ
      exact hQ
    | true =>
      obtain ⟨ds, rfl, hd, hl⟩ := tupOf_eq (n := 4) hv ht
      match ds, hl with
      | [a, b, x, y], _ =>
        have oa : okB a = true := okB_at (i := 0) hd rfl
        have ob : okB b = true := okB_at (i := 1) hd rfl
        have ox : okB x = true := okB_at (i := 2) hd rfl
        have oy : okB y = true := okB_at (i := 3) hd rfl
        refine S_seq (S_if (T_w (W_or (T_not (T_val (E_call S k_is_tuple_of (Nat.le_of_ble_eq_true rfl) (D_cons (E_var S 3 rfl rfl rfl) (D_cons E_int D_nil (fun _ => rfl)) (fun _ => rfl)) (fun Q R h => ⟨_, _, rfl, hv, h⟩) (mem_of 0 rfl) (fun _ => rfl) (fun _ => rfl)) (fun _ _ => rfl))) (fun _ => (W_or (T_not (T_val (E_call S k_is_one_of (Nat.le_of_ble_eq_true rfl) (D_cons (E_var S 1 rfl rfl rfl) (D_cons (E_ix (E_var S 3 rfl rfl rfl) E_int (.d _) (.d _) (i_seq rfl rfl) (fun _ _ => rfl)) D_nil (fun _ => rfl)) (fun _ => rfl)) (fun Q R h => ⟨_, _, rfl, oa, h⟩) (mem_of 2 rfl) (fun _ => rfl) (fun _ => rfl)) (fun _ _ => rfl))) (fun _ => (W_or1 (T_not (T_val (E_call S k_is_between (Nat.le_of_ble_eq_true rfl) (D_cons (E_ix (E_var S 3 rfl rfl rfl) E_int (.d _) (.d _) (i_seq rfl rfl) (fun _ _ => rfl)) (D_cons E_int (D_cons (E_var S 2 rfl rfl rfl) D_nil (fun _ => rfl)) (fun _ => rfl)) (fun _ => rfl)) (fun Q R h => ⟨_, _, _, rfl, ob, h⟩) (mem_of 1 rfl) (fun _ => rfl) (fun _ => rfl)) (fun _ _ => rfl))))))))) (fun hb => S_seq (S_ret E_bl ⟨?_, Nat.le_of_ble_eq_true rfl⟩)) (fun hb => S_nil (S_seq (S_ret (E_and (E_call S k_is_one_of (Nat.le_of_ble_eq_true rfl) (D_cons (E_var S 0 rfl rfl rfl) (D_cons (E_ix (E_var S 3 rfl rfl rfl) E_int (.d _) (.d _) (i_seq rfl rfl) (fun _ _ => rfl)) D_nil (fun _ => rfl)) (fun _ => rfl)) (fun Q R h => ⟨_, _, rfl, ox, h⟩) (mem_of 2 rfl) (fun _ => rfl) (fun _ => rfl)) (fun _ => (E_one (E_call S k_is_weight (Nat.le_of_ble_eq_true rfl) (D_cons (E_ix (E_var S 3 rfl rfl rfl) E_int (.d _) (.d _) (i_seq rfl rfl) (fun _ _ => rfl)) D_nil (fun _ => rfl)) (fun Q R h => ⟨_, rfl, oy, h⟩) (mem_of 3 rfl) (fun _ => rfl) (fun _ => rfl))))) ⟨?_, Nat.le_of_ble_eq_true rfl⟩))))
        · have hb : (!true || (!oneB ps a || !betB b 0 last)) = true := by rw [ht] at hb; exact hb
          have e : isSig rs ps last (.tup [a, b, x, y]) = false := by
            show ((oneB ps a && betB b 0 last) && _) = false
            cases h1 : oneB ps a <;> cases h2 : betB b 0 last <;> rw [h1, h2] at hb <;> first | rfl | cases hb
          rw [e] at hQ
          exact hQ
        · have hb : (!true || (!oneB ps a || !betB b 0 last)) = false := by rw [ht] at hb; exact hb
          have e : isSig rs ps last (.tup [a, b, x, y]) = (oneB rs x && betB y 1 9) := by
            show ((oneB ps a && betB b 0 last) && _) = _
            cases h1 : oneB ps a <;> cases h2 : betB b 0 last <;> rw [h1, h2] at hb <;> first | rfl | cases hb
          rw [e] at hQ
          exact hQ
def sp_is_notice : SpD := fun ds Q _ => ∃ (rs : List Str) (last : Int) (v : D), ds = [.tup (rs.map D.str), .int last, v] ∧ okB v = true ∧ Q (.d (.bl (isNot rs last v)))
theorem sc33 : FnScope ["rooms", "last", "value"] ["rooms", "last", "value"] (defScope (top 33)) := ⟨rfl, rfl, rfl, by decide +kernel, rfl, by decide +kernel, by decide +kernel⟩
include B in
theorem kn_is_notice {f : Addr} {fd : FuncData} (F : FunD Z.K "is_notice" "is_notice" (defArgs (top 33)) (defBody (top 33)) (defScope (top 33)) [] [] f fd) (k_is_tuple_of : Kn Z 1 "is_tuple_of" (SpP Z sp_is_tuple_of)) (k_is_one_of : Kn Z 2 "is_one_of" (SpP Z sp_is_one_of)) (k_is_between : Kn Z 2 "is_between" (SpP Z sp_is_between)) (k_is_weight : Kn Z 3 "is_weight" (SpP Z sp_is_weight)) : FnK Z.P Z.w Z.K Z.mg Z.base (L2.CX Z.P Z.w) 4 f fd ["rooms", "last", "value"] (SpP Z sp_is_notice) := by
  refine kn_ofP F sc33 (fun ds Q R h => ?_) (by decide) (mkr := none) (fun _ z => nomatch z) fun E ds Q R h => ?_
  · obtain ⟨rs, last, v, rfl, hv, hQ⟩ := h; rfl
  · obtain ⟨rs, last, v, rfl, hv, hQ⟩ := h
    have S : ScOk ⟨Z, ["rooms", "last", "value"], defScope (top 33), fun _ => true, 3, E, fun _ _ => False, none⟩ [0, 1, 2] [] ["is_tuple_of", "is_between", "is_weight", "is_one_of"] := scOk_of sc33.nd rfl (by kernel_rfl)
    cases ht : tupOf v 3 with
    | false =>
      refine S_seq (S_ifT (T_w (W_or (u := !tupOf v 3) (v := true) (T_not (T_val (E_call S k_is_tuple_of (Nat.le_of_ble_eq_true rfl) (D_cons (E_var S 2 rfl rfl rfl) (D_cons E_int D_nil (fun _ => rfl)) (fun _ => rfl)) (fun Q R h => ⟨_, _, rfl, hv, h⟩) (mem_of 0 rfl) (fun _ => rfl) (fun _ => rfl)) (fun _ _ => rfl))) (fun z => by rw [ht] at z; cases z))) (by rw [ht]; rfl) (S_seq (S_ret E_bl ⟨?_, Nat.le_of_ble_eq_true rfl⟩)))
      have e : isNot rs last v = false := by
        unfold isNot
        rcases tupOf_no (n := 3) hv ht with z | ⟨ds, rfl, hl⟩
        · rw [z]; rfl
        · unfold notR
          simp only [tupB, itemsOf, Bool.true_and]
          split
          · simp at hl
          · rfl
      rw [e] at hQ
      exact hQ
    | true =>
      obtain ⟨ds, rfl, hd, hl⟩ := tupOf_eq (n := 3) hv ht
      match ds, hl with
      | [b, x, y], _ =>
        have ob : okB b = true := okB_at (i := 0) hd rfl
        have ox : okB x = true := okB_at (i := 1) hd rfl
        have oy : okB y = true := okB_at (i := 2) hd rfl
        refine S_seq (S_if (T_w (W_or (T_not (T_val (E_call S k_is_tuple_of (Nat.le_of_ble_eq_true rfl) (D_cons (E_var S 2 rfl rfl rfl) (D_cons E_int D_nil (fun _ => rfl)) (fun _ => rfl)) (fun Q R h => ⟨_, _, rfl, hv, h⟩) (mem_of 0 rfl) (fun _ => rfl) (fun _ => rfl)) (fun _ _ => rfl))) (fun _ => (W_or1 (T_not (T_val (E_call S k_is_between (Nat.le_of_ble_eq_true rfl) (D_cons (E_ix (E_var S 2 rfl rfl rfl) E_int (.d _) (.d _) (i_seq rfl rfl) (fun _ _ => rfl)) (D_cons E_int (D_cons (E_var S 1 rfl rfl rfl) D_nil (fun _ => rfl)) (fun _ => rfl)) (fun _ => rfl)) (fun Q R h => ⟨_, _, _, rfl, ob, h⟩) (mem_of 1 rfl) (fun _ => rfl) (fun _ => rfl)) (fun _ _ => rfl))))))) (fun hb => S_seq (S_ret E_bl ⟨?_, Nat.le_of_ble_eq_true rfl⟩)) (fun hb => S_nil (S_seq (S_ret (E_and (E_call S k_is_one_of (Nat.le_of_ble_eq_true rfl) (D_cons (E_var S 0 rfl rfl rfl) (D_cons (E_ix (E_var S 2 rfl rfl rfl) E_int (.d _) (.d _) (i_seq rfl rfl) (fun _ _ => rfl)) D_nil (fun _ => rfl)) (fun _ => rfl)) (fun Q R h => ⟨_, _, rfl, ox, h⟩) (mem_of 3 rfl) (fun _ => rfl) (fun _ => rfl)) (fun _ => (E_one (E_call S k_is_weight (Nat.le_of_ble_eq_true rfl) (D_cons (E_ix (E_var S 2 rfl rfl rfl) E_int (.d _) (.d _) (i_seq rfl rfl) (fun _ _ => rfl)) D_nil (fun _ => rfl)) (fun Q R h => ⟨_, rfl, oy, h⟩) (mem_of 2 rfl) (fun _ => rfl) (fun _ => rfl))))) ⟨?_, Nat.le_of_ble_eq_true rfl⟩))))
        · have hb : (!true || !betB b 0 last) = true := by rw [ht] at hb; exact hb
          have e : isNot rs last (.tup [b, x, y]) = false := by
            show (betB b 0 last && _) = false
            cases h2 : betB b 0 last <;> rw [h2] at hb <;> first | rfl | cases hb
          rw [e] at hQ
          exact hQ
        · have hb : (!true || !betB b 0 last) = false := by rw [ht] at hb; exact hb
          have e : isNot rs last (.tup [b, x, y]) = (oneB rs x && betB y 1 9) := by
            show (betB b 0 last && _) = _
            cases h2 : betB b 0 last <;> rw [h2] at hb <;> first | rfl | cases hb
          rw [e] at hQ
          exact hQ
end
end K03

set_option Elab.async false
set_option maxRecDepth 100000
set_option maxHeartbeats 4000000
namespace K03
open PySem PySem.Spec PyProof.Rows L2 Fw
theorem fwN_some {p : Nat → Bool} {n j : Nat} (hj : j < n) (h : ∀ i, i < j → p i = true) (hp : p j = false) : fwN p n = some j := by
  unfold fwN
  rw [List.find?_range_eq_some]
  refine ⟨by rw [hp]; rfl, by simpa using hj, fun i hi => by rw [h i hi]; rfl⟩
theorem fwN_none {p : Nat → Bool} {n : Nat} (h : ∀ i, i < n → p i = true) : fwN p n = none := by
  unfold fwN
  rw [List.find?_range_eq_none]
  intro i hi
  rw [h i hi]
  rfl
/-- the item, those ahead: what is_right is asked -/
def ScW (xs : List D) (p : Nat → Bool) : SpC := fun ds Q => ∃ (j : Nat) (x : D), xs[j]? = some x ∧ (∀ i, i < j → p i = true) ∧ ds = [x, .tup (xs.take j)] ∧ Q (.bl (p j))
def SlW : List D → SpC → (Res → Prop) → Prop := fun ds Sc Q => ∃ (xs : List D) (p : Nat → Bool), ds = [.tup xs] ∧ Sc = ScW xs p ∧ Q (.d (resD (fwN p xs.length)))
section
variable {Z : Zd} {A : Str → Addr} {fC : Addr} (B : B03 Z A fC)
theorem enumD_at {ds : List D} {j : Nat} {d : D} (h : (enumD ds)[j]? = some d) : ∃ x, ds[j]? = some x ∧ d = .tup [.int (j : Nat), x] := by
  unfold enumD at h
  rw [List.getElem?_mapIdx] at h
  cases e : ds[j]? with
  | none => rw [e] at h; cases h
  | some x => rw [e] at h; cases h; exact ⟨x, rfl, rfl⟩
theorem cutTake {xs : List D} {j : Nat} (h : j ≤ xs.length) : Fw.cutD xs none (some (j : Int)) = xs.take j := by
  unfold Fw.cutD
  show (xs.drop 0).take (min j xs.length - 0) = _
  rw [List.drop_zero, Nat.sub_zero, Nat.min_eq_left h]
theorem sc19 : FnScope ["value", "is_right", "index", "each"] ["value", "is_right"] (defScope (top 19)) := ⟨rfl, rfl, rfl, by decide +kernel, rfl, by decide +kernel, by decide +kernel⟩
include B in
theorem kn_first_wrong {f : Addr} {fd : FuncData} (F : FunD Z.K "first_wrong" "first_wrong" (defArgs (top 19)) (defBody (top 19)) (defScope (top 19)) [] [] f fd) (hm : Z.mg "first_wrong" = some (.ref f)) (hb : Binds Z.K fd ["value", "is_right"] []) : KnL Z 6 5 "first_wrong" SlW := by
  refine knl_of F sc19 hm hb (fun ds Sc Q h => ?_) (by decide) fun t E kp ds Sc Q h => ?_
  · obtain ⟨xs, p, rfl, _⟩ := h; rfl
  · obtain ⟨xs, p, rfl, rfl, hQ⟩ := h
    have S : ScOk ⟨Z.add t, ["value", "is_right", "index", "each"], defScope (top 19), fun _ => true, 5, E, kp, none⟩ [0, 1, 2, 3] [2, 3] ["enumerate"] := scOk_of sc19.nd rfl (by kernel_rfl)
    let ρ0 : Env' := [.d (.tup xs), .fn 5 kp (ScW xs p), .un, .un]
    refine S_seq (S_for (ρ1 := ρ0) (vs := [2, 3]) (ds := enumD xs) (fun j ρ => (∀ i, i < j → p i = true) ∧ ∃ e1 e2, ρ = [.d (.tup xs), .fn 5 kp (ScW xs p), e1, e2]) (I_enum S (E_var S 0 rfl rfl rfl) rfl (mem_of 0 rfl) (B.fr "enumerate" (mem_of 4 rfl)) (fun _ => rfl)) ⟨fun i hi => absurd hi (Nat.not_lt_zero i), .un, .un, rfl⟩ (fun j d ρ hj hI => ?turn) (fun ρ hI => ?fin) (fun _ _ => rfl))
    case turn =>
      obtain ⟨hp, e1, e2, rfl⟩ := hI
      obtain ⟨x, hx, rfl⟩ := enumD_at hj
      have hjl : j < xs.length := (List.getElem?_eq_some_iff.mp hx).1
      refine ⟨_, G_tup (Gs_cons (G_name S 2 rfl rfl rfl) (Gs_cons (G_name S 3 rfl rfl rfl) Gs_nil (fun _ => rfl)) (fun _ => rfl)) (fun _ _ hc h => pg_tup hc h), ?_⟩
      refine S_seq (S_if (T_not (T_val (E_callL S (i := 1) rfl (Nat.le_refl _) (D_cons (E_var S 3 rfl rfl rfl) (D_cons (E_is (E_slice (E_var S 0 rfl rfl rfl) .no (.yes (E_var S 2 rfl rfl rfl)) (.d _) s_tup) (congrArg D.tup (cutTake (Nat.le_of_lt hjl)))) D_nil (fun _ => rfl)) (fun _ => rfl)) (fun Q h => ⟨j, x, hx, hp, rfl, h⟩) rfl rfl (fun _ => rfl) (fun _ => rfl)) (fun _ _ => rfl))) (fun hb => S_seq (S_ret (E_var S 2 rfl rfl rfl) ⟨?_, rfl⟩)) (fun hb => S_nil (S_nil ⟨fun i hi => ?_, _, _, rfl⟩)))
      · have hb : p j = false := by cases z : p j <;> rw [z] at hb <;> first | rfl | cases hb
        rw [fwN_some hjl hp hb] at hQ
        exact hQ
      · have hb : p j = true := by cases z : p j <;> rw [z] at hb <;> first | rfl | cases hb
        rcases Nat.lt_succ_iff_lt_or_eq.mp hi with h | h
        · exact hp i h
        · rw [h]; exact hb
    case fin =>
      obtain ⟨hp, e1, e2, rfl⟩ := hI
      have hl : (enumD xs).length = xs.length := by unfold enumD; simp
      rw [hl] at hp
      rw [fwN_none hp] at hQ
      exact S_seq (S_ret E_non ⟨hQ, rfl⟩)
/-! ### the lambdas -/
def aheadB (xs : List D) (j : Nat) : Bool := decide ((xs.take j).length = 0) || ltD (xs.getD (j - 1) .non) (xs.getD j .non)
def pRoom (xs : List D) (j : Nat) : Bool := nameB (xs.getD j .non) && aheadB xs j
def pDoor (ns : List Str) (xs : List D) (j : Nat) : Bool := doorB ns (xs.getD j .non) && aheadB xs j
def pPers (ns : List Str) (xs : List D) (j : Nat) : Bool := nameB (xs.getD j .non) && (!inL ns (xs.getD j .non) && aheadB xs j)
def pSig (rs ps : List Str) (last : Int) (xs : List D) (j : Nat) : Bool := isSig rs ps last (xs.getD j .non)
def pNot (rs : List Str) (last : Int) (xs : List D) (j : Nat) : Bool := isNot rs last (xs.getD j .non)
theorem getD_of {xs : List D} {j : Nat} {x : D} (h : xs[j]? = some x) : xs.getD j .non = x := by rw [List.getD_eq_getElem?_getD, h]; rfl
theorem take_last {xs : List D} {j : Nat} (h0 : (xs.take j).length ≠ 0) (hj : j < xs.length) : atI (xs.take j) (-1) = some (xs.getD (j - 1) .non) := by
  have hl : (xs.take j).length = j := by rw [List.length_take]; omega
  rw [hl] at h0
  have e : ixN (xs.take j).length (-1) = some (j - 1) := by
    rw [hl]
    unfold ixN
    rw [if_neg (by omega), if_pos (by omega)]
    congr 1
    omega
  unfold atI
  rw [e]
  show (xs.take j)[j - 1]? = _
  rw [List.getElem?_take_of_lt (by omega), List.getD_eq_getElem?_getD, List.getElem?_eq_getElem (by omega)]
  rfl
theorem m_name : Mono sp_is_name := fun _ _ _ _ _ hq _ ⟨v, e, o, h⟩ => ⟨v, e, o, hq _ h⟩
theorem m_door : Mono sp_is_door := fun _ _ _ _ _ hq _ ⟨ns, v, e, o, h⟩ => ⟨ns, v, e, o, hq _ h⟩
theorem m_sig : Mono sp_is_sighting := fun _ _ _ _ _ hq _ ⟨rs, ps, l, v, e, o, h⟩ => ⟨rs, ps, l, v, e, o, hq _ h⟩
theorem m_not : Mono sp_is_notice := fun _ _ _ _ _ hq _ ⟨rs, l, v, e, o, h⟩ => ⟨rs, l, v, e, o, hq _ h⟩
def sp_wrong_room : SpD := fun ds Q _ => ∃ xs : List D, ds = [.tup xs] ∧ okBs xs = true ∧ Q (.d (resD (fwN (pRoom xs) xs.length)))
theorem nameB_eq {v : D} (h : nameB v = true) : ∃ x, v = .str x := strB_eq (and2 h).1
include B in
/-- ahead == () or ahead[-1] < x -/
theorem ahead_ev {c : CD} {ρ : Env'} {vis loc : List Nat} {gl : List Str} (S : ScOk c vis loc gl) (hK : c.K = Z.K) {xs : List D} {j : Nat} {x : D} {ai xi : Nat} {an xn : Str} (hx : xs[j]? = some x) (ho : okBs xs = true) (ha : ρ[ai]? = some (.d (.tup (xs.take j)))) (hxi : ρ[xi]? = some (.d x)) (hN : c.N[ai]? = some an) (hM : c.N[xi]? = some xn) (va : vis.contains ai = true) (vx : vis.contains xi = true)
    (hc : (xs.take j).length ≠ 0 → Cmp (xs.getD (j - 1) .non) x) {p1 p2 p3 p4 p5 p6 p7 p8 p9 p10 : Pos} {k1 : _} {k2 : Nat} :
    EvX c (.BoolOp .Or [.Compare (.Name an p1) [.Eq] [.Tuple [] k1 p2] p3, .Compare (.Subscript (.Name an p4) (.UnaryOp .USub (.Constant (.int 1) k2 p5) p6) p7) [.Lt] [.Name xn p8] p9] p10) ρ (.d (.bl (aheadB xs j))) ρ := by
  have hj : j < xs.length := (List.getElem?_eq_some_iff.mp hx).1
  refine E_or (u := decide ((xs.take j).length = 0)) (v := ltD (xs.getD (j - 1) .non) (xs.getD j .non)) (E_cmp (E_var S ai ha hN va) (E_tupD D_nil rfl) (.d _) (.d _) (o_eqT0 (by rw [hK]; exact B.sm) (okB_isR _ (okBs_take ho j))) rfl) fun h => E_one ?_
  have h := of_decide_eq_false h
  rw [getD_of hx]
  exact E_cmp (E_ix (E_var S ai ha hN va) (E_neg E_int) (.d _) (.d _) (i_seq rfl (take_last h hj)) (fun _ _ => rfl)) (E_var S xi hxi hM vx) (.d _) (.d _) (o_ltD (hc h)) rfl
theorem prev_name {xs : List D} {j : Nat} (h0 : (xs.take j).length ≠ 0) {p : Nat → Bool} (hp : ∀ i, i < j → p i = true) (h : ∀ i, p i = true → nameB (xs.getD i .non) = true) {x : D} (hx : nameB x = true) : Cmp (xs.getD (j - 1) .non) x := by
  have : j ≠ 0 := fun z => h0 (by rw [z]; rfl)
  obtain ⟨a, ea⟩ := nameB_eq (h (j - 1) (hp (j - 1) (by omega)))
  obtain ⟨b, eb⟩ := nameB_eq hx
  rw [ea, eb]
  exact cmpS
theorem sc34 : FnScope ["value"] ["value"] (defScope (top 34)) := ⟨rfl, rfl, rfl, by decide +kernel, rfl, by decide +kernel, by decide +kernel⟩
include B in
theorem kn_wrong_room {f cc P : Addr} {fd : FuncData} (F : FunD Z.K "wrong_room" "wrong_room" (defArgs (top 34)) (defBody (top 34)) (defScope (top 34)) [] [] f fd) (hcd : fd.code = .ref cc) (M : Mkr Z "wrong_room" cc P) (k_first_wrong : KnL Z 6 5 "first_wrong" SlW) (k_is_name : Kn Z 2 "is_name" (SpP Z sp_is_name)) : FnK Z.P Z.w Z.K Z.mg Z.base (L2.CX Z.P Z.w) 7 f fd ["value"] (SpP Z sp_wrong_room) := by
  refine kn_ofP F sc34 (fun ds Q R h => ?_) (by decide) (mkr := some ("wrong_room.<locals>.", cc)) (fun p z => by cases z; exact ⟨rfl, hcd⟩) fun E ds Q R h => ?_
  · obtain ⟨xs, rfl, _⟩ := h; rfl
  · obtain ⟨xs, rfl, ho, hQ⟩ := h
    have S : ScOk ⟨Z, ["value"], defScope (top 34), fun _ => true, 6, E, fun _ _ => False, some ("wrong_room.<locals>.", cc)⟩ [0] [] ["first_wrong"] := scOk_of sc34.nd rfl (by kernel_rfl)
    refine S_seq (S_ret (E_lamS S (m := 4) (Sc := ScW xs (pRoom xs)) (ps := ["name", "ahead"]) (fr := []) (ix := []) (xs := []) [0, 1] ["is_name"] k_first_wrong (Nat.le_refl _) rfl M.tb M.mem M.un (E_var S 0 rfl rfl rfl) (lamP_by (by decide +kernel)) cap0 (by decide +kernel) (fun _ => rfl) (fun _ _ _ _ _ us hl => match us, hl with | [_, _], _ => rfl) (fun ds Q h => ?len) (fun t => scOk_of (by (dsimp only [Fw.lamCD]; decide +kernel)) rfl (by kernel_rfl)) (fun t S2 ds Q h => ?body) (fun Q h => ⟨xs, _, rfl, rfl, h⟩) rfl (mem_of 0 rfl) (fun _ => rfl)) ⟨hQ, Nat.le_of_ble_eq_true rfl⟩)
    case len =>
      obtain ⟨j, x, hx, hp, rfl, h⟩ := h
      rfl
    case body =>
      obtain ⟨j, x, hx, hp, rfl, h⟩ := h
      refine ⟨_, _, E_and (u := nameB x) (v := aheadB xs j) (E_call S2 (k_is_name.add m_name) (Nat.le_of_ble_eq_true rfl) (D_cons (E_var S2 0 rfl rfl rfl) D_nil (fun _ => rfl)) (fun Q R h => ⟨_, rfl, okB_at ho hx, h⟩) (mem_of 0 rfl) (fun _ => rfl) (fun _ => rfl)) (fun hn => E_one ?_), ?_⟩
      · exact ahead_ev B S2 (ai := 1) (xi := 0) rfl hx ho rfl rfl rfl rfl rfl rfl fun h0 => prev_name h0 hp (fun i hi => (and2 hi).1) hn
      · unfold pRoom at h
        rw [getD_of hx] at h
        exact h
def sp_wrong_door : SpD := fun ds Q _ => ∃ (ns : List Str) (xs : List D), ds = [.tup (ns.map D.str), .tup xs] ∧ okBs xs = true ∧ Q (.d (resD (fwN (pDoor ns xs) xs.length)))
theorem doorB_eq {ns : List Str} {v : D} (o : okB v = true) (h : doorB ns v = true) : ∃ a b, v = .tup [.str a, .str b] := by
  obtain ⟨h1, h2⟩ := and2 h
  obtain ⟨ds, rfl, hd, hl⟩ := tupOf_eq (n := 2) o h1
  obtain ⟨h2, _⟩ := and2 h2
  match ds, hl with
  | [a, b], _ =>
    have h2 : ([a, b].all (oneB ns)) = true := h2
    simp only [List.all_cons, List.all_nil, Bool.and_true, Bool.and_eq_true] at h2
    obtain ⟨x, rfl, _⟩ := oneB_eq h2.1
    obtain ⟨y, rfl, _⟩ := oneB_eq h2.2
    exact ⟨x, y, rfl⟩
theorem okB_getD {xs : List D} (h : okBs xs = true) (i : Nat) : okB (xs.getD i .non) = true := by
  rw [List.getD_eq_getElem?_getD]
  cases e : xs[i]? with
  | none => rfl
  | some x => exact okB_at h e
theorem prev_door {ns : List Str} {xs : List D} (ho : okBs xs = true) {j : Nat} (h0 : (xs.take j).length ≠ 0) {p : Nat → Bool} (hp : ∀ i, i < j → p i = true) (h : ∀ i, p i = true → doorB ns (xs.getD i .non) = true) {x : D} (ox : okB x = true) (hx : doorB ns x = true) : Cmp (xs.getD (j - 1) .non) x := by
  have : j ≠ 0 := fun z => h0 (by rw [z]; rfl)
  obtain ⟨a, b, ea⟩ := doorB_eq (okB_getD ho _) (h (j - 1) (hp (j - 1) (by omega)))
  obtain ⟨a2, b2, eb⟩ := doorB_eq ox hx
  rw [ea, eb]
  exact cmpP
theorem sc35 : FnScope ["rooms", "value"] ["rooms", "value"] (defScope (top 35)) := ⟨rfl, rfl, rfl, by decide +kernel, rfl, by decide +kernel, by decide +kernel⟩
include B in
theorem kn_wrong_door {f cc P : Addr} {fd : FuncData} (F : FunD Z.K "wrong_door" "wrong_door" (defArgs (top 35)) (defBody (top 35)) (defScope (top 35)) [] [] f fd) (hcd : fd.code = .ref cc) (M : Mkr Z "wrong_door" cc P) (k_first_wrong : KnL Z 6 5 "first_wrong" SlW) (k_is_door : Kn Z 3 "is_door" (SpP Z sp_is_door)) : FnK Z.P Z.w Z.K Z.mg Z.base (L2.CX Z.P Z.w) 7 f fd ["rooms", "value"] (SpP Z sp_wrong_door) := by
  refine kn_ofP F sc35 (fun ds Q R h => ?_) (by decide) (mkr := some ("wrong_door.<locals>.", cc)) (fun p z => by cases z; exact ⟨rfl, hcd⟩) fun E ds Q R h => ?_
  · obtain ⟨ns, xs, rfl, _⟩ := h; rfl
  · obtain ⟨ns, xs, rfl, ho, hQ⟩ := h
    have S : ScOk ⟨Z, ["rooms", "value"], defScope (top 35), fun _ => true, 6, E, fun _ _ => False, some ("wrong_door.<locals>.", cc)⟩ [0, 1] [] ["first_wrong"] := scOk_of sc35.nd rfl (by kernel_rfl)
    refine S_seq (S_ret (E_lamS S (m := 4) (Sc := ScW xs (pDoor ns xs)) (ps := ["door", "ahead"]) (fr := ["rooms"]) (ix := [0]) (xs := [.tup (ns.map D.str)]) [0, 1, 2] ["is_door"] k_first_wrong (Nat.le_refl _) rfl M.tb M.mem M.un (E_var S 1 rfl rfl rfl) (lamP_by (by decide +kernel)) (capS cap0 rfl rfl rfl rfl) (by decide +kernel) (fun _ => rfl) (fun _ _ _ _ _ us hl => match us, hl with | [_, _], _ => rfl) (fun ds Q h => ?len) (fun t => scOk_of (by (dsimp only [Fw.lamCD]; decide +kernel)) rfl (by kernel_rfl)) (fun t S2 ds Q h => ?body) (fun Q h => ⟨xs, _, rfl, rfl, h⟩) rfl (mem_of 0 rfl) (fun _ => rfl)) ⟨hQ, Nat.le_of_ble_eq_true rfl⟩)
    case len =>
      obtain ⟨j, x, hx, hp, rfl, h⟩ := h
      rfl
    case body =>
      obtain ⟨j, x, hx, hp, rfl, h⟩ := h
      refine ⟨_, _, E_and (u := doorB ns x) (v := aheadB xs j) (E_call S2 (k_is_door.add m_door) (Nat.le_of_ble_eq_true rfl) (D_cons (E_var S2 2 rfl rfl rfl) (D_cons (E_var S2 0 rfl rfl rfl) D_nil (fun _ => rfl)) (fun _ => rfl)) (fun Q R h => ⟨_, _, rfl, okB_at ho hx, h⟩) (mem_of 0 rfl) (fun _ => rfl) (fun _ => rfl)) (fun hn => E_one ?_), ?_⟩
      · exact ahead_ev B S2 (ai := 1) (xi := 0) rfl hx ho rfl rfl rfl rfl rfl rfl fun h0 => prev_door ho h0 hp (fun i hi => (and2 hi).1) (okB_at ho hx) hn
      · unfold pDoor at h
        rw [getD_of hx] at h
        exact h
def sp_wrong_person : SpD := fun ds Q _ => ∃ (ns : List Str) (xs : List D), ds = [.tup (ns.map D.str), .tup xs] ∧ okBs xs = true ∧ Q (.d (resD (fwN (pPers ns xs) xs.length)))
theorem sc36 : FnScope ["rooms", "value"] ["rooms", "value"] (defScope (top 36)) := ⟨rfl, rfl, rfl, by decide +kernel, rfl, by decide +kernel, by decide +kernel⟩
include B in
theorem kn_wrong_person {f cc P : Addr} {fd : FuncData} (F : FunD Z.K "wrong_person" "wrong_person" (defArgs (top 36)) (defBody (top 36)) (defScope (top 36)) [] [] f fd) (hcd : fd.code = .ref cc) (M : Mkr Z "wrong_person" cc P) (k_first_wrong : KnL Z 6 5 "first_wrong" SlW) (k_is_name : Kn Z 2 "is_name" (SpP Z sp_is_name)) : FnK Z.P Z.w Z.K Z.mg Z.base (L2.CX Z.P Z.w) 7 f fd ["rooms", "value"] (SpP Z sp_wrong_person) := by
  refine kn_ofP F sc36 (fun ds Q R h => ?_) (by decide) (mkr := some ("wrong_person.<locals>.", cc)) (fun p z => by cases z; exact ⟨rfl, hcd⟩) fun E ds Q R h => ?_
  · obtain ⟨ns, xs, rfl, _⟩ := h; rfl
  · obtain ⟨ns, xs, rfl, ho, hQ⟩ := h
    have S : ScOk ⟨Z, ["rooms", "value"], defScope (top 36), fun _ => true, 6, E, fun _ _ => False, some ("wrong_person.<locals>.", cc)⟩ [0, 1] [] ["first_wrong"] := scOk_of sc36.nd rfl (by kernel_rfl)
    refine S_seq (S_ret (E_lamS S (m := 4) (Sc := ScW xs (pPers ns xs)) (ps := ["name", "ahead"]) (fr := ["rooms"]) (ix := [0]) (xs := [.tup (ns.map D.str)]) [0, 1, 2] ["is_name"] k_first_wrong (Nat.le_refl _) rfl M.tb M.mem M.un (E_var S 1 rfl rfl rfl) (lamP_by (by decide +kernel)) (capS cap0 rfl rfl rfl rfl) (by decide +kernel) (fun _ => rfl) (fun _ _ _ _ _ us hl => match us, hl with | [_, _], _ => rfl) (fun ds Q h => ?len) (fun t => scOk_of (by (dsimp only [Fw.lamCD]; decide +kernel)) rfl (by kernel_rfl)) (fun t S2 ds Q h => ?body) (fun Q h => ⟨xs, _, rfl, rfl, h⟩) rfl (mem_of 0 rfl) (fun _ => rfl)) ⟨hQ, Nat.le_of_ble_eq_true rfl⟩)
    case len =>
      obtain ⟨j, x, hx, hp, rfl, h⟩ := h
      rfl
    case body =>
      obtain ⟨j, x, hx, hp, rfl, h⟩ := h
      refine ⟨_, _, E_and (u := nameB x) (v := !inL ns x && aheadB xs j) (E_call S2 (k_is_name.add m_name) (Nat.le_of_ble_eq_true rfl) (D_cons (E_var S2 0 rfl rfl rfl) D_nil (fun _ => rfl)) (fun Q R h => ⟨_, rfl, okB_at ho hx, h⟩) (mem_of 0 rfl) (fun _ => rfl) (fun _ => rfl)) (fun hn => ?_), ?_⟩
      · refine E_and (u := !inL ns x) (v := aheadB xs j) ?_ fun _ => E_one (ahead_ev B S2 (ai := 1) (xi := 0) rfl hx ho rfl rfl rfl rfl rfl rfl fun h0 => prev_name h0 hp (fun i hi => (and2 hi).1) hn)
        obtain ⟨y, rfl⟩ := nameB_eq hn
        exact E_cmp (E_var S2 0 rfl rfl rfl) (E_var S2 2 rfl rfl rfl) (.d _) (.d _) (o_notInS rfl) rfl
      · unfold pPers at h
        rw [getD_of hx] at h
        exact h
def sp_wrong_sighting : SpD := fun ds Q _ => ∃ (rs ps : List Str) (last : Int) (xs : List D), ds = [.tup (rs.map D.str), .tup (ps.map D.str), .int last, .tup xs] ∧ okBs xs = true ∧ Q (.d (resD (fwN (pSig rs ps last xs) xs.length)))
theorem sc37 : FnScope ["rooms", "people", "last", "value"] ["rooms", "people", "last", "value"] (defScope (top 37)) := ⟨rfl, rfl, rfl, by decide +kernel, rfl, by decide +kernel, by decide +kernel⟩
include B in
theorem kn_wrong_sighting {f cc P : Addr} {fd : FuncData} (F : FunD Z.K "wrong_sighting" "wrong_sighting" (defArgs (top 37)) (defBody (top 37)) (defScope (top 37)) [] [] f fd) (hcd : fd.code = .ref cc) (M : Mkr Z "wrong_sighting" cc P) (k_first_wrong : KnL Z 6 5 "first_wrong" SlW) (k_is_sighting : Kn Z 4 "is_sighting" (SpP Z sp_is_sighting)) : FnK Z.P Z.w Z.K Z.mg Z.base (L2.CX Z.P Z.w) 7 f fd ["rooms", "people", "last", "value"] (SpP Z sp_wrong_sighting) := by
  refine kn_ofP F sc37 (fun ds Q R h => ?_) (by decide) (mkr := some ("wrong_sighting.<locals>.", cc)) (fun p z => by cases z; exact ⟨rfl, hcd⟩) fun E ds Q R h => ?_
  · obtain ⟨rs, ps, last, xs, rfl, _⟩ := h; rfl
  · obtain ⟨rs, ps, last, xs, rfl, ho, hQ⟩ := h
    have S : ScOk ⟨Z, ["rooms", "people", "last", "value"], defScope (top 37), fun _ => true, 6, E, fun _ _ => False, some ("wrong_sighting.<locals>.", cc)⟩ [0, 1, 2, 3] [] ["first_wrong"] := scOk_of sc37.nd rfl (by kernel_rfl)
    refine S_seq (S_ret (E_lamS S (m := 4) (Sc := ScW xs (pSig rs ps last xs)) (ps := ["sighting", "ahead"]) (fr := ["rooms", "people", "last"]) (ix := [0, 1, 2]) (xs := [.tup (rs.map D.str), .tup (ps.map D.str), .int last]) [0, 1, 2, 3, 4] ["is_sighting"] k_first_wrong (Nat.le_refl _) rfl M.tb M.mem M.un (E_var S 3 rfl rfl rfl) (lamP_by (by decide +kernel)) (capS (capS (capS cap0 rfl rfl rfl rfl) rfl rfl rfl rfl) rfl rfl rfl rfl) (by decide +kernel) (fun _ => rfl) (fun _ _ _ _ _ us hl => match us, hl with | [_, _], _ => rfl) (fun ds Q h => ?len) (fun t => scOk_of (by (dsimp only [Fw.lamCD]; decide +kernel)) rfl (by kernel_rfl)) (fun t S2 ds Q h => ?body) (fun Q h => ⟨xs, _, rfl, rfl, h⟩) rfl (mem_of 0 rfl) (fun _ => rfl)) ⟨hQ, Nat.le_of_ble_eq_true rfl⟩)
    case len =>
      obtain ⟨j, x, hx, hp, rfl, h⟩ := h
      rfl
    case body =>
      obtain ⟨j, x, hx, hp, rfl, h⟩ := h
      refine ⟨_, _, E_call S2 (k_is_sighting.add m_sig) (Nat.le_of_ble_eq_true rfl) (D_cons (E_var S2 2 rfl rfl rfl) (D_cons (E_var S2 3 rfl rfl rfl) (D_cons (E_var S2 4 rfl rfl rfl) (D_cons (E_var S2 0 rfl rfl rfl) D_nil (fun _ => rfl)) (fun _ => rfl)) (fun _ => rfl)) (fun _ => rfl)) (fun Q R h => ⟨_, _, _, _, rfl, okB_at ho hx, h⟩) (mem_of 0 rfl) (fun _ => rfl) (fun _ => rfl), ?_⟩
      unfold pSig at h
      rw [getD_of hx] at h
      exact h
def sp_wrong_notice : SpD := fun ds Q _ => ∃ (rs : List Str) (last : Int) (xs : List D), ds = [.tup (rs.map D.str), .int last, .tup xs] ∧ okBs xs = true ∧ Q (.d (resD (fwN (pNot rs last xs) xs.length)))
theorem sc38 : FnScope ["rooms", "last", "value"] ["rooms", "last", "value"] (defScope (top 38)) := ⟨rfl, rfl, rfl, by decide +kernel, rfl, by decide +kernel, by decide +kernel⟩
include B in
theorem kn_wrong_notice {f cc P : Addr} {fd : FuncData} (F : FunD Z.K "wrong_notice" "wrong_notice" (defArgs (top 38)) (defBody (top 38)) (defScope (top 38)) [] [] f fd) (hcd : fd.code = .ref cc) (M : Mkr Z "wrong_notice" cc P) (k_first_wrong : KnL Z 6 5 "first_wrong" SlW) (k_is_notice : Kn Z 4 "is_notice" (SpP Z sp_is_notice)) : FnK Z.P Z.w Z.K Z.mg Z.base (L2.CX Z.P Z.w) 7 f fd ["rooms", "last", "value"] (SpP Z sp_wrong_notice) := by
  refine kn_ofP F sc38 (fun ds Q R h => ?_) (by decide) (mkr := some ("wrong_notice.<locals>.", cc)) (fun p z => by cases z; exact ⟨rfl, hcd⟩) fun E ds Q R h => ?_
  · obtain ⟨rs, last, xs, rfl, _⟩ := h; rfl
  · obtain ⟨rs, last, xs, rfl, ho, hQ⟩ := h
    have S : ScOk ⟨Z, ["rooms", "last", "value"], defScope (top 38), fun _ => true, 6, E, fun _ _ => False, some ("wrong_notice.<locals>.", cc)⟩ [0, 1, 2] [] ["first_wrong"] := scOk_of sc38.nd rfl (by kernel_rfl)
    refine S_seq (S_ret (E_lamS S (m := 4) (Sc := ScW xs (pNot rs last xs)) (ps := ["notice", "ahead"]) (fr := ["rooms", "last"]) (ix := [0, 1]) (xs := [.tup (rs.map D.str), .int last]) [0, 1, 2, 3] ["is_notice"] k_first_wrong (Nat.le_refl _) rfl M.tb M.mem M.un (E_var S 2 rfl rfl rfl) (lamP_by (by decide +kernel)) (capS (capS cap0 rfl rfl rfl rfl) rfl rfl rfl rfl) (by decide +kernel) (fun _ => rfl) (fun _ _ _ _ _ us hl => match us, hl with | [_, _], _ => rfl) (fun ds Q h => ?len) (fun t => scOk_of (by (dsimp only [Fw.lamCD]; decide +kernel)) rfl (by kernel_rfl)) (fun t S2 ds Q h => ?body) (fun Q h => ⟨xs, _, rfl, rfl, h⟩) rfl (mem_of 0 rfl) (fun _ => rfl)) ⟨hQ, Nat.le_of_ble_eq_true rfl⟩)
    case len =>
      obtain ⟨j, x, hx, hp, rfl, h⟩ := h
      rfl
    case body =>
      obtain ⟨j, x, hx, hp, rfl, h⟩ := h
      refine ⟨_, _, E_call S2 (k_is_notice.add m_not) (Nat.le_of_ble_eq_true rfl) (D_cons (E_var S2 2 rfl rfl rfl) (D_cons (E_var S2 3 rfl rfl rfl) (D_cons (E_var S2 0 rfl rfl rfl) D_nil (fun _ => rfl)) (fun _ => rfl)) (fun _ => rfl)) (fun Q R h => ⟨_, _, _, rfl, okB_at ho hx, h⟩) (mem_of 0 rfl) (fun _ => rfl) (fun _ => rfl), ?_⟩
      unfold pNot at h
      rw [getD_of hx] at h
      exact h
end
end K03

set_option Elab.async false
set_option maxRecDepth 100000
set_option maxHeartbeats 4000000
namespace K03
open PySem PySem.Spec PyProof.Rows L2 Fw
/-- what is told of a row's first wrong element: none where nothing is wrong -/
def vIx (b : Bool) (w : Option Nat) : Option D := if b then w.map (fun j => D.int (j : Nat)) else some .non
theorem rowB_eq {v : D} {lo hi : Int} (o : okB v = true) (h : rowB v lo hi = true) : ∃ ds, v = .tup ds ∧ okBs ds = true := tupB_eq o (and2 h).1
def vRooms (v : D) : Option D := vIx (rowB v 2 4) (fwN (pRoom (itemsOf v)) (itemsOf v).length)
def vDoors (ns : List Str) (v : D) : Option D := vIx (rowB v 0 10) (fwN (pDoor ns (itemsOf v)) (itemsOf v).length)
def vPeople (ns : List Str) (v : D) : Option D := vIx (rowB v 1 3) (fwN (pPers ns (itemsOf v)) (itemsOf v).length)
def vLast (v : D) : Option D := if betB v 1 8 then none else some v
def vEnd (ns : List Str) (v : D) : Option D := if oneB ns v then none else some v
def vSig (rs ps : List Str) (last : Int) (v : D) : Option D := vIx (rowB v 0 16) (fwN (pSig rs ps last (itemsOf v)) (itemsOf v).length)
def vNot (rs : List Str) (last : Int) (v : D) : Option D := vIx (rowB v 0 6) (fwN (pNot rs last (itemsOf v)) (itemsOf v).length)
/-- nothing, or the class with what it keeps -/
def Told (A : Str → Addr) (x f : Str) (w : Option D) (Q : Res → Prop) (R : Value → List (Str × D) → Prop) : Prop := match w with
  | none => Q (.d .non)
  | some d => R (.ref (A x)) [(f, d)]
section
variable {Z : Zd} {A : Str → Addr} {fC : Addr} (B : B03 Z A fC)
theorem mem_of_p {l : List (Str × Str)} {x : Str × Str} (i : Nat) (h : l[i]? = some x) : x ∈ l := List.mem_of_getElem? h
def sp_check_rooms (A : Str → Addr) : SpD := fun ds Q R => ∃ (v : D), ds = [v] ∧ okB v = true ∧ Told A "InvalidRooms" "index" (vRooms v) Q R
theorem sc39 : FnScope ["rooms", "wrong"] ["rooms"] (defScope (top 39)) := ⟨rfl, rfl, rfl, by decide +kernel, rfl, by decide +kernel, by decide +kernel⟩
include B in
theorem kn_check_rooms {f : Addr} {fd : FuncData} (F : FunD Z.K "check_rooms" "check_rooms" (defArgs (top 39)) (defBody (top 39)) (defScope (top 39)) [] [] f fd) (k_is_row : Kn Z 1 "is_row" (SpP Z sp_is_row)) (k_wrong_room : Kn Z 7 "wrong_room" (SpP Z sp_wrong_room)) : FnK Z.P Z.w Z.K Z.mg Z.base (L2.CX Z.P Z.w) 8 f fd ["rooms"] (SpP Z (sp_check_rooms A)) := by
  refine kn_ofP F sc39 (fun ds Q R h => ?_) (by decide) (mkr := none) (fun _ z => nomatch z) fun E ds Q R h => ?_
  · obtain ⟨v, rfl, _⟩ := h; rfl
  · obtain ⟨v, rfl, hv, hQ⟩ := h
    have S : ScOk ⟨Z, ["rooms", "wrong"], defScope (top 39), fun _ => true, 7, E, fun _ _ => False, none⟩ [0, 1] [1] ["MOST_ROOMS", "FEWEST_ROOMS", "is_row", "InvalidRooms", "wrong_room"] := scOk_of sc39.nd rfl (by kernel_rfl)
    cases hr : rowB v 2 4 with
    | false =>
      have e : vRooms v = some .non := by unfold vRooms vIx; rw [hr]; rfl
      rw [e] at hQ
      refine S_seq (S_asg (vs := [1]) (d := .non) (E_ifF (T_val (E_call S k_is_row (Nat.le_of_ble_eq_true rfl) (D_cons (E_var S 0 rfl rfl rfl) (D_cons (E_globI S (mem_of 1 rfl) (B.gi_FEWEST_ROOMS)) (D_cons (E_globI S (mem_of 0 rfl) (B.gi_MOST_ROOMS)) D_nil (fun _ => rfl)) (fun _ => rfl)) (fun _ => rfl)) (fun Q R h => ⟨_, _, _, rfl, hv, h⟩) (mem_of 2 rfl) (fun _ => rfl) (fun _ => rfl)) (fun _ _ => rfl)) hr E_non) (G_name S 1 rfl rfl rfl) ?_ (fun _ _ => rfl) (fun _ _ => rfl) (fun _ => rfl))
      refine S_seq (S_ifT (T_w (W_or (v := true) (T_not (T_is (T_val (E_call S k_is_row (Nat.le_of_ble_eq_true rfl) (D_cons (E_var S 0 rfl rfl rfl) (D_cons (E_globI S (mem_of 1 rfl) (B.gi_FEWEST_ROOMS)) (D_cons (E_globI S (mem_of 0 rfl) (B.gi_MOST_ROOMS)) D_nil (fun _ => rfl)) (fun _ => rfl)) (fun _ => rfl)) (fun Q R h => ⟨_, _, _, rfl, hv, h⟩) (mem_of 2 rfl) (fun _ => rfl) (fun _ => rfl)) (fun _ _ => rfl)) hr)) (fun z => nomatch z))) rfl (S_seq (S_raise S (B.mkE ("InvalidRooms", "index") (mem_of_p 2 rfl)) (Nat.le_of_ble_eq_true rfl) (E_var S 1 rfl rfl rfl) (mem_of 3 rfl) (fun _ => rfl) (fun _ => rfl) ⟨hQ, Nat.le_of_ble_eq_true rfl⟩)))
    | true =>
      obtain ⟨xs, rfl, hd⟩ := rowB_eq hv hr
      cases hw : fwN (pRoom xs) xs.length with
      | none =>
        have e : vRooms (.tup xs) = none := by unfold vRooms vIx; rw [hr]; show (fwN (pRoom xs) xs.length).map _ = _; rw [hw]; rfl
        rw [e] at hQ
        refine S_seq (S_asg (vs := [1]) (d := .non) (E_ifT (T_val (E_call S k_is_row (Nat.le_of_ble_eq_true rfl) (D_cons (E_var S 0 rfl rfl rfl) (D_cons (E_globI S (mem_of 1 rfl) (B.gi_FEWEST_ROOMS)) (D_cons (E_globI S (mem_of 0 rfl) (B.gi_MOST_ROOMS)) D_nil (fun _ => rfl)) (fun _ => rfl)) (fun _ => rfl)) (fun Q R h => ⟨_, _, _, rfl, hv, h⟩) (mem_of 2 rfl) (fun _ => rfl) (fun _ => rfl)) (fun _ _ => rfl)) hr (E_is (E_call S k_wrong_room (Nat.le_of_ble_eq_true rfl) (D_cons (E_var S 0 rfl rfl rfl) D_nil (fun _ => rfl)) (fun Q R h => ⟨_, rfl, hd, h⟩) (mem_of 4 rfl) (fun _ => rfl) (fun _ => rfl)) (by rw [hw]; rfl))) (G_name S 1 rfl rfl rfl) ?_ (fun _ _ => rfl) (fun _ _ => rfl) (fun _ => rfl))
        exact S_seq (S_ifF (T_w (W_or (T_not (T_is (T_val (E_call S k_is_row (Nat.le_of_ble_eq_true rfl) (D_cons (E_var S 0 rfl rfl rfl) (D_cons (E_globI S (mem_of 1 rfl) (B.gi_FEWEST_ROOMS)) (D_cons (E_globI S (mem_of 0 rfl) (B.gi_MOST_ROOMS)) D_nil (fun _ => rfl)) (fun _ => rfl)) (fun _ => rfl)) (fun Q R h => ⟨_, _, _, rfl, hv, h⟩) (mem_of 2 rfl) (fun _ => rfl) (fun _ => rfl)) (fun _ _ => rfl)) hr)) (fun _ => W_or1 (T_cmp (E_var S 1 rfl rfl rfl) E_non (.d _) (.d _) o_notN rfl)))) rfl (S_nil (S_nil ⟨hQ, Nat.le_of_ble_eq_true rfl⟩)))
      | some j =>
        have e : vRooms (.tup xs) = some (.int (j : Nat)) := by unfold vRooms vIx; rw [hr]; show (fwN (pRoom xs) xs.length).map _ = _; rw [hw]; rfl
        rw [e] at hQ
        refine S_seq (S_asg (vs := [1]) (d := .int (j : Nat)) (E_ifT (T_val (E_call S k_is_row (Nat.le_of_ble_eq_true rfl) (D_cons (E_var S 0 rfl rfl rfl) (D_cons (E_globI S (mem_of 1 rfl) (B.gi_FEWEST_ROOMS)) (D_cons (E_globI S (mem_of 0 rfl) (B.gi_MOST_ROOMS)) D_nil (fun _ => rfl)) (fun _ => rfl)) (fun _ => rfl)) (fun Q R h => ⟨_, _, _, rfl, hv, h⟩) (mem_of 2 rfl) (fun _ => rfl) (fun _ => rfl)) (fun _ _ => rfl)) hr (E_is (E_call S k_wrong_room (Nat.le_of_ble_eq_true rfl) (D_cons (E_var S 0 rfl rfl rfl) D_nil (fun _ => rfl)) (fun Q R h => ⟨_, rfl, hd, h⟩) (mem_of 4 rfl) (fun _ => rfl) (fun _ => rfl)) (by rw [hw]; rfl))) (G_name S 1 rfl rfl rfl) ?_ (fun _ _ => rfl) (fun _ _ => rfl) (fun _ => rfl))
        exact S_seq (S_ifT (T_w (W_or (T_not (T_is (T_val (E_call S k_is_row (Nat.le_of_ble_eq_true rfl) (D_cons (E_var S 0 rfl rfl rfl) (D_cons (E_globI S (mem_of 1 rfl) (B.gi_FEWEST_ROOMS)) (D_cons (E_globI S (mem_of 0 rfl) (B.gi_MOST_ROOMS)) D_nil (fun _ => rfl)) (fun _ => rfl)) (fun _ => rfl)) (fun Q R h => ⟨_, _, _, rfl, hv, h⟩) (mem_of 2 rfl) (fun _ => rfl) (fun _ => rfl)) (fun _ _ => rfl)) hr)) (fun _ => W_or1 (T_cmp (E_var S 1 rfl rfl rfl) E_non (.d _) (.d _) o_notN rfl)))) rfl (S_seq (S_raise S (B.mkE ("InvalidRooms", "index") (mem_of_p 2 rfl)) (Nat.le_of_ble_eq_true rfl) (E_var S 1 rfl rfl rfl) (mem_of 3 rfl) (fun _ => rfl) (fun _ => rfl) ⟨hQ, Nat.le_of_ble_eq_true rfl⟩)))
def sp_check_doors (A : Str → Addr) : SpD := fun ds Q R => ∃ (ns : List Str) (v : D), ds = [.tup (ns.map D.str), v] ∧ okB v = true ∧ Told A "InvalidDoors" "index" (vDoors ns v) Q R
theorem sc40 : FnScope ["rooms", "doors", "wrong"] ["rooms", "doors"] (defScope (top 40)) := ⟨rfl, rfl, rfl, by decide +kernel, rfl, by decide +kernel, by decide +kernel⟩
include B in
theorem kn_check_doors {f : Addr} {fd : FuncData} (F : FunD Z.K "check_doors" "check_doors" (defArgs (top 40)) (defBody (top 40)) (defScope (top 40)) [] [] f fd) (k_is_row : Kn Z 1 "is_row" (SpP Z sp_is_row)) (k_wrong_door : Kn Z 7 "wrong_door" (SpP Z sp_wrong_door)) : FnK Z.P Z.w Z.K Z.mg Z.base (L2.CX Z.P Z.w) 8 f fd ["rooms", "doors"] (SpP Z (sp_check_doors A)) := by
  refine kn_ofP F sc40 (fun ds Q R h => ?_) (by decide) (mkr := none) (fun _ z => nomatch z) fun E ds Q R h => ?_
  · obtain ⟨ns, v, rfl, _⟩ := h; rfl
  · obtain ⟨ns, v, rfl, hv, hQ⟩ := h
    have S : ScOk ⟨Z, ["rooms", "doors", "wrong"], defScope (top 40), fun _ => true, 7, E, fun _ _ => False, none⟩ [0, 1, 2] [2] ["MOST_DOORS", "is_row", "InvalidDoors", "wrong_door"] := scOk_of sc40.nd rfl (by kernel_rfl)
    cases hr : rowB v 0 10 with
    | false =>
      have e : vDoors ns v = some .non := by unfold vDoors vIx; rw [hr]; rfl
      rw [e] at hQ
      refine S_seq (S_asg (vs := [2]) (d := .non) (E_ifF (T_val (E_call S k_is_row (Nat.le_of_ble_eq_true rfl) (D_cons (E_var S 1 rfl rfl rfl) (D_cons E_int (D_cons (E_globI S (mem_of 0 rfl) (B.gi_MOST_DOORS)) D_nil (fun _ => rfl)) (fun _ => rfl)) (fun _ => rfl)) (fun Q R h => ⟨_, _, _, rfl, hv, h⟩) (mem_of 1 rfl) (fun _ => rfl) (fun _ => rfl)) (fun _ _ => rfl)) hr E_non) (G_name S 2 rfl rfl rfl) ?_ (fun _ _ => rfl) (fun _ _ => rfl) (fun _ => rfl))
      refine S_seq (S_ifT (T_w (W_or (v := true) (T_not (T_is (T_val (E_call S k_is_row (Nat.le_of_ble_eq_true rfl) (D_cons (E_var S 1 rfl rfl rfl) (D_cons E_int (D_cons (E_globI S (mem_of 0 rfl) (B.gi_MOST_DOORS)) D_nil (fun _ => rfl)) (fun _ => rfl)) (fun _ => rfl)) (fun Q R h => ⟨_, _, _, rfl, hv, h⟩) (mem_of 1 rfl) (fun _ => rfl) (fun _ => rfl)) (fun _ _ => rfl)) hr)) (fun z => nomatch z))) rfl (S_seq (S_raise S (B.mkE ("InvalidDoors", "index") (mem_of_p 3 rfl)) (Nat.le_of_ble_eq_true rfl) (E_var S 2 rfl rfl rfl) (mem_of 2 rfl) (fun _ => rfl) (fun _ => rfl) ⟨hQ, Nat.le_of_ble_eq_true rfl⟩)))
    | true =>
      obtain ⟨xs, rfl, hd⟩ := rowB_eq hv hr
      cases hw : fwN (pDoor ns xs) xs.length with
      | none =>
        have e : vDoors ns (.tup xs) = none := by unfold vDoors vIx; rw [hr]; show (fwN (pDoor ns xs) xs.length).map _ = _; rw [hw]; rfl
        rw [e] at hQ
        refine S_seq (S_asg (vs := [2]) (d := .non) (E_ifT (T_val (E_call S k_is_row (Nat.le_of_ble_eq_true rfl) (D_cons (E_var S 1 rfl rfl rfl) (D_cons E_int (D_cons (E_globI S (mem_of 0 rfl) (B.gi_MOST_DOORS)) D_nil (fun _ => rfl)) (fun _ => rfl)) (fun _ => rfl)) (fun Q R h => ⟨_, _, _, rfl, hv, h⟩) (mem_of 1 rfl) (fun _ => rfl) (fun _ => rfl)) (fun _ _ => rfl)) hr (E_is (E_call S k_wrong_door (Nat.le_of_ble_eq_true rfl) (D_cons (E_var S 0 rfl rfl rfl) (D_cons (E_var S 1 rfl rfl rfl) D_nil (fun _ => rfl)) (fun _ => rfl)) (fun Q R h => ⟨_, _, rfl, hd, h⟩) (mem_of 3 rfl) (fun _ => rfl) (fun _ => rfl)) (by rw [hw]; rfl))) (G_name S 2 rfl rfl rfl) ?_ (fun _ _ => rfl) (fun _ _ => rfl) (fun _ => rfl))
        exact S_seq (S_ifF (T_w (W_or (T_not (T_is (T_val (E_call S k_is_row (Nat.le_of_ble_eq_true rfl) (D_cons (E_var S 1 rfl rfl rfl) (D_cons E_int (D_cons (E_globI S (mem_of 0 rfl) (B.gi_MOST_DOORS)) D_nil (fun _ => rfl)) (fun _ => rfl)) (fun _ => rfl)) (fun Q R h => ⟨_, _, _, rfl, hv, h⟩) (mem_of 1 rfl) (fun _ => rfl) (fun _ => rfl)) (fun _ _ => rfl)) hr)) (fun _ => W_or1 (T_cmp (E_var S 2 rfl rfl rfl) E_non (.d _) (.d _) o_notN rfl)))) rfl (S_nil (S_nil ⟨hQ, Nat.le_of_ble_eq_true rfl⟩)))
      | some j =>
        have e : vDoors ns (.tup xs) = some (.int (j : Nat)) := by unfold vDoors vIx; rw [hr]; show (fwN (pDoor ns xs) xs.length).map _ = _; rw [hw]; rfl
        rw [e] at hQ
        refine S_seq (S_asg (vs := [2]) (d := .int (j : Nat)) (E_ifT (T_val (E_call S k_is_row (Nat.le_of_ble_eq_true rfl) (D_cons (E_var S 1 rfl rfl rfl) (D_cons E_int (D_cons (E_globI S (mem_of 0 rfl) (B.gi_MOST_DOORS)) D_nil (fun _ => rfl)) (fun _ => rfl)) (fun _ => rfl)) (fun Q R h => ⟨_, _, _, rfl, hv, h⟩) (mem_of 1 rfl) (fun _ => rfl) (fun _ => rfl)) (fun _ _ => rfl)) hr (E_is (E_call S k_wrong_door (Nat.le_of_ble_eq_true rfl) (D_cons (E_var S 0 rfl rfl rfl) (D_cons (E_var S 1 rfl rfl rfl) D_nil (fun _ => rfl)) (fun _ => rfl)) (fun Q R h => ⟨_, _, rfl, hd, h⟩) (mem_of 3 rfl) (fun _ => rfl) (fun _ => rfl)) (by rw [hw]; rfl))) (G_name S 2 rfl rfl rfl) ?_ (fun _ _ => rfl) (fun _ _ => rfl) (fun _ => rfl))
        exact S_seq (S_ifT (T_w (W_or (T_not (T_is (T_val (E_call S k_is_row (Nat.le_of_ble_eq_true rfl) (D_cons (E_var S 1 rfl rfl rfl) (D_cons E_int (D_cons (E_globI S (mem_of 0 rfl) (B.gi_MOST_DOORS)) D_nil (fun _ => rfl)) (fun _ => rfl)) (fun _ => rfl)) (fun Q R h => ⟨_, _, _, rfl, hv, h⟩) (mem_of 1 rfl) (fun _ => rfl) (fun _ => rfl)) (fun _ _ => rfl)) hr)) (fun _ => W_or1 (T_cmp (E_var S 2 rfl rfl rfl) E_non (.d _) (.d _) o_notN rfl)))) rfl (S_seq (S_raise S (B.mkE ("InvalidDoors", "index") (mem_of_p 3 rfl)) (Nat.le_of_ble_eq_true rfl) (E_var S 2 rfl rfl rfl) (mem_of 2 rfl) (fun _ => rfl) (fun _ => rfl) ⟨hQ, Nat.le_of_ble_eq_true rfl⟩)))
def sp_check_people (A : Str → Addr) : SpD := fun ds Q R => ∃ (ns : List Str) (v : D), ds = [.tup (ns.map D.str), v] ∧ okB v = true ∧ Told A "InvalidPeople" "index" (vPeople ns v) Q R
theorem sc41 : FnScope ["rooms", "people", "wrong"] ["rooms", "people"] (defScope (top 41)) := ⟨rfl, rfl, rfl, by decide +kernel, rfl, by decide +kernel, by decide +kernel⟩
include B in
theorem kn_check_people {f : Addr} {fd : FuncData} (F : FunD Z.K "check_people" "check_people" (defArgs (top 41)) (defBody (top 41)) (defScope (top 41)) [] [] f fd) (k_is_row : Kn Z 1 "is_row" (SpP Z sp_is_row)) (k_wrong_person : Kn Z 7 "wrong_person" (SpP Z sp_wrong_person)) : FnK Z.P Z.w Z.K Z.mg Z.base (L2.CX Z.P Z.w) 8 f fd ["rooms", "people"] (SpP Z (sp_check_people A)) := by
  refine kn_ofP F sc41 (fun ds Q R h => ?_) (by decide) (mkr := none) (fun _ z => nomatch z) fun E ds Q R h => ?_
  · obtain ⟨ns, v, rfl, _⟩ := h; rfl
  · obtain ⟨ns, v, rfl, hv, hQ⟩ := h
    have S : ScOk ⟨Z, ["rooms", "people", "wrong"], defScope (top 41), fun _ => true, 7, E, fun _ _ => False, none⟩ [0, 1, 2] [2] ["MOST_PEOPLE", "is_row", "InvalidPeople", "wrong_person"] := scOk_of sc41.nd rfl (by kernel_rfl)
    cases hr : rowB v 1 3 with
    | false =>
      have e : vPeople ns v = some .non := by unfold vPeople vIx; rw [hr]; rfl
      rw [e] at hQ
      refine S_seq (S_asg (vs := [2]) (d := .non) (E_ifF (T_val (E_call S k_is_row (Nat.le_of_ble_eq_true rfl) (D_cons (E_var S 1 rfl rfl rfl) (D_cons E_int (D_cons (E_globI S (mem_of 0 rfl) (B.gi_MOST_PEOPLE)) D_nil (fun _ => rfl)) (fun _ => rfl)) (fun _ => rfl)) (fun Q R h => ⟨_, _, _, rfl, hv, h⟩) (mem_of 1 rfl) (fun _ => rfl) (fun _ => rfl)) (fun _ _ => rfl)) hr E_non) (G_name S 2 rfl rfl rfl) ?_ (fun _ _ => rfl) (fun _ _ => rfl) (fun _ => rfl))
      refine S_seq (S_ifT (T_w (W_or (v := true) (T_not (T_is (T_val (E_call S k_is_row (Nat.le_of_ble_eq_true rfl) (D_cons (E_var S 1 rfl rfl rfl) (D_cons E_int (D_cons (E_globI S (mem_of 0 rfl) (B.gi_MOST_PEOPLE)) D_nil (fun _ => rfl)) (fun _ => rfl)) (fun _ => rfl)) (fun Q R h => ⟨_, _, _, rfl, hv, h⟩) (mem_of 1 rfl) (fun _ => rfl) (fun _ => rfl)) (fun _ _ => rfl)) hr)) (fun z => nomatch z))) rfl (S_seq (S_raise S (B.mkE ("InvalidPeople", "index") (mem_of_p 4 rfl)) (Nat.le_of_ble_eq_true rfl) (E_var S 2 rfl rfl rfl) (mem_of 2 rfl) (fun _ => rfl) (fun _ => rfl) ⟨hQ, Nat.le_of_ble_eq_true rfl⟩)))
    | true =>
      obtain ⟨xs, rfl, hd⟩ := rowB_eq hv hr
      cases hw : fwN (pPers ns xs) xs.length with
      | none =>
        have e : vPeople ns (.tup xs) = none := by unfold vPeople vIx; rw [hr]; show (fwN (pPers ns xs) xs.length).map _ = _; rw [hw]; rfl
        rw [e] at hQ
        refine S_seq (S_asg (vs := [2]) (d := .non) (E_ifT (T_val (E_call S k_is_row (Nat.le_of_ble_eq_true rfl) (D_cons (E_var S 1 rfl rfl rfl) (D_cons E_int (D_cons (E_globI S (mem_of 0 rfl) (B.gi_MOST_PEOPLE)) D_nil (fun _ => rfl)) (fun _ => rfl)) (fun _ => rfl)) (fun Q R h => ⟨_, _, _, rfl, hv, h⟩) (mem_of 1 rfl) (fun _ => rfl) (fun _ => rfl)) (fun _ _ => rfl)) hr (E_is (E_call S k_wrong_person (Nat.le_of_ble_eq_true rfl) (D_cons (E_var S 0 rfl rfl rfl) (D_cons (E_var S 1 rfl rfl rfl) D_nil (fun _ => rfl)) (fun _ => rfl)) (fun Q R h => ⟨_, _, rfl, hd, h⟩) (mem_of 3 rfl) (fun _ => rfl) (fun _ => rfl)) (by rw [hw]; rfl))) (G_name S 2 rfl rfl rfl) ?_ (fun _ _ => rfl) (fun _ _ => rfl) (fun _ => rfl))
        exact S_seq (S_ifF (T_w (W_or (T_not (T_is (T_val (E_call S k_is_row (Nat.le_of_ble_eq_true rfl) (D_cons (E_var S 1 rfl rfl rfl) (D_cons E_int (D_cons (E_globI S (mem_of 0 rfl) (B.gi_MOST_PEOPLE)) D_nil (fun _ => rfl)) (fun _ => rfl)) (fun _ => rfl)) (fun Q R h => ⟨_, _, _, rfl, hv, h⟩) (mem_of 1 rfl) (fun _ => rfl) (fun _ => rfl)) (fun _ _ => rfl)) hr)) (fun _ => W_or1 (T_cmp (E_var S 2 rfl rfl rfl) E_non (.d _) (.d _) o_notN rfl)))) rfl (S_nil (S_nil ⟨hQ, Nat.le_of_ble_eq_true rfl⟩)))
      | some j =>
        have e : vPeople ns (.tup xs) = some (.int (j : Nat)) := by unfold vPeople vIx; rw [hr]; show (fwN (pPers ns xs) xs.length).map _ = _; rw [hw]; rfl
        rw [e] at hQ
        refine S_seq (S_asg (vs := [2]) (d := .int (j : Nat)) (E_ifT (T_val (E_call S k_is_row (Nat.le_of_ble_eq_true rfl) (D_cons (E_var S 1 rfl rfl rfl) (D_cons E_int (D_cons (E_globI S (mem_of 0 rfl) (B.gi_MOST_PEOPLE)) D_nil (fun _ => rfl)) (fun _ => rfl)) (fun _ => rfl)) (fun Q R h => ⟨_, _, _, rfl, hv, h⟩) (mem_of 1 rfl) (fun _ => rfl) (fun _ => rfl)) (fun _ _ => rfl)) hr (E_is (E_call S k_wrong_person (Nat.le_of_ble_eq_true rfl) (D_cons (E_var S 0 rfl rfl rfl) (D_cons (E_var S 1 rfl rfl rfl) D_nil (fun _ => rfl)) (fun _ => rfl)) (fun Q R h => ⟨_, _, rfl, hd, h⟩) (mem_of 3 rfl) (fun _ => rfl) (fun _ => rfl)) (by rw [hw]; rfl))) (G_name S 2 rfl rfl rfl) ?_ (fun _ _ => rfl) (fun _ _ => rfl) (fun _ => rfl))
        exact S_seq (S_ifT (T_w (W_or (T_not (T_is (T_val (E_call S k_is_row (Nat.le_of_ble_eq_true rfl) (D_cons (E_var S 1 rfl rfl rfl) (D_cons E_int (D_cons (E_globI S (mem_of 0 rfl) (B.gi_MOST_PEOPLE)) D_nil (fun _ => rfl)) (fun _ => rfl)) (fun _ => rfl)) (fun Q R h => ⟨_, _, _, rfl, hv, h⟩) (mem_of 1 rfl) (fun _ => rfl) (fun _ => rfl)) (fun _ _ => rfl)) hr)) (fun _ => W_or1 (T_cmp (E_var S 2 rfl rfl rfl) E_non (.d _) (.d _) o_notN rfl)))) rfl (S_seq (S_raise S (B.mkE ("InvalidPeople", "index") (mem_of_p 4 rfl)) (Nat.le_of_ble_eq_true rfl) (E_var S 2 rfl rfl rfl) (mem_of 2 rfl) (fun _ => rfl) (fun _ => rfl) ⟨hQ, Nat.le_of_ble_eq_true rfl⟩)))
def sp_check_last (A : Str → Addr) : SpD := fun ds Q R => ∃ (v : D), ds = [v] ∧ okB v = true ∧ Told A "InvalidNumber" "given" (vLast v) Q R
theorem sc42 : FnScope ["last"] ["last"] (defScope (top 42)) := ⟨rfl, rfl, rfl, by decide +kernel, rfl, by decide +kernel, by decide +kernel⟩
include B in
theorem kn_check_last {f : Addr} {fd : FuncData} (F : FunD Z.K "check_last" "check_last" (defArgs (top 42)) (defBody (top 42)) (defScope (top 42)) [] [] f fd) (k_is_between : Kn Z 2 "is_between" (SpP Z sp_is_between)) : FnK Z.P Z.w Z.K Z.mg Z.base (L2.CX Z.P Z.w) 8 f fd ["last"] (SpP Z (sp_check_last A)) := by
  refine kn_ofP F sc42 (fun ds Q R h => ?_) (by decide) (mkr := none) (fun _ z => nomatch z) fun E ds Q R h => ?_
  · obtain ⟨v, rfl, _⟩ := h; rfl
  · obtain ⟨v, rfl, hv, hQ⟩ := h
    have S : ScOk ⟨Z, ["last"], defScope (top 42), fun _ => true, 7, E, fun _ _ => False, none⟩ [0] [] ["MOST_LAST", "is_between", "InvalidNumber"] := scOk_of sc42.nd rfl (by kernel_rfl)
    cases hr : betB v 1 8 with
    | false =>
      have e : vLast v = some v := by unfold vLast; rw [hr]; rfl
      rw [e] at hQ
      exact S_seq (S_ifT (T_not (T_is (T_val (E_call S k_is_between (Nat.le_of_ble_eq_true rfl) (D_cons (E_var S 0 rfl rfl rfl) (D_cons E_int (D_cons (E_globI S (mem_of 0 rfl) (B.gi_MOST_LAST)) D_nil (fun _ => rfl)) (fun _ => rfl)) (fun _ => rfl)) (fun Q R h => ⟨_, _, _, rfl, hv, h⟩) (mem_of 1 rfl) (fun _ => rfl) (fun _ => rfl)) (fun _ _ => rfl)) hr)) rfl (S_seq (S_raise S (B.mkE ("InvalidNumber", "given") (mem_of_p 0 rfl)) (Nat.le_of_ble_eq_true rfl) (E_var S 0 rfl rfl rfl) (mem_of 2 rfl) (fun _ => rfl) (fun _ => rfl) ⟨hQ, Nat.le_of_ble_eq_true rfl⟩)))
    | true =>
      have e : vLast v = none := by unfold vLast; rw [hr]; rfl
      rw [e] at hQ
      exact S_seq (S_ifF (T_not (T_is (T_val (E_call S k_is_between (Nat.le_of_ble_eq_true rfl) (D_cons (E_var S 0 rfl rfl rfl) (D_cons E_int (D_cons (E_globI S (mem_of 0 rfl) (B.gi_MOST_LAST)) D_nil (fun _ => rfl)) (fun _ => rfl)) (fun _ => rfl)) (fun Q R h => ⟨_, _, _, rfl, hv, h⟩) (mem_of 1 rfl) (fun _ => rfl) (fun _ => rfl)) (fun _ _ => rfl)) hr)) rfl (S_nil (S_nil ⟨hQ, Nat.le_of_ble_eq_true rfl⟩)))
def sp_check_end (A : Str → Addr) : SpD := fun ds Q R => ∃ (ns : List Str) (v : D), ds = [.tup (ns.map D.str), v] ∧ okB v = true ∧ Told A "UnknownRoom" "given" (vEnd ns v) Q R
theorem sc43 : FnScope ["rooms", "room"] ["rooms", "room"] (defScope (top 43)) := ⟨rfl, rfl, rfl, by decide +kernel, rfl, by decide +kernel, by decide +kernel⟩
include B in
theorem kn_check_end {f : Addr} {fd : FuncData} (F : FunD Z.K "check_end" "check_end" (defArgs (top 43)) (defBody (top 43)) (defScope (top 43)) [] [] f fd) (k_is_one_of : Kn Z 2 "is_one_of" (SpP Z sp_is_one_of)) : FnK Z.P Z.w Z.K Z.mg Z.base (L2.CX Z.P Z.w) 8 f fd ["rooms", "room"] (SpP Z (sp_check_end A)) := by
  refine kn_ofP F sc43 (fun ds Q R h => ?_) (by decide) (mkr := none) (fun _ z => nomatch z) fun E ds Q R h => ?_
  · obtain ⟨ns, v, rfl, _⟩ := h; rfl
  · obtain ⟨ns, v, rfl, hv, hQ⟩ := h
    have S : ScOk ⟨Z, ["rooms", "room"], defScope (top 43), fun _ => true, 7, E, fun _ _ => False, none⟩ [0, 1] [] ["is_one_of", "UnknownRoom"] := scOk_of sc43.nd rfl (by kernel_rfl)
    cases hr : oneB ns v with
    | false =>
      have e : vEnd ns v = some v := by unfold vEnd; rw [hr]; rfl
      rw [e] at hQ
      exact S_seq (S_ifT (T_not (T_is (T_val (E_call S k_is_one_of (Nat.le_of_ble_eq_true rfl) (D_cons (E_var S 0 rfl rfl rfl) (D_cons (E_var S 1 rfl rfl rfl) D_nil (fun _ => rfl)) (fun _ => rfl)) (fun Q R h => ⟨_, _, rfl, hv, h⟩) (mem_of 0 rfl) (fun _ => rfl) (fun _ => rfl)) (fun _ _ => rfl)) hr)) rfl (S_seq (S_raise S (B.mkE ("UnknownRoom", "given") (mem_of_p 1 rfl)) (Nat.le_of_ble_eq_true rfl) (E_var S 1 rfl rfl rfl) (mem_of 1 rfl) (fun _ => rfl) (fun _ => rfl) ⟨hQ, Nat.le_of_ble_eq_true rfl⟩)))
    | true =>
      have e : vEnd ns v = none := by unfold vEnd; rw [hr]; rfl
      rw [e] at hQ
      exact S_seq (S_ifF (T_not (T_is (T_val (E_call S k_is_one_of (Nat.le_of_ble_eq_true rfl) (D_cons (E_var S 0 rfl rfl rfl) (D_cons (E_var S 1 rfl rfl rfl) D_nil (fun _ => rfl)) (fun _ => rfl)) (fun Q R h => ⟨_, _, rfl, hv, h⟩) (mem_of 0 rfl) (fun _ => rfl) (fun _ => rfl)) (fun _ _ => rfl)) hr)) rfl (S_nil (S_nil ⟨hQ, Nat.le_of_ble_eq_true rfl⟩)))
def sp_check_sightings (A : Str → Addr) : SpD := fun ds Q R => ∃ (rs ps : List Str) (last : Int) (v : D), ds = [.tup (rs.map D.str), .tup (ps.map D.str), .int last, v] ∧ okB v = true ∧ Told A "InvalidSightings" "index" (vSig rs ps last v) Q R
theorem sc44 : FnScope ["rooms", "people", "last", "sightings", "is_right", "wrong"] ["rooms", "people", "last", "sightings"] (defScope (top 44)) := ⟨rfl, rfl, rfl, by decide +kernel, rfl, by decide +kernel, by decide +kernel⟩
include B in
theorem kn_check_sightings {f : Addr} {fd : FuncData} (F : FunD Z.K "check_sightings" "check_sightings" (defArgs (top 44)) (defBody (top 44)) (defScope (top 44)) [] [] f fd) (k_is_row : Kn Z 1 "is_row" (SpP Z sp_is_row)) (k_wrong_sighting : Kn Z 7 "wrong_sighting" (SpP Z sp_wrong_sighting)) : FnK Z.P Z.w Z.K Z.mg Z.base (L2.CX Z.P Z.w) 8 f fd ["rooms", "people", "last", "sightings"] (SpP Z (sp_check_sightings A)) := by
  refine kn_ofP F sc44 (fun ds Q R h => ?_) (by decide) (mkr := none) (fun _ z => nomatch z) fun E ds Q R h => ?_
  · obtain ⟨rs, ps, last, v, rfl, _⟩ := h; rfl
  · obtain ⟨rs, ps, last, v, rfl, hv, hQ⟩ := h
    have S : ScOk ⟨Z, ["rooms", "people", "last", "sightings", "is_right", "wrong"], defScope (top 44), fun _ => true, 7, E, fun _ _ => False, none⟩ [0, 1, 2, 3, 4, 5] [4, 5] ["MOST_SIGHTINGS", "is_row", "InvalidSightings", "wrong_sighting"] := scOk_of sc44.nd rfl (by kernel_rfl)
    cases hr : rowB v 0 16 with
    | false =>
      have e : vSig rs ps last v = some .non := by unfold vSig vIx; rw [hr]; rfl
      rw [e] at hQ
      refine S_seq (S_asg (vs := [4]) (E_call S k_is_row (Nat.le_of_ble_eq_true rfl) (D_cons (E_var S 3 rfl rfl rfl) (D_cons E_int (D_cons (E_globI S (mem_of 0 rfl) (B.gi_MOST_SIGHTINGS)) D_nil (fun _ => rfl)) (fun _ => rfl)) (fun _ => rfl)) (fun Q R h => ⟨_, _, _, rfl, hv, h⟩) (mem_of 1 rfl) (fun _ => rfl) (fun _ => rfl)) (G_name S 4 rfl rfl rfl) ?_ (fun _ _ => rfl) (fun _ _ => rfl) (fun _ => rfl))
      refine S_seq (S_asg (vs := [5]) (d := .non) (E_ifF (T_val (E_var S 4 rfl rfl rfl) (fun _ _ => rfl)) hr E_non) (G_name S 5 rfl rfl rfl) ?_ (fun _ _ => rfl) (fun _ _ => rfl) (fun _ => rfl))
      refine S_seq (S_ifT (T_w (W_or (v := true) (T_not (T_is (T_val (E_var S 4 rfl rfl rfl) (fun _ _ => rfl)) hr)) (fun z => nomatch z))) rfl (S_seq (S_raise S (B.mkE ("InvalidSightings", "index") (mem_of_p 5 rfl)) (Nat.le_of_ble_eq_true rfl) (E_var S 5 rfl rfl rfl) (mem_of 2 rfl) (fun _ => rfl) (fun _ => rfl) ⟨hQ, Nat.le_of_ble_eq_true rfl⟩)))
    | true =>
      obtain ⟨xs, rfl, hd⟩ := rowB_eq hv hr
      refine S_seq (S_asg (vs := [4]) (E_call S k_is_row (Nat.le_of_ble_eq_true rfl) (D_cons (E_var S 3 rfl rfl rfl) (D_cons E_int (D_cons (E_globI S (mem_of 0 rfl) (B.gi_MOST_SIGHTINGS)) D_nil (fun _ => rfl)) (fun _ => rfl)) (fun _ => rfl)) (fun Q R h => ⟨_, _, _, rfl, hv, h⟩) (mem_of 1 rfl) (fun _ => rfl) (fun _ => rfl)) (G_name S 4 rfl rfl rfl) ?_ (fun _ _ => rfl) (fun _ _ => rfl) (fun _ => rfl))
      cases hw : fwN (pSig rs ps last xs) xs.length with
      | none =>
        have e : vSig rs ps last (.tup xs) = none := by unfold vSig vIx; rw [hr]; show (fwN (pSig rs ps last xs) xs.length).map _ = _; rw [hw]; rfl
        rw [e] at hQ
        refine S_seq (S_asg (vs := [5]) (d := .non) (E_ifT (T_val (E_var S 4 rfl rfl rfl) (fun _ _ => rfl)) hr (E_is (E_call S k_wrong_sighting (Nat.le_of_ble_eq_true rfl) (D_cons (E_var S 0 rfl rfl rfl) (D_cons (E_var S 1 rfl rfl rfl) (D_cons (E_var S 2 rfl rfl rfl) (D_cons (E_var S 3 rfl rfl rfl) D_nil (fun _ => rfl)) (fun _ => rfl)) (fun _ => rfl)) (fun _ => rfl)) (fun Q R h => ⟨_, _, _, _, rfl, hd, h⟩) (mem_of 3 rfl) (fun _ => rfl) (fun _ => rfl)) (by rw [hw]; rfl))) (G_name S 5 rfl rfl rfl) ?_ (fun _ _ => rfl) (fun _ _ => rfl) (fun _ => rfl))
        exact S_seq (S_ifF (T_w (W_or (T_not (T_is (T_val (E_var S 4 rfl rfl rfl) (fun _ _ => rfl)) hr)) (fun _ => W_or1 (T_cmp (E_var S 5 rfl rfl rfl) E_non (.d _) (.d _) o_notN rfl)))) rfl (S_nil (S_nil ⟨hQ, Nat.le_of_ble_eq_true rfl⟩)))
      | some j =>
        have e : vSig rs ps last (.tup xs) = some (.int (j : Nat)) := by unfold vSig vIx; rw [hr]; show (fwN (pSig rs ps last xs) xs.length).map _ = _; rw [hw]; rfl
        rw [e] at hQ
        refine S_seq (S_asg (vs := [5]) (d := .int (j : Nat)) (E_ifT (T_val (E_var S 4 rfl rfl rfl) (fun _ _ => rfl)) hr (E_is (E_call S k_wrong_sighting (Nat.le_of_ble_eq_true rfl) (D_cons (E_var S 0 rfl rfl rfl) (D_cons (E_var S 1 rfl rfl rfl) (D_cons (E_var S 2 rfl rfl rfl) (D_cons (E_var S 3 rfl rfl rfl) D_nil (fun _ => rfl)) (fun _ => rfl)) (fun _ => rfl)) (fun _ => rfl)) (fun Q R h => ⟨_, _, _, _, rfl, hd, h⟩) (mem_of 3 rfl) (fun _ => rfl) (fun _ => rfl)) (by rw [hw]; rfl))) (G_name S 5 rfl rfl rfl) ?_ (fun _ _ => rfl) (fun _ _ => rfl) (fun _ => rfl))
        exact S_seq (S_ifT (T_w (W_or (T_not (T_is (T_val (E_var S 4 rfl rfl rfl) (fun _ _ => rfl)) hr)) (fun _ => W_or1 (T_cmp (E_var S 5 rfl rfl rfl) E_non (.d _) (.d _) o_notN rfl)))) rfl (S_seq (S_raise S (B.mkE ("InvalidSightings", "index") (mem_of_p 5 rfl)) (Nat.le_of_ble_eq_true rfl) (E_var S 5 rfl rfl rfl) (mem_of 2 rfl) (fun _ => rfl) (fun _ => rfl) ⟨hQ, Nat.le_of_ble_eq_true rfl⟩)))
def sp_check_notices (A : Str → Addr) : SpD := fun ds Q R => ∃ (rs : List Str) (last : Int) (v : D), ds = [.tup (rs.map D.str), .int last, v] ∧ okB v = true ∧ Told A "InvalidNotices" "index" (vNot rs last v) Q R
theorem sc45 : FnScope ["rooms", "last", "notices", "wrong"] ["rooms", "last", "notices"] (defScope (top 45)) := ⟨rfl, rfl, rfl, by decide +kernel, rfl, by decide +kernel, by decide +kernel⟩
include B in
theorem kn_check_notices {f : Addr} {fd : FuncData} (F : FunD Z.K "check_notices" "check_notices" (defArgs (top 45)) (defBody (top 45)) (defScope (top 45)) [] [] f fd) (k_is_row : Kn Z 1 "is_row" (SpP Z sp_is_row)) (k_wrong_notice : Kn Z 7 "wrong_notice" (SpP Z sp_wrong_notice)) : FnK Z.P Z.w Z.K Z.mg Z.base (L2.CX Z.P Z.w) 8 f fd ["rooms", "last", "notices"] (SpP Z (sp_check_notices A)) := by
  refine kn_ofP F sc45 (fun ds Q R h => ?_) (by decide) (mkr := none) (fun _ z => nomatch z) fun E ds Q R h => ?_
  · obtain ⟨rs, last, v, rfl, _⟩ := h; rfl
  · obtain ⟨rs, last, v, rfl, hv, hQ⟩ := h
    have S : ScOk ⟨Z, ["rooms", "last", "notices", "wrong"], defScope (top 45), fun _ => true, 7, E, fun _ _ => False, none⟩ [0, 1, 2, 3] [3] ["MOST_NOTICES", "is_row", "InvalidNotices", "wrong_notice"] := scOk_of sc45.nd rfl (by kernel_rfl)
    cases hr : rowB v 0 6 with
    | false =>
      have e : vNot rs last v = some .non := by unfold vNot vIx; rw [hr]; rfl
      rw [e] at hQ
      refine S_seq (S_asg (vs := [3]) (d := .non) (E_ifF (T_val (E_call S k_is_row (Nat.le_of_ble_eq_true rfl) (D_cons (E_var S 2 rfl rfl rfl) (D_cons E_int (D_cons (E_globI S (mem_of 0 rfl) (B.gi_MOST_NOTICES)) D_nil (fun _ => rfl)) (fun _ => rfl)) (fun _ => rfl)) (fun Q R h => ⟨_, _, _, rfl, hv, h⟩) (mem_of 1 rfl) (fun _ => rfl) (fun _ => rfl)) (fun _ _ => rfl)) hr E_non) (G_name S 3 rfl rfl rfl) ?_ (fun _ _ => rfl) (fun _ _ => rfl) (fun _ => rfl))
      refine S_seq (S_ifT (T_w (W_or (v := true) (T_not (T_is (T_val (E_call S k_is_row (Nat.le_of_ble_eq_true rfl) (D_cons (E_var S 2 rfl rfl rfl) (D_cons E_int (D_cons (E_globI S (mem_of 0 rfl) (B.gi_MOST_NOTICES)) D_nil (fun _ => rfl)) (fun _ => rfl)) (fun _ => rfl)) (fun Q R h => ⟨_, _, _, rfl, hv, h⟩) (mem_of 1 rfl) (fun _ => rfl) (fun _ => rfl)) (fun _ _ => rfl)) hr)) (fun z => nomatch z))) rfl (S_seq (S_raise S (B.mkE ("InvalidNotices", "index") (mem_of_p 6 rfl)) (Nat.le_of_ble_eq_true rfl) (E_var S 3 rfl rfl rfl) (mem_of 2 rfl) (fun _ => rfl) (fun _ => rfl) ⟨hQ, Nat.le_of_ble_eq_true rfl⟩)))
    | true =>
      obtain ⟨xs, rfl, hd⟩ := rowB_eq hv hr
      cases hw : fwN (pNot rs last xs) xs.length with
      | none =>
        have e : vNot rs last (.tup xs) = none := by unfold vNot vIx; rw [hr]; show (fwN (pNot rs last xs) xs.length).map _ = _; rw [hw]; rfl
        rw [e] at hQ
        refine S_seq (S_asg (vs := [3]) (d := .non) (E_ifT (T_val (E_call S k_is_row (Nat.le_of_ble_eq_true rfl) (D_cons (E_var S 2 rfl rfl rfl) (D_cons E_int (D_cons (E_globI S (mem_of 0 rfl) (B.gi_MOST_NOTICES)) D_nil (fun _ => rfl)) (fun _ => rfl)) (fun _ => rfl)) (fun Q R h => ⟨_, _, _, rfl, hv, h⟩) (mem_of 1 rfl) (fun _ => rfl) (fun _ => rfl)) (fun _ _ => rfl)) hr (E_is (E_call S k_wrong_notice (Nat.le_of_ble_eq_true rfl) (D_cons (E_var S 0 rfl rfl rfl) (D_cons (E_var S 1 rfl rfl rfl) (D_cons (E_var S 2 rfl rfl rfl) D_nil (fun _ => rfl)) (fun _ => rfl)) (fun _ => rfl)) (fun Q R h => ⟨_, _, _, rfl, hd, h⟩) (mem_of 3 rfl) (fun _ => rfl) (fun _ => rfl)) (by rw [hw]; rfl))) (G_name S 3 rfl rfl rfl) ?_ (fun _ _ => rfl) (fun _ _ => rfl) (fun _ => rfl))
        exact S_seq (S_ifF (T_w (W_or (T_not (T_is (T_val (E_call S k_is_row (Nat.le_of_ble_eq_true rfl) (D_cons (E_var S 2 rfl rfl rfl) (D_cons E_int (D_cons (E_globI S (mem_of 0 rfl) (B.gi_MOST_NOTICES)) D_nil (fun _ => rfl)) (fun _ => rfl)) (fun _ => rfl)) (fun Q R h => ⟨_, _, _, rfl, hv, h⟩) (mem_of 1 rfl) (fun _ => rfl) (fun _ => rfl)) (fun _ _ => rfl)) hr)) (fun _ => W_or1 (T_cmp (E_var S 3 rfl rfl rfl) E_non (.d _) (.d _) o_notN rfl)))) rfl (S_nil (S_nil ⟨hQ, Nat.le_of_ble_eq_true rfl⟩)))
      | some j =>
        have e : vNot rs last (.tup xs) = some (.int (j : Nat)) := by unfold vNot vIx; rw [hr]; show (fwN (pNot rs last xs) xs.length).map _ = _; rw [hw]; rfl
        rw [e] at hQ
        refine S_seq (S_asg (vs := [3]) (d := .int (j : Nat)) (E_ifT (T_val (E_call S k_is_row (Nat.le_of_ble_eq_true rfl) (D_cons (E_var S 2 rfl rfl rfl) (D_cons E_int (D_cons (E_globI S (mem_of 0 rfl) (B.gi_MOST_NOTICES)) D_nil (fun _ => rfl)) (fun _ => rfl)) (fun _ => rfl)) (fun Q R h => ⟨_, _, _, rfl, hv, h⟩) (mem_of 1 rfl) (fun _ => rfl) (fun _ => rfl)) (fun _ _ => rfl)) hr (E_is (E_call S k_wrong_notice (Nat.le_of_ble_eq_true rfl) (D_cons (E_var S 0 rfl rfl rfl) (D_cons (E_var S 1 rfl rfl rfl) (D_cons (E_var S 2 rfl rfl rfl) D_nil (fun _ => rfl)) (fun _ => rfl)) (fun _ => rfl)) (fun Q R h => ⟨_, _, _, rfl, hd, h⟩) (mem_of 3 rfl) (fun _ => rfl) (fun _ => rfl)) (by rw [hw]; rfl))) (G_name S 3 rfl rfl rfl) ?_ (fun _ _ => rfl) (fun _ _ => rfl) (fun _ => rfl))
        exact S_seq (S_ifT (T_w (W_or (T_not (T_is (T_val (E_call S k_is_row (Nat.le_of_ble_eq_true rfl) (D_cons (E_var S 2 rfl rfl rfl) (D_cons E_int (D_cons (E_globI S (mem_of 0 rfl) (B.gi_MOST_NOTICES)) D_nil (fun _ => rfl)) (fun _ => rfl)) (fun _ => rfl)) (fun Q R h => ⟨_, _, _, rfl, hv, h⟩) (mem_of 1 rfl) (fun _ => rfl) (fun _ => rfl)) (fun _ _ => rfl)) hr)) (fun _ => W_or1 (T_cmp (E_var S 3 rfl rfl rfl) E_non (.d _) (.d _) o_notN rfl)))) rfl (S_seq (S_raise S (B.mkE ("InvalidNotices", "index") (mem_of_p 6 rfl)) (Nat.le_of_ble_eq_true rfl) (E_var S 3 rfl rfl rfl) (mem_of 2 rfl) (fun _ => rfl) (fun _ => rfl) ⟨hQ, Nat.le_of_ble_eq_true rfl⟩)))
end
end K03

set_option Elab.async false
set_option maxRecDepth 100000
set_option maxHeartbeats 4000000
namespace K03
open PySem PySem.Spec PyProof.Rows L2 Fw
def strOf : D → Option Str
  | .str x => some x
  | _ => none
def strsOf (v : D) : List Str := (itemsOf v).filterMap strOf
def intOf : D → Int
  | .int i => i
  | _ => 0
theorem strs_all : ∀ {xs : List D}, (∀ (i : Nat) (x : D), xs[i]? = some x → ∃ y, x = .str y) → xs = (xs.filterMap strOf).map D.str
  | [], _ => rfl
  | x :: xs, h => by
    obtain ⟨y, rfl⟩ := h 0 x rfl
    show _ = D.str y :: (xs.filterMap strOf).map D.str
    rw [← strs_all fun i x e => h (i + 1) x (by simpa using e)]
theorem vIx_none {b : Bool} {p : Nat → Bool} {n : Nat} (h : vIx b (fwN p n) = none) : b = true ∧ ∀ i, i < n → p i = true := by
  unfold vIx at h
  cases b with
  | false => cases h
  | true =>
    refine ⟨rfl, fun i hi => ?_⟩
    cases e : fwN p n with
    | some j => rw [e] at h; cases h
    | none =>
      unfold fwN at e
      rw [List.find?_range_eq_none] at e
      have := e i hi
      simpa using this
theorem rooms_eq {v : D} (o : okB v = true) (h : vRooms v = none) : v = .tup ((strsOf v).map D.str) := by
  obtain ⟨h1, h2⟩ := vIx_none h
  obtain ⟨ds, rfl, hd⟩ := rowB_eq o h1
  refine congrArg D.tup (strs_all fun i x e => ?_)
  have hi : i < ds.length := (List.getElem?_eq_some_iff.mp e).1
  have := (and2 (h2 i hi)).1
  have this : nameB (ds.getD i .non) = true := this
  rw [getD_of e] at this
  exact nameB_eq this
theorem people_eq {ns : List Str} {v : D} (o : okB v = true) (h : vPeople ns v = none) : v = .tup ((strsOf v).map D.str) := by
  obtain ⟨h1, h2⟩ := vIx_none h
  obtain ⟨ds, rfl, hd⟩ := rowB_eq o h1
  refine congrArg D.tup (strs_all fun i x e => ?_)
  have hi : i < ds.length := (List.getElem?_eq_some_iff.mp e).1
  have := (and2 (h2 i hi)).1
  have this : nameB (ds.getD i .non) = true := this
  rw [getD_of e] at this
  exact nameB_eq this
theorem last_eq {v : D} (h : vLast v = none) : v = .int (intOf v) := by
  unfold vLast at h
  cases e : betB v 1 8 with
  | false => rw [e] at h; cases h
  | true =>
    obtain ⟨i, rfl⟩ := wholeB_eq (and2 e).1
    rfl
/-- what Case makes of its parts: none where it is made, the class and what it keeps -/
def verdict (A : Str → Addr) (r d p l b e s n : D) : Option (Addr × List (Str × D)) :=
  match vRooms r with
  | some x => some (A "InvalidRooms", [("index", x)])
  | none => match vDoors (strsOf r) d with
    | some x => some (A "InvalidDoors", [("index", x)])
    | none => match vPeople (strsOf r) p with
      | some x => some (A "InvalidPeople", [("index", x)])
      | none => match vLast l with
        | some x => some (A "InvalidNumber", [("given", x)])
        | none => match vEnd (strsOf r) b with
          | some x => some (A "UnknownRoom", [("given", x)])
          | none => match vEnd (strsOf r) e with
            | some x => some (A "UnknownRoom", [("given", x)])
            | none => match vSig (strsOf r) (strsOf p) (intOf l) s with
              | some x => some (A "InvalidSightings", [("index", x)])
              | none => match vNot (strsOf r) (intOf l) n with
                | some x => some (A "InvalidNotices", [("index", x)])
                | none => none
theorem told_none {A : Str → Addr} {x f : Str} {w : Option D} {Q : Res → Prop} {R : Value → List (Str × D) → Prop} (h : w = none) (q : Q (.d .non)) : Told A x f w Q R := by rw [h]; exact q
theorem told_some {A : Str → Addr} {x f : Str} {w : Option D} {d : D} {Q : Res → Prop} {R : Value → List (Str × D) → Prop} (h : w = some d) (q : R (.ref (A x)) [(f, d)]) : Told A x f w Q R := by rw [h]; exact q
def fNames : List Str := ["rooms", "doors", "people", "last", "begin", "end", "sightings", "notices"]
def caseT (C : Addr) (r d p l b e s n : D) : Tr := .o C fNames [("rooms", .d r), ("doors", .d d), ("people", .d p), ("last", .d l), ("begin", .d b), ("end", .d e), ("sightings", .d s), ("notices", .d n)]
def sp_init (A : Str → Addr) : List Ent → (Res → List Ent → Prop) → (Value → List (Str × D) → List Ent → Prop) → Prop := fun es Q R => ∃ (a : Addr) (r d p l b e s n : D), es = .ot (some a) (.o (A "Case") fNames []) :: [r, d, p, l, b, e, s, n].map Ent.d ∧ okBs [r, d, p, l, b, e, s, n] = true ∧
  (match verdict A r d p l b e s n with
    | none => Q (.d .non) (.ot (some a) (caseT (A "Case") r d p l b e s n) :: [r, d, p, l, b, e, s, n].map Ent.d)
    | some (C, fs) => ∀ t, R (.ref C) fs (.ot (some a) t :: [r, d, p, l, b, e, s, n].map Ent.d))
section
variable {Z : Zd} {A : Str → Addr} {fC : Addr} (B : B03 Z A fC)
theorem sc46_0 : FnScope ["self", "rooms", "doors", "people", "last", "begin", "end", "sightings", "notices"] ["self", "rooms", "doors", "people", "last", "begin", "end", "sightings", "notices"] (defScope (mth 46 0)) := ⟨rfl, rfl, rfl, by decide +kernel, rfl, by decide +kernel, by decide +kernel⟩
include B in
theorem kn_init {f : Addr} {fd : FuncData} {dvs : List V} (F : FunD Z.K "__init__" "Case.__init__" (defArgs (mth 46 0)) (defBody (mth 46 0)) (defScope (mth 46 0)) dvs [] f fd) (k_check_rooms : Kn Z 8 "check_rooms" (SpP Z (sp_check_rooms A))) (k_check_doors : Kn Z 8 "check_doors" (SpP Z (sp_check_doors A))) (k_check_people : Kn Z 8 "check_people" (SpP Z (sp_check_people A))) (k_check_last : Kn Z 8 "check_last" (SpP Z (sp_check_last A))) (k_check_end : Kn Z 8 "check_end" (SpP Z (sp_check_end A))) (k_check_sightings : Kn Z 8 "check_sightings" (SpP Z (sp_check_sightings A))) (k_check_notices : Kn Z 8 "check_notices" (SpP Z (sp_check_notices A))) : FnK Z.P Z.w Z.K Z.mg Z.base (L2.CX Z.P Z.w) 9 f fd ["self", "rooms", "doors", "people", "last", "begin", "end", "sightings", "notices"] (SpE Z (sp_init A)) := by
  refine kn_of F sc46_0 (fun es Q R h => ?_) (by decide) (mkr := none) (fun _ z => nomatch z) fun E es Q R h => ?_
  · obtain ⟨a, r, d, p, l, b, e, s, n, rfl, _⟩ := h; rfl
  · obtain ⟨a, r, d, p, l, b, e, s, n, rfl, ho, hQ⟩ := h
    have S : ScOk ⟨Z, ["self", "rooms", "doors", "people", "last", "begin", "end", "sightings", "notices"], defScope (mth 46 0), fun _ => true, 8, E, fun _ _ => False, none⟩ [0, 1, 2, 3, 4, 5, 6, 7, 8] [] ["check_rooms", "check_doors", "check_people", "check_last", "check_end", "check_sightings", "check_notices"] := scOk_of sc46_0.nd rfl (by kernel_rfl)
    have or : okB r = true := okB_at (i := 0) ho rfl
    have od : okB d = true := okB_at (i := 1) ho rfl
    have op : okB p = true := okB_at (i := 2) ho rfl
    have ol : okB l = true := okB_at (i := 3) ho rfl
    have ob : okB b = true := okB_at (i := 4) ho rfl
    have oe : okB e = true := okB_at (i := 5) ho rfl
    have os : okB s = true := okB_at (i := 6) ho rfl
    have on : okB n = true := okB_at (i := 7) ho rfl
    have par : ∀ t, ParEnd (.ot (some a) (.o (A "Case") fNames []) :: [r, d, p, l, b, e, s, n].map Ent.d) (.ot (some a) t :: [r, d, p, l, b, e, s, n].map Ent.d) (.ot (some a) t :: [r, d, p, l, b, e, s, n].map Ent.d) := fun t => .ot (ParEnd.ds [r, d, p, l, b, e, s, n] _ (Nat.le_refl _))
    unfold verdict at hQ
    cases hr : vRooms r with
    | some x =>
      rw [hr] at hQ
      exact S_seq (S_exprR (E_callR S k_check_rooms (Nat.le_of_ble_eq_true rfl) (D_cons (E_var S 1 rfl rfl rfl) D_nil (fun _ => rfl)) (fun Q R h => ⟨_, rfl, or, told_some hr h⟩) (mem_of 0 rfl) (fun _ => rfl) (fun _ => rfl)) ⟨_, par _, hQ _⟩ (fun _ => rfl))
    | none =>
      rw [hr] at hQ
      have er := rooms_eq or hr
      refine S_seq (S_expr (E_call S k_check_rooms (Nat.le_of_ble_eq_true rfl) (D_cons (E_var S 1 rfl rfl rfl) D_nil (fun _ => rfl)) (r := .d .non) (fun Q R h => ⟨_, rfl, or, told_none hr h⟩) (mem_of 0 rfl) (fun _ => rfl) (fun _ => rfl)) ?_ (fun _ => rfl))
      cases hd : vDoors (strsOf r) d with
      | some x =>
        rw [hd] at hQ
        exact S_seq (S_exprR (E_callR S k_check_doors (Nat.le_of_ble_eq_true rfl) (D_cons (E_is (E_var S 1 rfl rfl rfl) er) (D_cons (E_var S 2 rfl rfl rfl) D_nil (fun _ => rfl)) (fun _ => rfl)) (fun Q R h => ⟨_, _, rfl, od, told_some hd h⟩) (mem_of 1 rfl) (fun _ => rfl) (fun _ => rfl)) ⟨_, par _, hQ _⟩ (fun _ => rfl))
      | none =>
        rw [hd] at hQ
        refine S_seq (S_expr (E_call S k_check_doors (Nat.le_of_ble_eq_true rfl) (D_cons (E_is (E_var S 1 rfl rfl rfl) er) (D_cons (E_var S 2 rfl rfl rfl) D_nil (fun _ => rfl)) (fun _ => rfl)) (r := .d .non) (fun Q R h => ⟨_, _, rfl, od, told_none hd h⟩) (mem_of 1 rfl) (fun _ => rfl) (fun _ => rfl)) ?_ (fun _ => rfl))
        cases hp : vPeople (strsOf r) p with
        | some x =>
          rw [hp] at hQ
          exact S_seq (S_exprR (E_callR S k_check_people (Nat.le_of_ble_eq_true rfl) (D_cons (E_is (E_var S 1 rfl rfl rfl) er) (D_cons (E_var S 3 rfl rfl rfl) D_nil (fun _ => rfl)) (fun _ => rfl)) (fun Q R h => ⟨_, _, rfl, op, told_some hp h⟩) (mem_of 2 rfl) (fun _ => rfl) (fun _ => rfl)) ⟨_, par _, hQ _⟩ (fun _ => rfl))
        | none =>
          rw [hp] at hQ
          have ep := people_eq op hp
          refine S_seq (S_expr (E_call S k_check_people (Nat.le_of_ble_eq_true rfl) (D_cons (E_is (E_var S 1 rfl rfl rfl) er) (D_cons (E_var S 3 rfl rfl rfl) D_nil (fun _ => rfl)) (fun _ => rfl)) (r := .d .non) (fun Q R h => ⟨_, _, rfl, op, told_none hp h⟩) (mem_of 2 rfl) (fun _ => rfl) (fun _ => rfl)) ?_ (fun _ => rfl))
          cases hl : vLast l with
          | some x =>
            rw [hl] at hQ
            exact S_seq (S_exprR (E_callR S k_check_last (Nat.le_of_ble_eq_true rfl) (D_cons (E_var S 4 rfl rfl rfl) D_nil (fun _ => rfl)) (fun Q R h => ⟨_, rfl, ol, told_some hl h⟩) (mem_of 3 rfl) (fun _ => rfl) (fun _ => rfl)) ⟨_, par _, hQ _⟩ (fun _ => rfl))
          | none =>
            rw [hl] at hQ
            have el := last_eq hl
            refine S_seq (S_expr (E_call S k_check_last (Nat.le_of_ble_eq_true rfl) (D_cons (E_var S 4 rfl rfl rfl) D_nil (fun _ => rfl)) (r := .d .non) (fun Q R h => ⟨_, rfl, ol, told_none hl h⟩) (mem_of 3 rfl) (fun _ => rfl) (fun _ => rfl)) ?_ (fun _ => rfl))
            cases hb : vEnd (strsOf r) b with
            | some x =>
              rw [hb] at hQ
              exact S_seq (S_exprR (E_callR S k_check_end (Nat.le_of_ble_eq_true rfl) (D_cons (E_is (E_var S 1 rfl rfl rfl) er) (D_cons (E_var S 5 rfl rfl rfl) D_nil (fun _ => rfl)) (fun _ => rfl)) (fun Q R h => ⟨_, _, rfl, ob, told_some hb h⟩) (mem_of 4 rfl) (fun _ => rfl) (fun _ => rfl)) ⟨_, par _, hQ _⟩ (fun _ => rfl))
            | none =>
              rw [hb] at hQ
              refine S_seq (S_expr (E_call S k_check_end (Nat.le_of_ble_eq_true rfl) (D_cons (E_is (E_var S 1 rfl rfl rfl) er) (D_cons (E_var S 5 rfl rfl rfl) D_nil (fun _ => rfl)) (fun _ => rfl)) (r := .d .non) (fun Q R h => ⟨_, _, rfl, ob, told_none hb h⟩) (mem_of 4 rfl) (fun _ => rfl) (fun _ => rfl)) ?_ (fun _ => rfl))
              cases he : vEnd (strsOf r) e with
              | some x =>
                rw [he] at hQ
                exact S_seq (S_exprR (E_callR S k_check_end (Nat.le_of_ble_eq_true rfl) (D_cons (E_is (E_var S 1 rfl rfl rfl) er) (D_cons (E_var S 6 rfl rfl rfl) D_nil (fun _ => rfl)) (fun _ => rfl)) (fun Q R h => ⟨_, _, rfl, oe, told_some he h⟩) (mem_of 4 rfl) (fun _ => rfl) (fun _ => rfl)) ⟨_, par _, hQ _⟩ (fun _ => rfl))
              | none =>
                rw [he] at hQ
                refine S_seq (S_expr (E_call S k_check_end (Nat.le_of_ble_eq_true rfl) (D_cons (E_is (E_var S 1 rfl rfl rfl) er) (D_cons (E_var S 6 rfl rfl rfl) D_nil (fun _ => rfl)) (fun _ => rfl)) (r := .d .non) (fun Q R h => ⟨_, _, rfl, oe, told_none he h⟩) (mem_of 4 rfl) (fun _ => rfl) (fun _ => rfl)) ?_ (fun _ => rfl))
                cases hs : vSig (strsOf r) (strsOf p) (intOf l) s with
                | some x =>
                  rw [hs] at hQ
                  exact S_seq (S_exprR (E_callR S k_check_sightings (Nat.le_of_ble_eq_true rfl) (D_cons (E_is (E_var S 1 rfl rfl rfl) er) (D_cons (E_is (E_var S 3 rfl rfl rfl) ep) (D_cons (E_is (E_var S 4 rfl rfl rfl) el) (D_cons (E_var S 7 rfl rfl rfl) D_nil (fun _ => rfl)) (fun _ => rfl)) (fun _ => rfl)) (fun _ => rfl)) (fun Q R h => ⟨_, _, _, _, rfl, os, told_some hs h⟩) (mem_of 5 rfl) (fun _ => rfl) (fun _ => rfl)) ⟨_, par _, hQ _⟩ (fun _ => rfl))
                | none =>
                  rw [hs] at hQ
                  refine S_seq (S_expr (E_call S k_check_sightings (Nat.le_of_ble_eq_true rfl) (D_cons (E_is (E_var S 1 rfl rfl rfl) er) (D_cons (E_is (E_var S 3 rfl rfl rfl) ep) (D_cons (E_is (E_var S 4 rfl rfl rfl) el) (D_cons (E_var S 7 rfl rfl rfl) D_nil (fun _ => rfl)) (fun _ => rfl)) (fun _ => rfl)) (fun _ => rfl)) (r := .d .non) (fun Q R h => ⟨_, _, _, _, rfl, os, told_none hs h⟩) (mem_of 5 rfl) (fun _ => rfl) (fun _ => rfl)) ?_ (fun _ => rfl))
                  cases hn : vNot (strsOf r) (intOf l) n with
                  | some x =>
                    rw [hn] at hQ
                    exact S_seq (S_exprR (E_callR S k_check_notices (Nat.le_of_ble_eq_true rfl) (D_cons (E_is (E_var S 1 rfl rfl rfl) er) (D_cons (E_is (E_var S 4 rfl rfl rfl) el) (D_cons (E_var S 8 rfl rfl rfl) D_nil (fun _ => rfl)) (fun _ => rfl)) (fun _ => rfl)) (fun Q R h => ⟨_, _, _, rfl, on, told_some hn h⟩) (mem_of 6 rfl) (fun _ => rfl) (fun _ => rfl)) ⟨_, par _, hQ _⟩ (fun _ => rfl))
                  | none =>
                    rw [hn] at hQ
                    refine S_seq (S_expr (E_call S k_check_notices (Nat.le_of_ble_eq_true rfl) (D_cons (E_is (E_var S 1 rfl rfl rfl) er) (D_cons (E_is (E_var S 4 rfl rfl rfl) el) (D_cons (E_var S 8 rfl rfl rfl) D_nil (fun _ => rfl)) (fun _ => rfl)) (fun _ => rfl)) (r := .d .non) (fun Q R h => ⟨_, _, _, rfl, on, told_none hn h⟩) (mem_of 6 rfl) (fun _ => rfl) (fun _ => rfl)) ?_ (fun _ => rfl))
                    refine S_seq (S_fld (p := []) (E_var S 1 rfl rfl rfl) (P_name S 0 rfl rfl rfl) rfl rfl rfl (by decide +kernel) B.cC (B.nC "rooms" (mem_of 0 rfl)) (Nat.lt_of_lt_of_le (Nat.le_of_ble_eq_true rfl : 0 < 9) (Nat.le_of_ble_eq_true rfl)) ?_ (fun _ => rfl))
                    refine S_seq (S_fld (p := []) (E_var S 2 rfl rfl rfl) (P_name S 0 rfl rfl rfl) rfl rfl rfl (by decide +kernel) B.cC (B.nC "doors" (mem_of 1 rfl)) (Nat.lt_of_lt_of_le (Nat.le_of_ble_eq_true rfl : 1 < 9) (Nat.le_of_ble_eq_true rfl)) ?_ (fun _ => rfl))
                    refine S_seq (S_fld (p := []) (E_var S 3 rfl rfl rfl) (P_name S 0 rfl rfl rfl) rfl rfl rfl (by decide +kernel) B.cC (B.nC "people" (mem_of 2 rfl)) (Nat.lt_of_lt_of_le (Nat.le_of_ble_eq_true rfl : 2 < 9) (Nat.le_of_ble_eq_true rfl)) ?_ (fun _ => rfl))
                    refine S_seq (S_fld (p := []) (E_var S 4 rfl rfl rfl) (P_name S 0 rfl rfl rfl) rfl rfl rfl (by decide +kernel) B.cC (B.nC "last" (mem_of 3 rfl)) (Nat.lt_of_lt_of_le (Nat.le_of_ble_eq_true rfl : 3 < 9) (Nat.le_of_ble_eq_true rfl)) ?_ (fun _ => rfl))
                    refine S_seq (S_fld (p := []) (E_var S 5 rfl rfl rfl) (P_name S 0 rfl rfl rfl) rfl rfl rfl (by decide +kernel) B.cC (B.nC "begin" (mem_of 4 rfl)) (Nat.lt_of_lt_of_le (Nat.le_of_ble_eq_true rfl : 4 < 9) (Nat.le_of_ble_eq_true rfl)) ?_ (fun _ => rfl))
                    refine S_seq (S_fld (p := []) (E_var S 6 rfl rfl rfl) (P_name S 0 rfl rfl rfl) rfl rfl rfl (by decide +kernel) B.cC (B.nC "end" (mem_of 5 rfl)) (Nat.lt_of_lt_of_le (Nat.le_of_ble_eq_true rfl : 5 < 9) (Nat.le_of_ble_eq_true rfl)) ?_ (fun _ => rfl))
                    refine S_seq (S_fld (p := []) (E_var S 7 rfl rfl rfl) (P_name S 0 rfl rfl rfl) rfl rfl rfl (by decide +kernel) B.cC (B.nC "sightings" (mem_of 6 rfl)) (Nat.lt_of_lt_of_le (Nat.le_of_ble_eq_true rfl : 6 < 9) (Nat.le_of_ble_eq_true rfl)) ?_ (fun _ => rfl))
                    refine S_seq (S_fld (p := []) (E_var S 8 rfl rfl rfl) (P_name S 0 rfl rfl rfl) rfl rfl rfl (by decide +kernel) B.cC (B.nC "notices" (mem_of 7 rfl)) (Nat.lt_of_lt_of_le (Nat.le_of_ble_eq_true rfl : 7 < 9) (Nat.le_of_ble_eq_true rfl)) ?_ (fun _ => rfl))
                    exact S_nil ⟨_, par _, hQ⟩
end
end K03

set_option Elab.async false
set_option maxRecDepth 100000
set_option maxHeartbeats 4000000
namespace K03
open PySem PySem.Spec PyProof.Rows L2 Fw
def tabC : List (Str × Str × Str) := [("InvalidRooms", "index", "rooms"), ("InvalidDoors", "index", "doors"), ("InvalidPeople", "index", "people"), ("InvalidNumber", "given", "number"), ("UnknownRoom", "given", "room"), ("InvalidSightings", "index", "sightings"), ("InvalidNotices", "index", "notices")]
def namesC : List Str := ["InvalidRooms", "InvalidDoors", "InvalidPeople", "InvalidNumber", "UnknownRoom", "InvalidSightings", "InvalidNotices"]
def fldOf (x : Str) : Str := ((tabC.lookup x).getD ("", "")).1
def wordOf (x : Str) : Str := ((tabC.lookup x).getD ("", "")).2
def madeD : D := .lst [.str "made"]
def wrongD (w : Str) (d : D) : D := .lst [.str w, .str (toR d).shown]
def SoC (A : Str → Addr) (o : Outc) (Q : D → Prop) : Prop := match o with
  | none => Q madeD
  | some (C, fs) => ∃ x d, x ∈ namesC ∧ C = A x ∧ fs = [(fldOf x, d)] ∧ Rp d ∧ Q (wrongD (wordOf x) d)
def tsC (K : PySem.W.Frag) (A : Str → Addr) (y : Str) : Addr → Value → Option Addr → TS := fun a cls d => tRet (tLst (tCons (tC (.str (wordOf y))) (tCons (tCB (rRp K) (tCons (tXf a cls d (A y) (fldOf y) (tVar 1)) tNil)) tNil)))
section
variable {Z : Zd} {A : Str → Addr} {fC : Addr} (B : B03 Z A fC)
theorem names_excs : ∀ x ∈ namesC, x ∈ excs := by decide +kernel
theorem kept_no {x : Str} (B : B03 Z A fC) (hx : x ∈ namesC) : PySem.W.findIn Z.K (.ref (A x)) (fldOf x) = some none := by
  have h : ∀ x ∈ namesC, (x, fldOf x) ∈ kept := by decide +kernel
  exact B.no _ (h x hx)
theorem sc64 : FnScope ["act", "e"] ["act"] (defScope (top 64)) := ⟨rfl, rfl, rfl, by decide +kernel, rfl, by decide +kernel, by decide +kernel⟩
include B in
theorem kn_caught {f : Addr} {fd : FuncData} (F : FunD Z.K "_law_caught" "_law_caught" (defArgs (top 64)) (defBody (top 64)) (defScope (top 64)) [] [] f fd) (hm : Z.mg "_law_caught" = some (.ref f)) (hb : Binds Z.K fd ["act"] []) : KnZ Z 12 11 "_law_caught" (SoC A) := by
  refine ⟨f, fd, "act", hm, F.kp, hb, fun p A' outer s H args us Q E F0 fa o kp hr e0 hbt rv hk hz l0 lnt tb hS => ?_⟩
  refine body_run F sc64 hr e0 hbt rv rfl fun cdv hc hr' => ?_
  have cl : ∀ (i : Nat) (y : Str), namesC[i]? = some y → ∀ (pos1 pos2 pos3 pos4 pos5 pos6 pos7 pos8 : Pos) (k1 : Nat) (a : Addr) (oe : Obj) (cls : Value) (d : Option Addr) (pn : List (Addr × Obj)), Zc cls d oe → (∃ vs, oe.data = .fields vs) →
      PSs (Cx.suite (cxOf (L2.CX Z.P Z.w) Z.P Z.w Z.K Z.mg Z.base ["act", "e"] "_law_caught" (defScope (top 64)) f cdv A' outer s H E) a ((a, oe) :: pn)) [.Return (some (.List [.Constant (.str (wordOf y)) k1 pos1, .Call (.Name "repr" pos2) [.Attribute (.Name "e" pos3) (fldOf y) pos4] [] pos5] pos6)) pos7] (tsC Z.K A y a cls d) := fun i y hy pos1 pos2 pos3 pos4 pos5 pos6 pos7 pos8 k1 a oe cls d pn hz hf => by
    have hy := List.mem_of_getElem? hy
    refine pss_one (ps_ret (pe_lst (pa_cons pe_str (pa_cons (pe_callB (call_reprD B.sm ?_ ?_) rfl (B.fr "repr" (mem_of 12 rfl)) rfl (pa_cons (pe_xf (B.xf y (names_excs y hy)) (kept_no B hy) hz hf (pe_var (i := 1) rfl (.inl rfl))) pa_nil) (by decide)) pa_nil))))
    · exact hr'.calm
    · exact Nat.lt_of_le_of_lt (Nat.add_le_add_right (Nat.le_add_right _ _) 200) hr'.room.un
  refine ⟨_, pss_cons (ps_try_clas (Wout := fun cls d _ H => E cls d H) (tb := fun W => tDrop (tAct (Z.add p) 0 fa F0 o W)) (l := namesC.map fun y => (Value.ref (A y), 1, tsC Z.K A y)) rfl rfl sc64.nd (takes_of rfl rfl rfl rfl) (fun W pn xe tk po => pss_one (ps_expr (pe_act rfl rfl rfl rfl rfl hr' rfl (.inl rfl) rfl rfl (fun b u z => ⟨(hk b u z).1, (hk b u z).2.1, (hk b u z).2.2, by show b ∉ ([] : List Addr); simp⟩) tk hz)))
    (.cons (n := "e") ⟨rfl, rfl, .inl (B.mg "InvalidRooms" (names_excs _ (mem_of 0 rfl)))⟩ rfl rfl (cl 0 "InvalidRooms" rfl _ _ _ _ _ _ _ ⟨0, 0, 0, 0⟩ _)
    (.cons (n := "e") ⟨rfl, rfl, .inl (B.mg "InvalidDoors" (names_excs _ (mem_of 1 rfl)))⟩ rfl rfl (cl 1 "InvalidDoors" rfl _ _ _ _ _ _ _ ⟨0, 0, 0, 0⟩ _)
    (.cons (n := "e") ⟨rfl, rfl, .inl (B.mg "InvalidPeople" (names_excs _ (mem_of 2 rfl)))⟩ rfl rfl (cl 2 "InvalidPeople" rfl _ _ _ _ _ _ _ ⟨0, 0, 0, 0⟩ _)
    (.cons (n := "e") ⟨rfl, rfl, .inl (B.mg "InvalidNumber" (names_excs _ (mem_of 3 rfl)))⟩ rfl rfl (cl 3 "InvalidNumber" rfl _ _ _ _ _ _ _ ⟨0, 0, 0, 0⟩ _)
    (.cons (n := "e") ⟨rfl, rfl, .inl (B.mg "UnknownRoom" (names_excs _ (mem_of 4 rfl)))⟩ rfl rfl (cl 4 "UnknownRoom" rfl _ _ _ _ _ _ _ ⟨0, 0, 0, 0⟩ _)
    (.cons (n := "e") ⟨rfl, rfl, .inl (B.mg "InvalidSightings" (names_excs _ (mem_of 5 rfl)))⟩ rfl rfl (cl 5 "InvalidSightings" rfl _ _ _ _ _ _ _ ⟨0, 0, 0, 0⟩ _)
    (.cons (n := "e") ⟨rfl, rfl, .inl (B.mg "InvalidNotices" (names_excs _ (mem_of 6 rfl)))⟩ rfl rfl (cl 6 "InvalidNotices" rfl _ _ _ _ _ _ _ ⟨0, 0, 0, 0⟩ _) .nil)))))))) (pss_one (ps_ret (pe_lst (pa_cons pe_str pa_nil)))), ?_⟩
  refine ⟨rfl, F0, .refl F0, l0, lnt, tb, ?_⟩
  have hsz : ∀ n : Nat, n ≤ 2 → n ≤ sizeLine := fun n h => by rw [sizeLine_eq]; omega
  cases o with
  | none =>
    intro v F' H' g
    refine ⟨hsz 1 (by omega), fun q n => ?_⟩
    have g2 : Grow (Z.add p) F' H' (upd F' q (.lst [.str "made"])) (upd H' q (.lst [.str "made"])) := Grow.alloc g.le n
    exact hS _ _ _ (g.trans g2) (den_lst (g.le.none n) ⟨_, [], rfl, rfl, rfl⟩)
  | some ce =>
    obtain ⟨C, fs⟩ := ce
    obtain ⟨x, d, hx, rfl, rfl, hR, hQ⟩ := hS
    intro dd F' H' g hxd
    refine wClas_run (fun a na => ?_) hx fun y hy => B.em x (names_excs x hx) y (names_excs y hy)
    cases dd with
    | none => cases hxd
    | some dx =>
      obtain ⟨gs, hgs, ⟨v, hl, hd⟩, _⟩ := hxd
      refine ⟨.ref a, rfl, rfl, rfl, dx, gs, v, rfl, hgs, hl, ?_⟩
      refine ⟨d, F', v, rfl, g.le, hd, hR, ?_⟩
      refine ⟨hsz 2 (Nat.le_refl _), fun q n => ?_⟩
      have g2 : Grow (Z.add p) F' H' (upd F' q (.lst [.str (wordOf x), .str (toR d).shown])) (upd H' q (.lst [.str (wordOf x), .str (toR d).shown])) := Grow.alloc g.le n
      exact hQ _ _ _ (g.trans g2) (den_lst (g.le.none n) ⟨_, _, rfl, rfl, _, [], rfl, rfl, rfl⟩)
end
end K03

set_option Elab.async false
set_option maxRecDepth 100000
set_option maxHeartbeats 4000000
namespace K03
open PySem PySem.Spec PyProof.Rows L2 Fw
theorem str_len0 {x : Str} : decide (x = "") = decide (x.length = 0) := by
  have : (x = ("" : Str)) ↔ x.length = 0 := by
    constructor
    · rintro rfl; rfl
    · intro h
      cases x with
      | mk c =>
        have h : c.size = 0 := h
        have : c = #[] := Array.eq_empty_of_size_eq_zero h
        rw [this]
        rfl
  exact decide_eq_decide.mpr this
section
variable {Z : Zd} {A : Str → Addr} {fC : Addr} (B : B03 Z A fC)
def sp__law_is_number : SpD := fun ds Q _ => ∃ (v : D) (lo hi : Int), ds = [v, .int lo, .int hi] ∧ okB v = true ∧ Q (.d (.bl (betB v lo hi)))
theorem sc52 : FnScope ["value", "low", "high"] ["value", "low", "high"] (defScope (top 52)) := ⟨rfl, rfl, rfl, by decide +kernel, rfl, by decide +kernel, by decide +kernel⟩
include B in
theorem kn__law_is_number {f : Addr} {fd : FuncData} (F : FunD Z.K "_law_is_number" "_law_is_number" (defArgs (top 52)) (defBody (top 52)) (defScope (top 52)) [] [] f fd)  : FnK Z.P Z.w Z.K Z.mg Z.base (L2.CX Z.P Z.w) 1 f fd ["value", "low", "high"] (SpP Z sp__law_is_number) := by
  refine kn_ofP F sc52 (fun ds Q R h => ?_) (by decide) (mkr := none) (fun _ z => nomatch z) fun E ds Q R h => ?_
  · obtain ⟨v, lo, hi, rfl, hv, hQ⟩ := h; rfl
  · obtain ⟨v, lo, hi, rfl, hv, hQ⟩ := h
    have S : ScOk ⟨Z, ["value", "low", "high"], defScope (top 52), fun _ => true, 0, E, fun _ _ => False, none⟩ [0, 1, 2] [] ["isinstance", "int", "bool"] := scOk_of sc52.nd rfl (by kernel_rfl)
    have e : betB v lo hi = (intB v && (!boolB v && inR v lo hi)) := by unfold betB wholeB; rw [Bool.and_assoc]
    rw [e] at hQ
    refine S_seq (S_ret (E_and (E_cb S (A_cons (E_var S 0 rfl rfl rfl) (A_cons (E_ty S (mem_of 1 rfl) (B.fr "int" (mem_of 5 rfl)) rfl) A_nil (fun _ => rfl)) (fun _ => rfl)) (.cons (.d _) (.cons (.d _) .nil)) (b_isK k_int (okB_ty hv)) (mem_of 0 rfl) (B.fr "isinstance" (mem_of 6 rfl)) rfl (fun _ => rfl) (fun _ => rfl)) (fun h1 => E_and (E_not (E_cb S (A_cons (E_var S 0 rfl rfl rfl) (A_cons (E_ty S (mem_of 2 rfl) (B.fr "bool" (mem_of 3 rfl)) rfl) A_nil (fun _ => rfl)) (fun _ => rfl)) (.cons (.d _) (.cons (.d _) .nil)) (b_isK k_bool (okB_ty hv)) (mem_of 0 rfl) (B.fr "isinstance" (mem_of 6 rfl)) rfl (fun _ => rfl) (fun _ => rfl))) (fun h2 => E_one ?_))) ⟨hQ, Nat.le_of_ble_eq_true rfl⟩)
    obtain ⟨i, rfl⟩ := wholeB_eq (v := v) (by unfold wholeB; rw [h1, h2]; rfl)
    exact (E_chain (E_var S 1 rfl rfl rfl) (E_var S 0 rfl rfl rfl) (.d _) (.d _) o_le (fun _ => (E_var S 2 rfl rfl rfl)) (.d _) (fun _ => o_le) rfl)
def sp__law_is_name : SpD := fun ds Q _ => ∃ v : D, ds = [v] ∧ okB v = true ∧ Q (.d (.bl (nameB v)))
theorem sc53 : FnScope ["value", "letter"] ["value"] (defScope (top 53)) := ⟨rfl, rfl, rfl, by decide +kernel, rfl, by decide +kernel, by decide +kernel⟩
include B in
theorem kn__law_is_name {f : Addr} {fd : FuncData} (F : FunD Z.K "_law_is_name" "_law_is_name" (defArgs (top 53)) (defBody (top 53)) (defScope (top 53)) [] [] f fd)  : FnK Z.P Z.w Z.K Z.mg Z.base (L2.CX Z.P Z.w) 1 f fd ["value"] (SpP Z sp__law_is_name) := by
  refine kn_ofP F sc53 (fun ds Q R h => ?_) (by decide) (mkr := none) (fun _ z => nomatch z) fun E ds Q R h => ?_
  · obtain ⟨v, rfl, hv, hQ⟩ := h; rfl
  · obtain ⟨v, rfl, hv, hQ⟩ := h
    have S : ScOk ⟨Z, ["value", "letter"], defScope (top 53), fun _ => true, 0, E, fun _ _ => False, none⟩ [0] [] ["isinstance", "str", "len", "all"] := scOk_of sc53.nd rfl (by kernel_rfl)
    cases hs : strB v with
    | false =>
      have e : nameB v = false := by unfold nameB; rw [hs]; rfl
      rw [e] at hQ
      exact S_seq (S_ifT (T_w (W_or (v := true) (T_not (T_is (T_val (E_cb S (A_cons (E_var S 0 rfl rfl rfl) (A_cons (E_ty S (mem_of 1 rfl) (B.fr "str" (mem_of 14 rfl)) rfl) A_nil (fun _ => rfl)) (fun _ => rfl)) (.cons (.d _) (.cons (.d _) .nil)) (b_isK k_str (okB_ty hv)) (mem_of 0 rfl) (B.fr "isinstance" (mem_of 6 rfl)) rfl (fun _ => rfl) (fun _ => rfl)) (fun _ _ => rfl)) hs)) (fun z => nomatch z))) rfl (S_seq (S_ret E_bl ⟨hQ, Nat.le_of_ble_eq_true rfl⟩)))
    | true =>
      obtain ⟨x, rfl⟩ := strB_eq hs
      have en : nameB (.str x) = (decide ((x.length : Int) ≤ 8) && (!decide (x = "") && (Fw.signs x).all fun d => match d with | .str y => inStr y letters | _ => false)) := rfl
      rw [str_len0] at en
      refine S_seq (S_if (T_w (W_or (T_not (T_is (T_val (E_cb S (A_cons (E_var S 0 rfl rfl rfl) (A_cons (E_ty S (mem_of 1 rfl) (B.fr "str" (mem_of 14 rfl)) rfl) A_nil (fun _ => rfl)) (fun _ => rfl)) (.cons (.d _) (.cons (.d _) .nil)) (b_isK k_str (okB_ty hv)) (mem_of 0 rfl) (B.fr "isinstance" (mem_of 6 rfl)) rfl (fun _ => rfl) (fun _ => rfl)) (fun _ _ => rfl)) hs)) (fun _ => W_or1 (T_not (T_chain E_int (E_cb S (A_cons (E_var S 0 rfl rfl rfl) A_nil (fun _ => rfl)) (.cons (.d _) .nil) (b_lenS (okB_len hv)) (mem_of 2 rfl) (B.fr "len" (mem_of 7 rfl)) rfl (fun _ => rfl) (fun _ => rfl)) (.d _) (.d _) o_lt (fun _ => E_int) (.d _) (fun _ => o_lt) rfl))))) (fun hb => S_seq (S_ret E_bl ⟨?_, Nat.le_of_ble_eq_true rfl⟩)) (fun hb => S_nil (S_seq (S_ret (E_cb S (A_cons (show EvX _ _ _ _ [Ent.d (.str x), .un] from ?lc) A_nil (fun _ => rfl)) (.cons (.d _) .nil) (b_allM (ds := Fw.signs x) (p := fun d => match d with | .str y => inStr y letters | _ => false)) (mem_of 3 rfl) (B.fr "all" (mem_of 2 rfl)) rfl (fun _ => rfl) (fun _ => rfl)) ⟨?_, Nat.le_of_ble_eq_true rfl⟩))))
      · have e : nameB (.str x) = false := by
          rw [en]
          simp only [Bool.false_or, Bool.not_true, Bool.not_eq_true', Bool.and_eq_false_iff, decide_eq_false_iff_not] at hb
          rcases hb with h | h
          · have : x.length = 0 := by omega
            simp [this]
          · have : ¬ ((x.length : Int) ≤ 8) := by omega
            simp only [decide_eq_false this, Bool.false_and]
        rw [e] at hQ
        exact hQ
      case lc =>
        refine E_lcA 1 [1] [] (ds := Fw.signs x) (fun d => .bl (match d with | .str y => inStr y letters | _ => false)) sc53.nd rfl rfl rfl ⟨rfl, by (dsimp only; decide +kernel), by (dsimp only; decide +kernel), by (dsimp only; decide +kernel), by (dsimp only; decide +kernel)⟩ (scOk_of sc53.nd rfl (by kernel_rfl)) (I_str (E_var S 0 rfl rfl rfl)) rfl (fun S' j d hj => ?t) ?l rfl (fun _ _ => rfl)
        case t =>
          obtain ⟨n, hn, rfl⟩ := List.mem_map.mp (List.mem_of_getElem? hj)
          exact E_cmp (E_var S' 1 rfl rfl rfl) E_str (.d _) (.d _) o_inT rfl
        case l =>
          have hx : x.length ≤ 1000 := of_decide_eq_true (and2 (show (PyData.strOk x && decide (x.length ≤ 1000)) = true from hv)).2
          unfold Fw.signs
          rw [List.length_map]
          have : x.cps.toList.length = x.length := by simp [Str.length]
          omega
      · have hb2 : ¬ (x.length = 0) ∧ (x.length : Int) ≤ 8 := by
          simp only [Bool.false_or, Bool.not_true, Bool.not_eq_false', Bool.and_eq_true, decide_eq_true_eq] at hb
          omega
        rw [en, decide_eq_true hb2.2, decide_eq_false hb2.1] at hQ
        exact hQ
/-- [] where nothing is wrong, [the index] -/
def wnD : Option D → D
  | none => .lst []
  | some d => .lst [d]
theorem pPers_at {ns : List Str} {xs : List D} {j : Nat} {x : D} (h : xs[j]? = some x) : pPers ns xs j = (nameB x && (!inL ns x && aheadB xs j)) := by
  unfold pPers
  rw [getD_of h]
def sp__law_wrong_names : SpD := fun ds Q _ => ∃ (v : D) (lo hi : Int) (ns : List Str), ds = [v, .int lo, .int hi, .tup (ns.map D.str)] ∧ okB v = true ∧ hi ≤ 1000 ∧ Q (.d (wnD (vIx (rowB v lo hi) (fwN (pPers ns (itemsOf v)) (itemsOf v).length))))
theorem rangeD_at0 {n : Nat} {j : Nat} {d : D} (h : (rangeD 0 n)[j]? = some d) : j < n ∧ d = .int (j : Nat) := by
  unfold rangeD at h
  rw [List.getElem?_map] at h
  cases e : (List.range n)[j]? with
  | none => rw [e] at h; cases h
  | some i =>
    rw [e] at h
    cases h
    obtain ⟨h1, h2⟩ := List.getElem?_eq_some_iff.mp e
    simp at h1 h2
    subst h2
    exact ⟨h1, by simp⟩
theorem atI_at {xs : List D} {j : Nat} {x : D} (h : xs[j]? = some x) : atI xs ((j : Nat) : Int) = some x := by
  have hj : j < xs.length := (List.getElem?_eq_some_iff.mp h).1
  have e : ixN xs.length ((j : Nat) : Int) = some j := by
    unfold ixN
    rw [if_pos (by omega), if_pos (by omega)]
    rfl
  unfold atI
  rw [e]
  exact h
theorem atI_prev {xs : List D} {j : Nat} (h0 : j ≠ 0) (hj : j < xs.length) : atI xs (((j : Nat) : Int) - 1) = some (xs.getD (j - 1) .non) := by
  have e : ixN xs.length (((j : Nat) : Int) - 1) = some (j - 1) := by
    unfold ixN
    rw [if_pos (by omega), if_pos (by omega)]
    congr 1
    omega
  unfold atI
  rw [e]
  show xs[j - 1]? = some (xs.getD (j - 1) .non)
  rw [List.getD_eq_getElem?_getD, List.getElem?_eq_getElem (by omega)]
  rfl
theorem aheadB_not {xs : List D} {j : Nat} (hj : j < xs.length) : (!aheadB xs j) = (decide (((j : Nat) : Int) > 0) && !ltD (xs.getD (j - 1) .non) (xs.getD j .non)) := by
  unfold aheadB
  have hl : (xs.take j).length = j := by rw [List.length_take]; omega
  rw [hl]
  by_cases h : j = 0
  · subst h; simp
  · have h2 : ((j : Nat) : Int) > 0 := by omega
    rw [decide_eq_false h, decide_eq_true h2, Bool.false_or, Bool.true_and]
theorem sc59 : FnScope ["value", "low", "high", "others", "k"] ["value", "low", "high", "others"] (defScope (top 59)) := ⟨rfl, rfl, rfl, by decide +kernel, rfl, by decide +kernel, by decide +kernel⟩
include B in
theorem kn__law_wrong_names {f : Addr} {fd : FuncData} (F : FunD Z.K "_law_wrong_names" "_law_wrong_names" (defArgs (top 59)) (defBody (top 59)) (defScope (top 59)) [] [] f fd) (k__law_is_name : Kn Z 1 "_law_is_name" (SpP Z sp__law_is_name)) : FnK Z.P Z.w Z.K Z.mg Z.base (L2.CX Z.P Z.w) 2 f fd ["value", "low", "high", "others"] (SpP Z sp__law_wrong_names) := by
  refine kn_ofP F sc59 (fun ds Q R h => ?_) (by decide) (mkr := none) (fun _ z => nomatch z) fun E ds Q R h => ?_
  · obtain ⟨v, lo, hi, ns, rfl, hv, hhi, hQ⟩ := h; rfl
  · obtain ⟨v, lo, hi, ns, rfl, hv, hhi, hQ⟩ := h
    have S : ScOk ⟨Z, ["value", "low", "high", "others", "k"], defScope (top 59), fun _ => true, 1, E, fun _ _ => False, none⟩ [0, 1, 2, 3, 4] [4] ["isinstance", "tuple", "len", "range", "_law_is_name"] := scOk_of sc59.nd rfl (by kernel_rfl)
    cases ht : tupB v with
    | false =>
      have e : rowB v lo hi = false := by unfold rowB; rw [ht]; rfl
      rw [e] at hQ
      exact S_seq (S_ifT (T_w (W_or (v := true) (T_not (T_is (T_val (E_cb S (A_cons (E_var S 0 rfl rfl rfl) (A_cons (E_ty S (mem_of 1 rfl) (B.fr "tuple" (mem_of 15 rfl)) rfl) A_nil (fun _ => rfl)) (fun _ => rfl)) (.cons (.d _) (.cons (.d _) .nil)) (b_isK k_tup (okB_ty hv)) (mem_of 0 rfl) (B.fr "isinstance" (mem_of 6 rfl)) rfl (fun _ => rfl) (fun _ => rfl)) (fun _ _ => rfl)) ht)) (fun z => nomatch z))) rfl (S_seq (S_ret (E_lstD (D_cons E_non D_nil (fun _ => rfl)) rfl) ⟨hQ, Nat.le_of_ble_eq_true rfl⟩)))
    | true =>
      obtain ⟨xs, rfl, hd⟩ := tupB_eq hv ht
      cases hr : (decide (lo ≤ (xs.length : Int)) && decide ((xs.length : Int) ≤ hi)) with
      | false =>
        have e : rowB (.tup xs) lo hi = false := hr
        rw [e] at hQ
        exact S_seq (S_ifT (T_w (W_or (T_not (T_is (T_val (E_cb S (A_cons (E_var S 0 rfl rfl rfl) (A_cons (E_ty S (mem_of 1 rfl) (B.fr "tuple" (mem_of 15 rfl)) rfl) A_nil (fun _ => rfl)) (fun _ => rfl)) (.cons (.d _) (.cons (.d _) .nil)) (b_isK k_tup (okB_ty hv)) (mem_of 0 rfl) (B.fr "isinstance" (mem_of 6 rfl)) rfl (fun _ => rfl) (fun _ => rfl)) (fun _ _ => rfl)) ht)) (fun _ => W_or1 (T_not (T_is (T_chain (E_var S 1 rfl rfl rfl) (E_cb S (A_cons (E_var S 0 rfl rfl rfl) A_nil (fun _ => rfl)) (.cons (.d _) .nil) (b_len rfl) (mem_of 2 rfl) (B.fr "len" (mem_of 7 rfl)) rfl (fun _ => rfl) (fun _ => rfl)) (.d _) (.d _) o_le (fun _ => (E_var S 2 rfl rfl rfl)) (.d _) (fun _ => o_le) rfl) hr))))) rfl (S_seq (S_ret (E_lstD (D_cons E_non D_nil (fun _ => rfl)) rfl) ⟨hQ, Nat.le_of_ble_eq_true rfl⟩)))
      | true =>
        have e : rowB (.tup xs) lo hi = true := hr
        rw [e] at hQ
        have hQ : Q (.d (wnD ((fwN (pPers ns xs) xs.length).map fun j => D.int (j : Nat)))) := hQ
        have hxl : xs.length ≤ 1000 := by
          have := of_decide_eq_true (and2 hr).2
          omega
        refine S_seq (S_ifF (T_w (W_or (T_not (T_is (T_val (E_cb S (A_cons (E_var S 0 rfl rfl rfl) (A_cons (E_ty S (mem_of 1 rfl) (B.fr "tuple" (mem_of 15 rfl)) rfl) A_nil (fun _ => rfl)) (fun _ => rfl)) (.cons (.d _) (.cons (.d _) .nil)) (b_isK k_tup (okB_ty hv)) (mem_of 0 rfl) (B.fr "isinstance" (mem_of 6 rfl)) rfl (fun _ => rfl) (fun _ => rfl)) (fun _ _ => rfl)) ht)) (fun _ => W_or1 (T_not (T_is (T_chain (E_var S 1 rfl rfl rfl) (E_cb S (A_cons (E_var S 0 rfl rfl rfl) A_nil (fun _ => rfl)) (.cons (.d _) .nil) (b_len rfl) (mem_of 2 rfl) (B.fr "len" (mem_of 7 rfl)) rfl (fun _ => rfl) (fun _ => rfl)) (.d _) (.d _) o_le (fun _ => (E_var S 2 rfl rfl rfl)) (.d _) (fun _ => o_le) rfl) hr))))) rfl (S_nil ?_))
        let ρ0 : Env' := [.d (.tup xs), .d (.int lo), .d (.int hi), .d (.tup (ns.map D.str)), .un]
        refine S_seq (S_for (ρ1 := ρ0) (vs := [4]) (ds := rangeD 0 (xs.length : Int).toNat) (fun j ρ => (∀ i, i < j → pPers ns xs i = true) ∧ ∃ e, ρ = [.d (.tup xs), .d (.int lo), .d (.int hi), .d (.tup (ns.map D.str)), e]) (I_range1 S (E_cb S (A_cons (E_var S 0 rfl rfl rfl) A_nil (fun _ => rfl)) (.cons (.d _) .nil) (b_len rfl) (mem_of 2 rfl) (B.fr "len" (mem_of 7 rfl)) rfl (fun _ => rfl) (fun _ => rfl)) (mem_of 3 rfl) (B.fr "range" (mem_of 11 rfl)) ⟨by omega, by omega⟩ (fun _ => rfl)) ⟨fun i hi => absurd hi (Nat.not_lt_zero i), .un, rfl⟩ (fun j d ρ hj hI => ?turn) (fun ρ hI => ?fin) (fun _ _ => rfl))
        case turn =>
          obtain ⟨hp, e, rfl⟩ := hI
          obtain ⟨hj2, rfl⟩ := rangeD_at0 hj
          have hj2 : j < xs.length := by omega
          obtain ⟨x, hx⟩ : ∃ x, xs[j]? = some x := ⟨_, List.getElem?_eq_getElem hj2⟩
          have ox := okB_at hd hx
          refine ⟨_, G_name S 4 rfl rfl rfl, ?_⟩
          refine S_seq (S_if (t := !pPers ns xs j) (T_is (T_w (W_or (u := !nameB x) (v := inL ns x || !aheadB xs j) (T_not (T_val (E_call S k__law_is_name (Nat.le_of_ble_eq_true rfl) (D_cons (E_ix (E_var S 0 rfl rfl rfl) (E_var S 4 rfl rfl rfl) (.d _) (.d _) (i_seq rfl (atI_at hx)) (fun _ _ => rfl)) D_nil (fun _ => rfl)) (fun Q R h => ⟨_, rfl, ox, h⟩) (mem_of 4 rfl) (fun _ => rfl) (fun _ => rfl)) (fun _ _ => rfl))) (fun hn => W_or (u := inL ns x) (v := !aheadB xs j) ?in_ (fun _ => W_or1 ?le)))) ?eq) (fun hb => S_seq (S_ret (E_lstD (D_cons (E_var S 4 rfl rfl rfl) D_nil (fun _ => rfl)) rfl) ⟨?bad, Nat.le_of_ble_eq_true rfl⟩)) (fun hb => S_nil (S_nil ⟨fun i hi => ?good, _, rfl⟩)))
          case in_ =>
            have hn : nameB x = true := by cases z : nameB x <;> rw [z] at hn <;> first | rfl | cases hn
            obtain ⟨y, rfl⟩ := nameB_eq hn
            exact (T_cmp (E_ix (E_var S 0 rfl rfl rfl) (E_var S 4 rfl rfl rfl) (.d _) (.d _) (i_seq rfl (atI_at hx)) (fun _ _ => rfl)) (E_var S 3 rfl rfl rfl) (.d _) (.d _) (o_inS rfl) rfl)
          case le =>
            have hn : nameB x = true := by cases z : nameB x <;> rw [z] at hn <;> first | rfl | cases hn
            refine T_is (T_w (W_and (v := !ltD (xs.getD (j - 1) .non) x) (T_cmp (E_var S 4 rfl rfl rfl) E_int (.d _) (.d _) o_gt rfl) (fun h0 => W_and1 ?_))) ?_
            · have h0 : ((j : Nat) : Int) > 0 := of_decide_eq_true h0
              have cm : Cmp x (xs.getD (j - 1) .non) := by
                obtain ⟨a, rfl⟩ := nameB_eq hn
                obtain ⟨b, eb⟩ := nameB_eq (and2 (hp (j - 1) (by omega))).1
                rw [eb]
                exact cmpS
              exact (T_cmp (E_ix (E_var S 0 rfl rfl rfl) (E_var S 4 rfl rfl rfl) (.d _) (.d _) (i_seq rfl (atI_at hx)) (fun _ _ => rfl)) (E_ix (E_var S 0 rfl rfl rfl) (E_op (E_var S 4 rfl rfl rfl) E_int (.d _) (.d _) o_sub) (.d _) (.d _) (i_seq rfl (atI_prev (by omega) hj2)) (fun _ _ => rfl)) (.d _) (.d _) (o_leD cm) rfl)
            · rw [aheadB_not hj2, getD_of hx]
          case eq =>
            rw [pPers_at hx]
            cases nameB x <;> cases inL ns x <;> cases aheadB xs j <;> rfl
          case bad =>
            have hb : pPers ns xs j = false := by cases z : pPers ns xs j <;> rw [z] at hb <;> first | rfl | cases hb
            rw [fwN_some hj2 hp hb] at hQ
            exact hQ
          case good =>
            have hb : pPers ns xs j = true := by cases z : pPers ns xs j <;> rw [z] at hb <;> first | rfl | cases hb
            rcases Nat.lt_succ_iff_lt_or_eq.mp hi with h | h
            · exact hp i h
            · rw [h]; exact hb
        case fin =>
          obtain ⟨hp, e, rfl⟩ := hI
          have hl : (rangeD 0 (xs.length : Int).toNat).length = xs.length := by unfold rangeD; simp
          rw [hl] at hp
          rw [fwN_none hp] at hQ
          exact S_seq (S_ret (E_lstD D_nil rfl) ⟨hQ, Nat.le_of_ble_eq_true rfl⟩)
end
end K03

set_option Elab.async false
set_option maxRecDepth 100000
set_option maxHeartbeats 4000000
namespace K03
open PySem PySem.Spec PyProof.Rows L2 Fw
theorem nn {b : Bool} (h : (!b) = true) : b = false := by cases b <;> first | rfl | cases h
theorem nt {b : Bool} (h : (!b) = false) : b = true := by cases b <;> first | rfl | cases h
theorem pDoor_at {ns : List Str} {xs : List D} {j : Nat} {x : D} (h : xs[j]? = some x) : pDoor ns xs j = (doorB ns x && aheadB xs j) := by
  unfold pDoor
  rw [getD_of h]
theorem tupOf_at {ds : List D} {n : Nat} (h : ds.length = n) : tupOf (.tup ds) n = true := by
  show (true && decide ((ds.length : Int) = n)) = true
  rw [h]
  simp
theorem tupOf_ne {ds : List D} {n : Nat} (h : ds.length ≠ n) : tupOf (.tup ds) n = false := by
  show (true && decide ((ds.length : Int) = n)) = false
  rw [Bool.true_and, decide_eq_false]
  omega
section
variable {Z : Zd} {A : Str → Addr} {fC : Addr} (B : B03 Z A fC)
def sp__law_wrong_doors : SpD := fun ds Q _ => ∃ (v : D) (ns : List Str), ds = [v, .tup (ns.map D.str)] ∧ okB v = true ∧ Q (.d (wnD (vDoors ns v)))
theorem sc60 : FnScope ["value", "rooms", "k", "row", "room"] ["value", "rooms"] (defScope (top 60)) := ⟨rfl, rfl, rfl, by decide +kernel, rfl, by decide +kernel, by decide +kernel⟩
include B in
theorem kn__law_wrong_doors {f : Addr} {fd : FuncData} (F : FunD Z.K "_law_wrong_doors" "_law_wrong_doors" (defArgs (top 60)) (defBody (top 60)) (defScope (top 60)) [] [] f fd)  : FnK Z.P Z.w Z.K Z.mg Z.base (L2.CX Z.P Z.w) 1 f fd ["value", "rooms"] (SpP Z sp__law_wrong_doors) := by
  refine kn_ofP F sc60 (fun ds Q R h => ?_) (by decide) (mkr := none) (fun _ z => nomatch z) fun E ds Q R h => ?_
  · obtain ⟨v, ns, rfl, hv, hQ⟩ := h; rfl
  · obtain ⟨v, ns, rfl, hv, hQ⟩ := h
    have S : ScOk ⟨Z, ["value", "rooms", "k", "row", "room"], defScope (top 60), fun _ => true, 0, E, fun _ _ => False, none⟩ [0, 1, 2, 3] [2, 3] ["isinstance", "tuple", "len", "range", "all"] := scOk_of sc60.nd rfl (by kernel_rfl)
    unfold vDoors at hQ
    cases ht : tupB v with
    | false =>
      have e : rowB v 0 10 = false := by unfold rowB; rw [ht]; rfl
      rw [e] at hQ
      exact S_seq (S_ifT (T_w (W_or (v := true) (T_not (T_is (T_val (E_cb S (A_cons (E_var S 0 rfl rfl rfl) (A_cons (E_ty S (mem_of 1 rfl) (B.fr "tuple" (mem_of 15 rfl)) rfl) A_nil (fun _ => rfl)) (fun _ => rfl)) (.cons (.d _) (.cons (.d _) .nil)) (b_isK k_tup (okB_ty hv)) (mem_of 0 rfl) (B.fr "isinstance" (mem_of 6 rfl)) rfl (fun _ => rfl) (fun _ => rfl)) (fun _ _ => rfl)) ht)) (fun z => nomatch z))) rfl (S_seq (S_ret (E_lstD (D_cons E_non D_nil (fun _ => rfl)) rfl) ⟨hQ, Nat.le_of_ble_eq_true rfl⟩)))
    | true =>
      obtain ⟨xs, rfl, hd⟩ := tupB_eq hv ht
      cases hr : decide ((10 : Int) < (xs.length : Int)) with
      | true =>
        have e : rowB (.tup xs) 0 10 = false := by
          have := of_decide_eq_true hr
          show (true && (_ && decide ((xs.length : Int) ≤ 10))) = false
          rw [decide_eq_false (by omega : ¬ (xs.length : Int) ≤ 10), Bool.and_false, Bool.and_false]
        rw [e] at hQ
        exact S_seq (S_ifT (T_w (W_or (T_not (T_is (T_val (E_cb S (A_cons (E_var S 0 rfl rfl rfl) (A_cons (E_ty S (mem_of 1 rfl) (B.fr "tuple" (mem_of 15 rfl)) rfl) A_nil (fun _ => rfl)) (fun _ => rfl)) (.cons (.d _) (.cons (.d _) .nil)) (b_isK k_tup (okB_ty hv)) (mem_of 0 rfl) (B.fr "isinstance" (mem_of 6 rfl)) rfl (fun _ => rfl) (fun _ => rfl)) (fun _ _ => rfl)) ht)) (fun _ => W_or1 (T_is (T_cmp (E_cb S (A_cons (E_var S 0 rfl rfl rfl) A_nil (fun _ => rfl)) (.cons (.d _) .nil) (b_len rfl) (mem_of 2 rfl) (B.fr "len" (mem_of 7 rfl)) rfl (fun _ => rfl) (fun _ => rfl)) E_int (.d _) (.d _) o_gt rfl) hr)))) rfl (S_seq (S_ret (E_lstD (D_cons E_non D_nil (fun _ => rfl)) rfl) ⟨hQ, Nat.le_of_ble_eq_true rfl⟩)))
      | false =>
        have hxl := of_decide_eq_false hr
        have e : rowB (.tup xs) 0 10 = true := by
          show (true && (decide ((0 : Int) ≤ xs.length) && decide ((xs.length : Int) ≤ 10))) = true
          rw [decide_eq_true (by omega : (0 : Int) ≤ xs.length), decide_eq_true (by omega : (xs.length : Int) ≤ 10)]
          rfl
        rw [e] at hQ
        have hQ : Q (.d (wnD ((fwN (pDoor ns xs) xs.length).map fun j => D.int (j : Nat)))) := hQ
        refine S_seq (S_ifF (T_w (W_or (T_not (T_is (T_val (E_cb S (A_cons (E_var S 0 rfl rfl rfl) (A_cons (E_ty S (mem_of 1 rfl) (B.fr "tuple" (mem_of 15 rfl)) rfl) A_nil (fun _ => rfl)) (fun _ => rfl)) (.cons (.d _) (.cons (.d _) .nil)) (b_isK k_tup (okB_ty hv)) (mem_of 0 rfl) (B.fr "isinstance" (mem_of 6 rfl)) rfl (fun _ => rfl) (fun _ => rfl)) (fun _ _ => rfl)) ht)) (fun _ => W_or1 (T_is (T_cmp (E_cb S (A_cons (E_var S 0 rfl rfl rfl) A_nil (fun _ => rfl)) (.cons (.d _) .nil) (b_len rfl) (mem_of 2 rfl) (B.fr "len" (mem_of 7 rfl)) rfl (fun _ => rfl) (fun _ => rfl)) E_int (.d _) (.d _) o_gt rfl) hr)))) rfl (S_nil ?_))
        let ρ0 : Env' := [.d (.tup xs), .d (.tup (ns.map D.str)), .un, .un, .un]
        refine S_seq (S_for (ρ1 := ρ0) (vs := [2]) (ds := rangeD 0 (xs.length : Int).toNat) (fun j ρ => (∀ i, i < j → pDoor ns xs i = true) ∧ ∃ e1 e2, ρ = [.d (.tup xs), .d (.tup (ns.map D.str)), e1, e2, .un]) (I_range1 S (E_cb S (A_cons (E_var S 0 rfl rfl rfl) A_nil (fun _ => rfl)) (.cons (.d _) .nil) (b_len rfl) (mem_of 2 rfl) (B.fr "len" (mem_of 7 rfl)) rfl (fun _ => rfl) (fun _ => rfl)) (mem_of 3 rfl) (B.fr "range" (mem_of 11 rfl)) ⟨by omega, by omega⟩ (fun _ => rfl)) ⟨fun i hi => absurd hi (Nat.not_lt_zero i), .un, .un, rfl⟩ (fun j d ρ hj hI => ?turn) (fun ρ hI => ?fin) (fun _ _ => rfl))
        case turn =>
          obtain ⟨hp, e1, e2, rfl⟩ := hI
          obtain ⟨hj2, rfl⟩ := rangeD_at0 hj
          have hj2 : j < xs.length := by omega
          obtain ⟨x, hx⟩ : ∃ x, xs[j]? = some x := ⟨_, List.getElem?_eq_getElem hj2⟩
          have ox := okB_at hd hx
          refine ⟨_, G_name S 2 rfl rfl rfl, ?_⟩
          refine S_seq (S_asg (vs := [3]) (E_ix (E_var S 0 rfl rfl rfl) (E_var S 2 rfl rfl rfl) (.d _) (.d _) (i_seq rfl (atI_at hx)) (fun _ _ => rfl)) (G_name S 3 rfl rfl rfl) ?_ (fun _ _ => rfl) (fun _ _ => rfl) (fun _ => rfl))
          have bad : pDoor ns xs j = false → Q (.d (.lst [.int (j : Nat)])) := fun hb => by
            rw [fwN_some hj2 hp hb] at hQ
            exact hQ
          cases htx : tupB x with
          | false =>
            refine S_seq (S_ifT (T_w (W_or (v := true) (T_not (T_is (T_val (E_cb S (A_cons (E_var S 3 rfl rfl rfl) (A_cons (E_ty S (mem_of 1 rfl) (B.fr "tuple" (mem_of 15 rfl)) rfl) A_nil (fun _ => rfl)) (fun _ => rfl)) (.cons (.d _) (.cons (.d _) .nil)) (b_isK k_tup (okB_ty ox)) (mem_of 0 rfl) (B.fr "isinstance" (mem_of 6 rfl)) rfl (fun _ => rfl) (fun _ => rfl)) (fun _ _ => rfl)) htx)) (fun z => nomatch z))) rfl (S_seq (S_ret (E_lstD (D_cons (E_var S 2 rfl rfl rfl) D_nil (fun _ => rfl)) rfl) ⟨bad ?_, Nat.le_of_ble_eq_true rfl⟩)))
            rw [pDoor_at hx]
            unfold doorB tupOf
            rw [htx]
            rfl
          | true =>
            obtain ⟨ys, rfl, hys⟩ := tupB_eq ox htx
            cases hl : decide ((ys.length : Int) = 2) with
            | false =>
              have hl2 := of_decide_eq_false hl
              refine S_seq (S_ifT (T_w (W_or (T_not (T_is (T_val (E_cb S (A_cons (E_var S 3 rfl rfl rfl) (A_cons (E_ty S (mem_of 1 rfl) (B.fr "tuple" (mem_of 15 rfl)) rfl) A_nil (fun _ => rfl)) (fun _ => rfl)) (.cons (.d _) (.cons (.d _) .nil)) (b_isK k_tup (okB_ty ox)) (mem_of 0 rfl) (B.fr "isinstance" (mem_of 6 rfl)) rfl (fun _ => rfl) (fun _ => rfl)) (fun _ _ => rfl)) htx)) (fun _ => W_or1 (T_is (b' := true) (T_cmp (E_cb S (A_cons (E_var S 3 rfl rfl rfl) A_nil (fun _ => rfl)) (.cons (.d _) .nil) (b_len rfl) (mem_of 2 rfl) (B.fr "len" (mem_of 7 rfl)) rfl (fun _ => rfl) (fun _ => rfl)) E_int (.d _) (.d _) o_neI rfl) (by rw [hl]; rfl))))) rfl (S_seq (S_ret (E_lstD (D_cons (E_var S 2 rfl rfl rfl) D_nil (fun _ => rfl)) rfl) ⟨bad ?_, Nat.le_of_ble_eq_true rfl⟩)))
              rw [pDoor_at hx]
              unfold doorB
              rw [show tupOf (.tup ys) 2 = false from tupOf_ne (n := 2) (by omega)]
              rfl
            | true =>
              have hl2 : ys.length = 2 := by have := of_decide_eq_true hl; omega
              refine S_seq (S_ifF (T_w (W_or (T_not (T_is (T_val (E_cb S (A_cons (E_var S 3 rfl rfl rfl) (A_cons (E_ty S (mem_of 1 rfl) (B.fr "tuple" (mem_of 15 rfl)) rfl) A_nil (fun _ => rfl)) (fun _ => rfl)) (.cons (.d _) (.cons (.d _) .nil)) (b_isK k_tup (okB_ty ox)) (mem_of 0 rfl) (B.fr "isinstance" (mem_of 6 rfl)) rfl (fun _ => rfl) (fun _ => rfl)) (fun _ _ => rfl)) htx)) (fun _ => W_or1 (T_is (b' := false) (T_cmp (E_cb S (A_cons (E_var S 3 rfl rfl rfl) A_nil (fun _ => rfl)) (.cons (.d _) .nil) (b_len rfl) (mem_of 2 rfl) (B.fr "len" (mem_of 7 rfl)) rfl (fun _ => rfl) (fun _ => rfl)) E_int (.d _) (.d _) o_neI rfl) (by rw [hl]; rfl))))) rfl (S_nil ?_))
              refine S_seq (S_if (T_not (T_val (E_cb S (A_cons (show EvX _ _ _ _ [Ent.d (.tup xs), .d (.tup (ns.map D.str)), .d (.int (j : Nat)), .d (.tup ys), .un] from ?lc) A_nil (fun _ => rfl)) (.cons (.d _) .nil) (b_allM (ds := ys) (p := oneB ns)) (mem_of 4 rfl) (B.fr "all" (mem_of 2 rfl)) rfl (fun _ => rfl) (fun _ => rfl)) (fun _ _ => rfl))) (fun hb => S_seq (S_ret (E_lstD (D_cons (E_var S 2 rfl rfl rfl) D_nil (fun _ => rfl)) rfl) ⟨bad ?b1, Nat.le_of_ble_eq_true rfl⟩)) (fun hb => S_nil ?rest))
              case lc =>
                refine E_lcA 4 [1, 4] ["isinstance", "str"] (ds := ys) (fun d => .bl (oneB ns d)) sc60.nd rfl rfl rfl ⟨rfl, by (dsimp only; decide +kernel), by (dsimp only; decide +kernel), by (dsimp only; decide +kernel), by (dsimp only; decide +kernel)⟩ (scOk_of sc60.nd rfl (by kernel_rfl)) (I_tup (E_var S 3 rfl rfl rfl)) rfl (fun S' i y hy => ?t) (by omega) rfl (fun _ _ => rfl)
                case t =>
                  have oy := okB_at hys hy
                  refine E_and (u := strB y) (v := inL ns y) (E_cb S' (A_cons (E_var S' 4 rfl rfl rfl) (A_cons (E_ty S' (mem_of 1 rfl) (B.fr "str" (mem_of 14 rfl)) rfl) A_nil (fun _ => rfl)) (fun _ => rfl)) (.cons (.d _) (.cons (.d _) .nil)) (b_isK k_str (okB_ty oy)) (mem_of 0 rfl) (B.fr "isinstance" (mem_of 6 rfl)) rfl (fun _ => rfl) (fun _ => rfl)) (fun hs => E_one ?_)
                  obtain ⟨z, rfl⟩ := strB_eq hs
                  exact E_cmp (E_var S' 4 rfl rfl rfl) (E_var S' 1 rfl rfl rfl) (.d _) (.d _) (o_inS rfl) rfl
              case b1 =>
                rw [pDoor_at hx]
                unfold doorB
                show ((_ && (ys.all (oneB ns) && _)) && _) = false
                rw [nn hb]
                simp
              case rest =>
                have hb := nt hb
                match ys, hl2 with
                | [a, b], _ =>
                  have hb2 := hb
                  simp only [List.all_cons, List.all_nil, Bool.and_true, Bool.and_eq_true] at hb2
                  obtain ⟨sa, rfl, _⟩ := oneB_eq hb2.1
                  obtain ⟨sb, rfl, _⟩ := oneB_eq hb2.2
                  have dB : doorB ns (.tup [.str sa, .str sb]) = ltD (.str sa) (.str sb) := by
                    unfold doorB
                    rw [show tupOf (.tup [.str sa, .str sb]) 2 = true from tupOf_at (n := 2) rfl]
                    show (true && ([D.str sa, D.str sb].all (oneB ns) && ltD (.str sa) (.str sb))) = _
                    rw [hb]
                    rfl
                  refine S_seq (S_if (t := !pDoor ns xs j) (T_is (T_w (W_or (u := !ltD (.str sa) (.str sb)) (v := !aheadB xs j) (T_cmp (E_ix (E_var S 3 rfl rfl rfl) E_int (.d _) (.d _) (i_seq rfl rfl) (fun _ _ => rfl)) (E_ix (E_var S 3 rfl rfl rfl) E_int (.d _) (.d _) (i_seq rfl rfl) (fun _ _ => rfl)) (.d _) (.d _) (o_geD cmpS) rfl) (fun hn => W_or1 ?le))) ?eq) (fun hb => S_seq (S_ret (E_lstD (D_cons (E_var S 2 rfl rfl rfl) D_nil (fun _ => rfl)) rfl) ⟨bad (nn hb), Nat.le_of_ble_eq_true rfl⟩)) (fun hb => S_nil (S_nil ⟨fun i hi => ?good, _, _, rfl⟩)))
                  case le =>
                    refine T_is (T_w (W_and (v := !ltD (xs.getD (j - 1) .non) (.tup [.str sa, .str sb])) (T_cmp (E_var S 2 rfl rfl rfl) E_int (.d _) (.d _) o_gt rfl) (fun h0 => W_and1 ?_))) ?_
                    · have h0 : ((j : Nat) : Int) > 0 := of_decide_eq_true h0
                      have cm : Cmp (.tup [.str sa, .str sb]) (xs.getD (j - 1) .non) := by
                        obtain ⟨a2, b2, eb⟩ := doorB_eq (okB_getD hd _) (and2 (hp (j - 1) (by omega))).1
                        rw [eb]
                        exact cmpP
                      exact (T_cmp (E_var S 3 rfl rfl rfl) (E_ix (E_var S 0 rfl rfl rfl) (E_op (E_var S 2 rfl rfl rfl) E_int (.d _) (.d _) o_sub) (.d _) (.d _) (i_seq rfl (atI_prev (by omega) hj2)) (fun _ _ => rfl)) (.d _) (.d _) (o_leD cm) rfl)
                    · rw [aheadB_not hj2, getD_of hx]
                  case eq =>
                    rw [pDoor_at hx, dB]
                    cases ltD (.str sa) (.str sb) <;> cases aheadB xs j <;> rfl
                  case good =>
                    have hb := nt hb
                    rcases Nat.lt_succ_iff_lt_or_eq.mp hi with h | h
                    · exact hp i h
                    · rw [h]; exact hb
        case fin =>
          obtain ⟨hp, e1, e2, rfl⟩ := hI
          have hl : (rangeD 0 (xs.length : Int).toNat).length = xs.length := by unfold rangeD; simp
          rw [hl] at hp
          rw [fwN_none hp] at hQ
          exact S_seq (S_ret (E_lstD D_nil rfl) ⟨hQ, Nat.le_of_ble_eq_true rfl⟩)
def sp__law_is_notice : SpD := fun ds Q _ => ∃ (v : D) (rs : List Str) (last : Int), ds = [v, .tup (rs.map D.str), .int last] ∧ okB v = true ∧ Q (.d (.bl (isNot rs last v)))
theorem isNot_ne {rs : List Str} {last : Int} {ds : List D} (h : ds.length ≠ 3) : isNot rs last (.tup ds) = false := by
  unfold isNot notR
  simp only [tupB, itemsOf, Bool.true_and]
  split
  · simp at h
  · rfl
theorem isSig_ne {rs ps : List Str} {last : Int} {ds : List D} (h : ds.length ≠ 4) : isSig rs ps last (.tup ds) = false := by
  unfold isSig sigB
  simp only [tupB, itemsOf, Bool.true_and]
  split
  · simp at h
  · rfl
theorem sc62 : FnScope ["row", "rooms", "last"] ["row", "rooms", "last"] (defScope (top 62)) := ⟨rfl, rfl, rfl, by decide +kernel, rfl, by decide +kernel, by decide +kernel⟩
include B in
theorem kn__law_is_notice {f : Addr} {fd : FuncData} (F : FunD Z.K "_law_is_notice" "_law_is_notice" (defArgs (top 62)) (defBody (top 62)) (defScope (top 62)) [] [] f fd) (k__law_is_number : Kn Z 1 "_law_is_number" (SpP Z sp__law_is_number)) : FnK Z.P Z.w Z.K Z.mg Z.base (L2.CX Z.P Z.w) 2 f fd ["row", "rooms", "last"] (SpP Z sp__law_is_notice) := by
  refine kn_ofP F sc62 (fun ds Q R h => ?_) (by decide) (mkr := none) (fun _ z => nomatch z) fun E ds Q R h => ?_
  · obtain ⟨v, rs, last, rfl, hv, hQ⟩ := h; rfl
  · obtain ⟨v, rs, last, rfl, hv, hQ⟩ := h
    have S : ScOk ⟨Z, ["row", "rooms", "last"], defScope (top 62), fun _ => true, 1, E, fun _ _ => False, none⟩ [0, 1, 2] [] ["isinstance", "tuple", "len", "_law_is_number", "str"] := scOk_of sc62.nd rfl (by kernel_rfl)
    cases ht : tupB v with
    | false =>
      have e : isNot rs last v = false := by unfold isNot; rw [ht]; rfl
      rw [e] at hQ
      exact S_seq (S_ifT (T_w (W_or (v := true) (T_not (T_is (T_val (E_cb S (A_cons (E_var S 0 rfl rfl rfl) (A_cons (E_ty S (mem_of 1 rfl) (B.fr "tuple" (mem_of 15 rfl)) rfl) A_nil (fun _ => rfl)) (fun _ => rfl)) (.cons (.d _) (.cons (.d _) .nil)) (b_isK k_tup (okB_ty hv)) (mem_of 0 rfl) (B.fr "isinstance" (mem_of 6 rfl)) rfl (fun _ => rfl) (fun _ => rfl)) (fun _ _ => rfl)) ht)) (fun z => nomatch z))) rfl (S_seq (S_ret E_bl ⟨hQ, Nat.le_of_ble_eq_true rfl⟩)))
    | true =>
      obtain ⟨ds, rfl, hd⟩ := tupB_eq hv ht
      cases hl : decide ((ds.length : Int) = 3) with
      | false =>
        have hl2 := of_decide_eq_false hl
        rw [isNot_ne (by omega)] at hQ
        exact S_seq (S_ifT (T_w (W_or (v := true) (T_not (T_is (T_val (E_cb S (A_cons (E_var S 0 rfl rfl rfl) (A_cons (E_ty S (mem_of 1 rfl) (B.fr "tuple" (mem_of 15 rfl)) rfl) A_nil (fun _ => rfl)) (fun _ => rfl)) (.cons (.d _) (.cons (.d _) .nil)) (b_isK k_tup (okB_ty hv)) (mem_of 0 rfl) (B.fr "isinstance" (mem_of 6 rfl)) rfl (fun _ => rfl) (fun _ => rfl)) (fun _ _ => rfl)) ht)) (fun _ => W_or (v := true) (T_is (b' := true) (T_cmp (E_cb S (A_cons (E_var S 0 rfl rfl rfl) A_nil (fun _ => rfl)) (.cons (.d _) .nil) (b_len rfl) (mem_of 2 rfl) (B.fr "len" (mem_of 7 rfl)) rfl (fun _ => rfl) (fun _ => rfl)) E_int (.d _) (.d _) o_neI rfl) (by rw [hl]; rfl)) (fun z => nomatch z)))) rfl (S_seq (S_ret E_bl ⟨hQ, Nat.le_of_ble_eq_true rfl⟩)))
      | true =>
        have hl2 : ds.length = 3 := by have := of_decide_eq_true hl; omega
        match ds, hl2 with
        | [b, x, y], _ =>
          have ob : okB b = true := okB_at (i := 0) hd rfl
          have ox : okB x = true := okB_at (i := 1) hd rfl
          have oy : okB y = true := okB_at (i := 2) hd rfl
          have e : isNot rs last (.tup [b, x, y]) = (betB b 0 last && ((strB x && inL rs x) && betB y 1 9)) := rfl
          rw [e] at hQ
          refine S_seq (S_if (T_w (W_or (T_not (T_val (E_cb S (A_cons (E_var S 0 rfl rfl rfl) (A_cons (E_ty S (mem_of 1 rfl) (B.fr "tuple" (mem_of 15 rfl)) rfl) A_nil (fun _ => rfl)) (fun _ => rfl)) (.cons (.d _) (.cons (.d _) .nil)) (b_isK k_tup (okB_ty hv)) (mem_of 0 rfl) (B.fr "isinstance" (mem_of 6 rfl)) rfl (fun _ => rfl) (fun _ => rfl)) (fun _ _ => rfl))) (fun _ => (W_or (T_cmp (E_cb S (A_cons (E_var S 0 rfl rfl rfl) A_nil (fun _ => rfl)) (.cons (.d _) .nil) (b_len rfl) (mem_of 2 rfl) (B.fr "len" (mem_of 7 rfl)) rfl (fun _ => rfl) (fun _ => rfl)) E_int (.d _) (.d _) o_neI rfl) (fun _ => (W_or1 (T_not (T_val (E_call S k__law_is_number (Nat.le_of_ble_eq_true rfl) (D_cons (E_ix (E_var S 0 rfl rfl rfl) E_int (.d _) (.d _) (i_seq rfl rfl) (fun _ _ => rfl)) (D_cons E_int (D_cons (E_var S 2 rfl rfl rfl) D_nil (fun _ => rfl)) (fun _ => rfl)) (fun _ => rfl)) (fun Q R h => ⟨_, _, _, rfl, ob, h⟩) (mem_of 3 rfl) (fun _ => rfl) (fun _ => rfl)) (fun _ _ => rfl))))))))) (fun hb => S_seq (S_ret E_bl ⟨?_, Nat.le_of_ble_eq_true rfl⟩)) (fun hb => S_nil (S_seq (S_ret (E_and (u := strB x) (v := inL rs x && betB y 1 9) (E_cb S (A_cons (E_ix (E_var S 0 rfl rfl rfl) E_int (.d _) (.d _) (i_seq rfl rfl) (fun _ _ => rfl)) (A_cons (E_ty S (mem_of 4 rfl) (B.fr "str" (mem_of 14 rfl)) rfl) A_nil (fun _ => rfl)) (fun _ => rfl)) (.cons (.d _) (.cons (.d _) .nil)) (b_isK k_str (okB_ty ox)) (mem_of 0 rfl) (B.fr "isinstance" (mem_of 6 rfl)) rfl (fun _ => rfl) (fun _ => rfl)) (fun hs => E_and (u := inL rs x) (v := betB y 1 9) ?in_ (fun _ => E_one (E_call S k__law_is_number (Nat.le_of_ble_eq_true rfl) (D_cons (E_ix (E_var S 0 rfl rfl rfl) E_int (.d _) (.d _) (i_seq rfl rfl) (fun _ _ => rfl)) (D_cons E_int (D_cons E_int D_nil (fun _ => rfl)) (fun _ => rfl)) (fun _ => rfl)) (fun Q R h => ⟨_, _, _, rfl, oy, h⟩) (mem_of 3 rfl) (fun _ => rfl) (fun _ => rfl))))) ⟨?_, Nat.le_of_ble_eq_true rfl⟩))))
          · have hb : (!betB b 0 last) = true := hb
            rw [nn hb] at hQ
            exact hQ
          case in_ =>
            obtain ⟨z, rfl⟩ := strB_eq hs
            exact (E_cmp (E_ix (E_var S 0 rfl rfl rfl) E_int (.d _) (.d _) (i_seq rfl rfl) (fun _ _ => rfl)) (E_var S 1 rfl rfl rfl) (.d _) (.d _) (o_inS rfl) rfl)
          · have hb : (!betB b 0 last) = false := hb
            rw [nt hb, Bool.true_and, Bool.and_assoc] at hQ
            exact hQ
def sp__law_is_sighting : SpD := fun ds Q _ => ∃ (v : D) (rs ps : List Str) (last : Int), ds = [v, .tup (rs.map D.str), .tup (ps.map D.str), .int last] ∧ okB v = true ∧ Q (.d (.bl (isSig rs ps last v)))
theorem sc61 : FnScope ["row", "rooms", "people", "last"] ["row", "rooms", "people", "last"] (defScope (top 61)) := ⟨rfl, rfl, rfl, by decide +kernel, rfl, by decide +kernel, by decide +kernel⟩
include B in
theorem kn__law_is_sighting {f : Addr} {fd : FuncData} (F : FunD Z.K "_law_is_sighting" "_law_is_sighting" (defArgs (top 61)) (defBody (top 61)) (defScope (top 61)) [] [] f fd) (k__law_is_notice : Kn Z 2 "_law_is_notice" (SpP Z sp__law_is_notice)) : FnK Z.P Z.w Z.K Z.mg Z.base (L2.CX Z.P Z.w) 3 f fd ["row", "rooms", "people", "last"] (SpP Z sp__law_is_sighting) := by
  refine kn_ofP F sc61 (fun ds Q R h => ?_) (by decide) (mkr := none) (fun _ z => nomatch z) fun E ds Q R h => ?_
  · obtain ⟨v, rs, ps, last, rfl, hv, hQ⟩ := h; rfl
  · obtain ⟨v, rs, ps, last, rfl, hv, hQ⟩ := h
    have S : ScOk ⟨Z, ["row", "rooms", "people", "last"], defScope (top 61), fun _ => true, 2, E, fun _ _ => False, none⟩ [0, 1, 2, 3] [] ["isinstance", "tuple", "len", "str", "_law_is_notice"] := scOk_of sc61.nd rfl (by kernel_rfl)
    cases ht : tupB v with
    | false =>
      have e : isSig rs ps last v = false := by unfold isSig; rw [ht]; rfl
      rw [e] at hQ
      exact S_seq (S_ifT (T_w (W_or (v := true) (T_not (T_is (T_val (E_cb S (A_cons (E_var S 0 rfl rfl rfl) (A_cons (E_ty S (mem_of 1 rfl) (B.fr "tuple" (mem_of 15 rfl)) rfl) A_nil (fun _ => rfl)) (fun _ => rfl)) (.cons (.d _) (.cons (.d _) .nil)) (b_isK k_tup (okB_ty hv)) (mem_of 0 rfl) (B.fr "isinstance" (mem_of 6 rfl)) rfl (fun _ => rfl) (fun _ => rfl)) (fun _ _ => rfl)) ht)) (fun z => nomatch z))) rfl (S_seq (S_ret E_bl ⟨hQ, Nat.le_of_ble_eq_true rfl⟩)))
    | true =>
      obtain ⟨ds, rfl, hd⟩ := tupB_eq hv ht
      cases hl : decide ((ds.length : Int) = 4) with
      | false =>
        have hl2 := of_decide_eq_false hl
        rw [isSig_ne (by omega)] at hQ
        exact S_seq (S_ifT (T_w (W_or (v := true) (T_not (T_is (T_val (E_cb S (A_cons (E_var S 0 rfl rfl rfl) (A_cons (E_ty S (mem_of 1 rfl) (B.fr "tuple" (mem_of 15 rfl)) rfl) A_nil (fun _ => rfl)) (fun _ => rfl)) (.cons (.d _) (.cons (.d _) .nil)) (b_isK k_tup (okB_ty hv)) (mem_of 0 rfl) (B.fr "isinstance" (mem_of 6 rfl)) rfl (fun _ => rfl) (fun _ => rfl)) (fun _ _ => rfl)) ht)) (fun _ => W_or (v := true) (T_is (b' := true) (T_cmp (E_cb S (A_cons (E_var S 0 rfl rfl rfl) A_nil (fun _ => rfl)) (.cons (.d _) .nil) (b_len rfl) (mem_of 2 rfl) (B.fr "len" (mem_of 7 rfl)) rfl (fun _ => rfl) (fun _ => rfl)) E_int (.d _) (.d _) o_neI rfl) (by rw [hl]; rfl)) (fun z => nomatch z)))) rfl (S_seq (S_ret E_bl ⟨hQ, Nat.le_of_ble_eq_true rfl⟩)))
      | true =>
        have hl2 : ds.length = 4 := by have := of_decide_eq_true hl; omega
        match ds, hl2 with
        | [a, b, x, y], _ =>
          have oa : okB a = true := okB_at (i := 0) hd rfl
          have o3 : okB (.tup [b, x, y]) = true := okBs_iff.mpr fun d hx => okBs_iff.mp hd d (List.mem_cons_of_mem _ hx)
          have e : isSig rs ps last (.tup [a, b, x, y]) = ((strB a && inL ps a) && isNot rs last (.tup [b, x, y])) := by
            show (((strB a && inL ps a) && betB b 0 last) && (oneB rs x && betB y 1 9)) = ((strB a && inL ps a) && (betB b 0 last && (oneB rs x && betB y 1 9)))
            rw [Bool.and_assoc (strB a && inL ps a)]
          rw [e] at hQ
          refine S_seq (S_if (t := !(strB a && inL ps a)) (T_is (T_w (W_or (T_not (T_is (T_val (E_cb S (A_cons (E_var S 0 rfl rfl rfl) (A_cons (E_ty S (mem_of 1 rfl) (B.fr "tuple" (mem_of 15 rfl)) rfl) A_nil (fun _ => rfl)) (fun _ => rfl)) (.cons (.d _) (.cons (.d _) .nil)) (b_isK k_tup (okB_ty hv)) (mem_of 0 rfl) (B.fr "isinstance" (mem_of 6 rfl)) rfl (fun _ => rfl) (fun _ => rfl)) (fun _ _ => rfl)) ht)) (fun _ => W_or (T_is (b' := false) (T_cmp (E_cb S (A_cons (E_var S 0 rfl rfl rfl) A_nil (fun _ => rfl)) (.cons (.d _) .nil) (b_len rfl) (mem_of 2 rfl) (B.fr "len" (mem_of 7 rfl)) rfl (fun _ => rfl) (fun _ => rfl)) E_int (.d _) (.d _) o_neI rfl) (by rw [hl]; rfl)) (fun _ => W_or (u := !strB a) (v := !inL ps a) (T_not (T_val (E_cb S (A_cons (E_ix (E_var S 0 rfl rfl rfl) E_int (.d _) (.d _) (i_seq rfl rfl) (fun _ _ => rfl)) (A_cons (E_ty S (mem_of 3 rfl) (B.fr "str" (mem_of 14 rfl)) rfl) A_nil (fun _ => rfl)) (fun _ => rfl)) (.cons (.d _) (.cons (.d _) .nil)) (b_isK k_str (okB_ty oa)) (mem_of 0 rfl) (B.fr "isinstance" (mem_of 6 rfl)) rfl (fun _ => rfl) (fun _ => rfl)) (fun _ _ => rfl))) (fun hs => W_or1 ?in_))))) ?eq) (fun hb => S_seq (S_ret E_bl ⟨?_, Nat.le_of_ble_eq_true rfl⟩)) (fun hb => S_nil (S_seq (S_ret (E_call S k__law_is_notice (Nat.le_of_ble_eq_true rfl) (D_cons (E_is (E_slice (E_var S 0 rfl rfl rfl) (.yes E_int) .no (.d _) s_tup) (show D.tup (Fw.cutD [a, b, x, y] (some 1) none) = .tup [b, x, y] from rfl)) (D_cons (E_var S 1 rfl rfl rfl) (D_cons (E_var S 3 rfl rfl rfl) D_nil (fun _ => rfl)) (fun _ => rfl)) (fun _ => rfl)) (fun Q R h => ⟨_, _, _, rfl, o3, h⟩) (mem_of 4 rfl) (fun _ => rfl) (fun _ => rfl)) ⟨?_, Nat.le_of_ble_eq_true rfl⟩))))
          case in_ =>
            obtain ⟨z, rfl⟩ := strB_eq (nt hs)
            exact (T_cmp (E_ix (E_var S 0 rfl rfl rfl) E_int (.d _) (.d _) (i_seq rfl rfl) (fun _ _ => rfl)) (E_var S 2 rfl rfl rfl) (.d _) (.d _) (o_notInS rfl) rfl)
          case eq =>
            cases strB a <;> cases inL ps a <;> rfl
          · rw [nn hb] at hQ
            exact hQ
          · rw [nt hb] at hQ
            exact hQ
end
end K03

set_option Elab.async false
set_option maxRecDepth 100000
set_option maxHeartbeats 4000000
namespace K03
open PySem PySem.Spec PyProof.Rows L2 Fw
/-- an index, or None -/
def IxD (d : D) : Prop := d = .non ∨ ∃ j : Nat, j < 17 ∧ d = .int (j : Nat)
theorem rp17 : ∀ j : Fin 17, rpB (.int (j.val : Nat)) = true := by decide +kernel
theorem rp_ix {d : D} (h : IxD d) : Rp d := by
  rcases h with rfl | ⟨j, hj, rfl⟩
  · exact rpB_ok (by decide +kernel)
  · exact rpB_ok (rp17 ⟨j, hj⟩)
theorem fwN_lt {p : Nat → Bool} {n j : Nat} (h : fwN p n = some j) : j < n := by
  unfold fwN at h
  rw [List.find?_range_eq_some] at h
  simpa using h.2.1
theorem vIx_ix {v : D} {lo hi : Int} {p : Nat → Bool} {d : D} (hh : hi ≤ 16) (h : vIx (rowB v lo hi) (fwN p (itemsOf v).length) = some d) : IxD d := by
  unfold vIx at h
  cases hr : rowB v lo hi with
  | false => rw [hr] at h; cases h; exact .inl rfl
  | true =>
    rw [hr] at h
    have h : (fwN p (itemsOf v).length).map (fun j => D.int (j : Nat)) = some d := h
    cases hf : fwN p (itemsOf v).length with
    | none => rw [hf] at h; cases h
    | some j =>
      rw [hf] at h
      cases h
      have := fwN_lt hf
      have := of_decide_eq_true (and2 (and2 hr).2).2
      exact .inr ⟨j, by omega, rfl⟩
theorem shp_ix {d : D} (h : IxD d) : Shp (.lst [d]) := by
  rcases h with rfl | ⟨j, hj, rfl⟩
  · exact ⟨rfl, rfl⟩
  · exact ⟨rfl, rfl⟩
theorem pPers_nil (xs : List D) : pPers [] xs = pRoom xs := by
  funext j
  unfold pPers pRoom
  have : inL [] (xs.getD j .non) = false := by
    unfold inL
    split <;> simp
  rw [this]
  rfl
/-- what Case makes of its parts, by the class's name -/
def verdictN (r d p l b e s n : D) : Option (Str × D) :=
  match vRooms r with
  | some x => some ("InvalidRooms", x)
  | none => match vDoors (strsOf r) d with
    | some x => some ("InvalidDoors", x)
    | none => match vPeople (strsOf r) p with
      | some x => some ("InvalidPeople", x)
      | none => match vLast l with
        | some x => some ("InvalidNumber", x)
        | none => match vEnd (strsOf r) b with
          | some x => some ("UnknownRoom", x)
          | none => match vEnd (strsOf r) e with
            | some x => some ("UnknownRoom", x)
            | none => match vSig (strsOf r) (strsOf p) (intOf l) s with
              | some x => some ("InvalidSightings", x)
              | none => match vNot (strsOf r) (intOf l) n with
                | some x => some ("InvalidNotices", x)
                | none => none
def dueD (w : Option (Str × D)) : D := match w with
  | none => madeD
  | some (x, d) => wrongD (wordOf x) d
theorem verdict_N (A : Str → Addr) (r d p l b e s n : D) : verdict A r d p l b e s n = (verdictN r d p l b e s n).map fun w => (A w.1, [(fldOf w.1, w.2)]) := by
  unfold verdict verdictN
  cases vRooms r with
  | some x => rfl
  | none =>
    cases vDoors (strsOf r) d with
    | some x => rfl
    | none =>
      cases vPeople (strsOf r) p with
      | some x => rfl
      | none =>
        cases vLast l with
        | some x => rfl
        | none =>
          cases vEnd (strsOf r) b with
          | some x => rfl
          | none =>
            cases vEnd (strsOf r) e with
            | some x => rfl
            | none =>
              cases vSig (strsOf r) (strsOf p) (intOf l) s with
              | some x => rfl
              | none =>
                cases vNot (strsOf r) (intOf l) n with
                | some x => rfl
                | none => rfl
theorem vLast_some {l x : D} (h : vLast l = some x) : x = l := by
  unfold vLast at h
  cases z : betB l 1 8 <;> rw [z] at h <;> cases h
  rfl
theorem vEnd_some {ns : List Str} {l x : D} (h : vEnd ns l = some x) : x = l := by
  unfold vEnd at h
  cases z : oneB ns l <;> rw [z] at h <;> cases h
  rfl
theorem verdictN_ok {r d p l b e s n : D} (rl : Rp l) (rb : Rp b) (re : Rp e) {x : Str} {y : D} (h : verdictN r d p l b e s n = some (x, y)) : x ∈ namesC ∧ Rp y := by
  unfold verdictN at h
  cases h1 : vRooms r with
  | some z => rw [h1] at h; cases h; exact ⟨mem_of 0 rfl, rp_ix (vIx_ix (by omega) h1)⟩
  | none =>
    rw [h1] at h
    cases h2 : vDoors (strsOf r) d with
    | some z => rw [h2] at h; cases h; exact ⟨mem_of 1 rfl, rp_ix (vIx_ix (by omega) h2)⟩
    | none =>
      rw [h2] at h
      cases h3 : vPeople (strsOf r) p with
      | some z => rw [h3] at h; cases h; exact ⟨mem_of 2 rfl, rp_ix (vIx_ix (by omega) h3)⟩
      | none =>
        rw [h3] at h
        cases h4 : vLast l with
        | some z => rw [h4] at h; cases h; exact ⟨mem_of 3 rfl, by rw [vLast_some h4]; exact rl⟩
        | none =>
          rw [h4] at h
          cases h5 : vEnd (strsOf r) b with
          | some z => rw [h5] at h; cases h; exact ⟨mem_of 4 rfl, by rw [vEnd_some h5]; exact rb⟩
          | none =>
            rw [h5] at h
            cases h6 : vEnd (strsOf r) e with
            | some z => rw [h6] at h; cases h; exact ⟨mem_of 4 rfl, by rw [vEnd_some h6]; exact re⟩
            | none =>
              rw [h6] at h
              cases h7 : vSig (strsOf r) (strsOf p) (intOf l) s with
              | some z => rw [h7] at h; cases h; exact ⟨mem_of 5 rfl, rp_ix (vIx_ix (by omega) h7)⟩
              | none =>
                rw [h7] at h
                cases h8 : vNot (strsOf r) (intOf l) n with
                | some z => rw [h8] at h; cases h; exact ⟨mem_of 6 rfl, rp_ix (vIx_ix (by omega) h8)⟩
                | none => rw [h8] at h; cases h
/-! ### the indices that a comprehension finds -/
def badT (p : Nat → Bool) (d : D) : Bool := match d with
  | .int i => !p i.toNat
  | _ => false
def badL (p : Nat → Bool) (n : Nat) : List D := (rangeD 0 n).filter (badT p)
theorem badL_eq (p : Nat → Bool) (n : Nat) : badL p n = ((List.range n).filter fun j => !p j).map fun j => D.int (j : Nat) := by
  unfold badL rangeD
  rw [List.filter_map]
  have e : (fun i : Nat => D.int (0 + (i : Int))) = fun j : Nat => D.int (j : Int) := by funext i; rw [Int.zero_add]
  rw [e]
  congr 1
theorem badL_none {p : Nat → Bool} {n : Nat} (h : fwN p n = none) : badL p n = [] := by
  rw [badL_eq]
  unfold fwN at h
  rw [List.find?_eq_none] at h
  rw [List.filter_eq_nil_iff.mpr h]
  rfl
theorem badL_some {p : Nat → Bool} {n j : Nat} (h : fwN p n = some j) : ∃ rest : List Nat, badL p n = .int (j : Nat) :: rest.map fun j : Nat => D.int (j : Nat) := by
  rw [badL_eq]
  unfold fwN at h
  rw [← List.head?_filter] at h
  cases e : (List.range n).filter fun j => !p j with
  | nil => rw [e] at h; cases h
  | cons a rest =>
    rw [e] at h
    cases h
    exact ⟨rest, rfl⟩
theorem ints_py : ∀ l : List Nat, isPys (l.map fun j : Nat => D.int (j : Nat)) = true ∧ PyData.canLayAll0 (toPys (l.map fun j : Nat => D.int (j : Nat))) = true ∧ PyData.depthAll (toPys (l.map fun j : Nat => D.int (j : Nat))) ≤ 1
  | [] => ⟨rfl, rfl, Nat.zero_le _⟩
  | a :: l => by
    obtain ⟨h1, h2, h3⟩ := ints_py l
    refine ⟨?_, ?_, ?_⟩
    · show (true && isPys _) = true
      rw [h1]; rfl
    · show (PyData.canLay0 (.int _) && _) = true
      rw [h2]; rfl
    · show PyData.depthAll (.int (a : Nat) :: toPys _) ≤ 1
      simp only [PyData.depthAll, PyData.depth]
      omega
theorem shp_ints (l : List Nat) : Shp (.lst (l.map fun j : Nat => D.int (j : Nat))) := by
  obtain ⟨h1, h2, h3⟩ := ints_py l
  refine ⟨h1, ?_⟩
  refine Bool.and_eq_true_iff.mpr ⟨?_, decide_eq_true ?_⟩
  · show PyData.canLay0 (.list (toPys (l.map fun j : Nat => D.int (j : Nat)))) = true
    rw [PyData.canLay0]
    exact h2
  · show PyData.depth (.list (toPys (l.map fun j : Nat => D.int (j : Nat)))) ≤ 64
    rw [PyData.depth]
    omega
theorem atI_zero {x : D} {xs : List D} : atI (x :: xs) 0 = some x := atI_at (xs := x :: xs) (j := 0) rfl
theorem shp_nil : Shp (.lst []) := ⟨rfl, rfl⟩
section
variable {Z : Zd} {A : Str → Addr} {fC : Addr} (B : B03 Z A fC)
theorem ne_nil {w : Option D} (h : w = none ∨ ∃ d, w = some d ∧ IxD d) {c : CD} : Op2 c (compareOp .NotEq) (wnD w) (.lst []) (.bl w.isSome) := by
  rcases h with rfl | ⟨d, rfl, hd⟩
  · exact o_ne shp_nil shp_nil
  · exact o_ne (shp_ix hd) shp_nil
def sp__law_due : SpD := fun ds Q _ => ∃ (r d p l b e s n : D), ds = [r, d, p, l, b, e, s, n] ∧ okBs ds = true ∧ Rp l ∧ Rp b ∧ Rp e ∧ Q (.d (dueD (verdictN r d p l b e s n)))
theorem sc63 : FnScope ["rooms", "doors", "people", "last", "begin", "end", "sightings", "notices", "wrong", "word", "some", "room", "k"] ["rooms", "doors", "people", "last", "begin", "end", "sightings", "notices"] (defScope (top 63)) := ⟨rfl, rfl, rfl, by decide +kernel, rfl, by decide +kernel, by decide +kernel⟩
include B in
theorem kn__law_due {f : Addr} {fd : FuncData} (F : FunD Z.K "_law_due" "_law_due" (defArgs (top 63)) (defBody (top 63)) (defScope (top 63)) [] [] f fd) (k__law_wrong_names : Kn Z 2 "_law_wrong_names" (SpP Z sp__law_wrong_names)) (k__law_wrong_doors : Kn Z 1 "_law_wrong_doors" (SpP Z sp__law_wrong_doors)) (k__law_is_number : Kn Z 1 "_law_is_number" (SpP Z sp__law_is_number)) (k__law_is_sighting : Kn Z 3 "_law_is_sighting" (SpP Z sp__law_is_sighting)) (k__law_is_notice : Kn Z 2 "_law_is_notice" (SpP Z sp__law_is_notice)) : FnK Z.P Z.w Z.K Z.mg Z.base (L2.CX Z.P Z.w) 4 f fd ["rooms", "doors", "people", "last", "begin", "end", "sightings", "notices"] (SpP Z sp__law_due) := by
  refine kn_ofP F sc63 (fun ds Q R h => ?_) (by decide) (mkr := none) (fun _ z => nomatch z) fun E ds Q R h => ?_
  · obtain ⟨r, d, p, l, b, e, s, n, rfl, _⟩ := h; rfl
  · obtain ⟨r, d, p, l, b, e, s, n, rfl, ho, rl, rb, re, hQ⟩ := h
    have S : ScOk ⟨Z, ["rooms", "doors", "people", "last", "begin", "end", "sightings", "notices", "wrong", "word", "some", "room", "k"], defScope (top 63), fun _ => true, 3, E, fun _ _ => False, none⟩ [0, 1, 2, 3, 4, 5, 6, 7, 8, 9, 10, 11] [8, 9, 10, 11] ["_law_wrong_names", "repr", "_law_wrong_doors", "_law_is_number", "isinstance", "str", "tuple", "len", "range"] := scOk_of sc63.nd rfl (by kernel_rfl)
    have or : okB r = true := okB_at (i := 0) ho rfl
    have od : okB d = true := okB_at (i := 1) ho rfl
    have op : okB p = true := okB_at (i := 2) ho rfl
    have ol : okB l = true := okB_at (i := 3) ho rfl
    have ob : okB b = true := okB_at (i := 4) ho rfl
    have oe : okB e = true := okB_at (i := 5) ho rfl
    have os : okB s = true := okB_at (i := 6) ho rfl
    have on : okB n = true := okB_at (i := 7) ho rfl
    unfold verdictN at hQ
    refine S_seq (S_asg (vs := [8]) (d := wnD (vRooms r)) (E_is (E_call S k__law_wrong_names (Nat.le_of_ble_eq_true rfl) (D_cons (E_var S 0 rfl rfl rfl) (D_cons E_int (D_cons E_int (D_cons (E_tupD D_nil rfl) D_nil (fun _ => rfl)) (fun _ => rfl)) (fun _ => rfl)) (fun _ => rfl)) (fun Q R h => ⟨_, _, _, [], rfl, or, by omega, h⟩) (mem_of 0 rfl) (fun _ => rfl) (fun _ => rfl)) (by rw [pPers_nil]; rfl)) (G_name S 8 rfl rfl rfl) ?_ (fun _ _ => rfl) (fun _ _ => rfl) (fun _ => rfl))
    cases hr : vRooms r with
    | some x =>
      rw [hr] at hQ
      have hx := vIx_ix (by omega) hr
      exact S_seq (S_ifT (T_cmp (E_var S 8 rfl rfl rfl) (E_lstD D_nil rfl) (.d _) (.d _) (ne_nil (.inr ⟨x, rfl, hx⟩)) rfl) rfl (S_seq (S_ret (E_lstD (D_cons E_str (D_cons (E_cb S (A_cons (E_ix (E_var S 8 rfl rfl rfl) E_int (.d _) (.d _) (i_seq rfl rfl) (fun _ _ => rfl)) A_nil (fun _ => rfl)) (.cons (.d _) .nil) (b_repr B.sm (rp_ix hx)) (mem_of 1 rfl) (B.fr "repr" (mem_of 12 rfl)) rfl (fun _ => rfl) (fun _ => rfl)) D_nil (fun _ => rfl)) (fun _ => rfl)) rfl) ⟨hQ, Nat.le_of_ble_eq_true rfl⟩)))
    | none =>
      rw [hr] at hQ
      have er := rooms_eq or hr
      refine S_seq (S_ifF (T_cmp (E_var S 8 rfl rfl rfl) (E_lstD D_nil rfl) (.d _) (.d _) (ne_nil (.inl rfl)) rfl) rfl (S_nil ?_))
      let ρ0 : Option D → Ent → Ent → Env' := fun w e1 e2 => [.d r, .d d, .d p, .d l, .d b, .d e, .d s, .d n, .d (wnD none), e1, e2, .un, .un]
      refine S_seq (S_for (ρ1 := ρ0 none .un .un) (vs := [9, 10]) (ds := [.lst [.str "doors", wnD (vDoors (strsOf r) d)], .lst [.str "people", wnD (vPeople (strsOf r) p)]]) (fun j ρ => (1 ≤ j → vDoors (strsOf r) d = none) ∧ (2 ≤ j → vPeople (strsOf r) p = none) ∧ ∃ e1 e2, ρ = ρ0 none e1 e2) (I_lst (x := .lst [.lst [.str "doors", wnD (vDoors (strsOf r) d)], .lst [.str "people", wnD (vPeople (strsOf r) p)]]) ?it rfl) ⟨fun z => absurd z (by omega), fun z => absurd z (by omega), .un, .un, rfl⟩ (fun j x ρ hj hI => ?turn) (fun ρ hI => ?fin) (fun _ _ => rfl))
      case it =>
        exact E_lstD (D_cons (E_lstD (D_cons E_str (D_cons (E_call S k__law_wrong_doors (Nat.le_of_ble_eq_true rfl) (D_cons (E_var S 1 rfl rfl rfl) (D_cons (E_is (E_var S 0 rfl rfl rfl) er) D_nil (fun _ => rfl)) (fun _ => rfl)) (fun Q R h => ⟨_, strsOf r, rfl, od, h⟩) (mem_of 2 rfl) (fun _ => rfl) (fun _ => rfl)) D_nil (fun _ => rfl)) (fun _ => rfl)) rfl) (D_cons (E_lstD (D_cons E_str (D_cons (E_call S k__law_wrong_names (Nat.le_of_ble_eq_true rfl) (D_cons (E_var S 2 rfl rfl rfl) (D_cons E_int (D_cons E_int (D_cons (E_is (E_var S 0 rfl rfl rfl) er) D_nil (fun _ => rfl)) (fun _ => rfl)) (fun _ => rfl)) (fun _ => rfl)) (fun Q R h => ⟨_, _, _, strsOf r, rfl, op, by omega, h⟩) (mem_of 0 rfl) (fun _ => rfl) (fun _ => rfl)) D_nil (fun _ => rfl)) (fun _ => rfl)) rfl) D_nil (fun _ => rfl)) (fun _ => rfl)) rfl
      case turn =>
        obtain ⟨h1, h2, e1, e2, rfl⟩ := hI
        match j, hj with
        | 0, hj =>
          cases hj
          refine ⟨_, G_lst (Gs_cons (G_name S 9 rfl rfl rfl) (Gs_cons (G_name S 10 rfl rfl rfl) Gs_nil (fun _ => rfl)) (fun _ => rfl)) (fun _ _ hc h => pg_lst hc h), ?_⟩
          cases hv : vDoors (strsOf r) d with
          | some y =>
            have hy := vIx_ix (by omega) hv
            rw [hv] at hQ
            exact S_seq (S_ifT (T_cmp (E_var S 10 rfl rfl rfl) (E_lstD D_nil rfl) (.d _) (.d _) (ne_nil (.inr ⟨y, rfl, hy⟩)) rfl) rfl (S_seq (S_ret (E_lstD (D_cons (E_var S 9 rfl rfl rfl) (D_cons (E_cb S (A_cons (E_ix (E_var S 10 rfl rfl rfl) E_int (.d _) (.d _) (i_seq rfl rfl) (fun _ _ => rfl)) A_nil (fun _ => rfl)) (.cons (.d _) .nil) (b_repr B.sm (rp_ix hy)) (mem_of 1 rfl) (B.fr "repr" (mem_of 12 rfl)) rfl (fun _ => rfl) (fun _ => rfl)) D_nil (fun _ => rfl)) (fun _ => rfl)) rfl) ⟨hQ, Nat.le_of_ble_eq_true rfl⟩)))
          | none =>
            exact S_seq (S_ifF (T_cmp (E_var S 10 rfl rfl rfl) (E_lstD D_nil rfl) (.d _) (.d _) (ne_nil (.inl rfl)) rfl) rfl (S_nil (S_nil ⟨fun _ => rfl, fun z => absurd z (by omega), _, _, rfl⟩)))
        | 1, hj =>
          cases hj
          refine ⟨_, G_lst (Gs_cons (G_name S 9 rfl rfl rfl) (Gs_cons (G_name S 10 rfl rfl rfl) Gs_nil (fun _ => rfl)) (fun _ => rfl)) (fun _ _ hc h => pg_lst hc h), ?_⟩
          cases hv : vPeople (strsOf r) p with
          | some y =>
            have hy := vIx_ix (by omega) hv
            rw [h1 (by omega)] at hQ
            rw [hv] at hQ
            exact S_seq (S_ifT (T_cmp (E_var S 10 rfl rfl rfl) (E_lstD D_nil rfl) (.d _) (.d _) (ne_nil (.inr ⟨y, rfl, hy⟩)) rfl) rfl (S_seq (S_ret (E_lstD (D_cons (E_var S 9 rfl rfl rfl) (D_cons (E_cb S (A_cons (E_ix (E_var S 10 rfl rfl rfl) E_int (.d _) (.d _) (i_seq rfl rfl) (fun _ _ => rfl)) A_nil (fun _ => rfl)) (.cons (.d _) .nil) (b_repr B.sm (rp_ix hy)) (mem_of 1 rfl) (B.fr "repr" (mem_of 12 rfl)) rfl (fun _ => rfl) (fun _ => rfl)) D_nil (fun _ => rfl)) (fun _ => rfl)) rfl) ⟨hQ, Nat.le_of_ble_eq_true rfl⟩)))
          | none =>
            exact S_seq (S_ifF (T_cmp (E_var S 10 rfl rfl rfl) (E_lstD D_nil rfl) (.d _) (.d _) (ne_nil (.inl rfl)) rfl) rfl (S_nil (S_nil ⟨fun _ => h1 (by omega), fun _ => rfl, _, _, rfl⟩)))
        | j + 2, hj => simp at hj
      case fin =>
        obtain ⟨h1, h2, e1, e2, rfl⟩ := hI
        have hd := h1 (Nat.le_of_ble_eq_true rfl)
        have hp := h2 (Nat.le_of_ble_eq_true rfl)
        rw [hd, hp] at hQ
        have ep := people_eq op hp
        cases hl : betB l 1 8 with
        | false =>
          have el : vLast l = some l := by unfold vLast; rw [hl]; rfl
          rw [el] at hQ
          exact S_seq (S_ifT (T_not (T_is (T_val (E_call S k__law_is_number (Nat.le_of_ble_eq_true rfl) (D_cons (E_var S 3 rfl rfl rfl) (D_cons E_int (D_cons E_int D_nil (fun _ => rfl)) (fun _ => rfl)) (fun _ => rfl)) (fun Q R h => ⟨_, _, _, rfl, ol, h⟩) (mem_of 3 rfl) (fun _ => rfl) (fun _ => rfl)) (fun _ _ => rfl)) hl)) rfl (S_seq (S_ret (E_lstD (D_cons E_str (D_cons (E_cb S (A_cons (E_var S 3 rfl rfl rfl) A_nil (fun _ => rfl)) (.cons (.d _) .nil) (b_repr B.sm rl) (mem_of 1 rfl) (B.fr "repr" (mem_of 12 rfl)) rfl (fun _ => rfl) (fun _ => rfl)) D_nil (fun _ => rfl)) (fun _ => rfl)) rfl) ⟨hQ, Nat.le_of_ble_eq_true rfl⟩)))
        | true =>
          have hl0 : vLast l = none := by unfold vLast; rw [hl]; rfl
          rw [hl0] at hQ
          have el := last_eq hl0
          refine S_seq (S_ifF (T_not (T_is (T_val (E_call S k__law_is_number (Nat.le_of_ble_eq_true rfl) (D_cons (E_var S 3 rfl rfl rfl) (D_cons E_int (D_cons E_int D_nil (fun _ => rfl)) (fun _ => rfl)) (fun _ => rfl)) (fun Q R h => ⟨_, _, _, rfl, ol, h⟩) (mem_of 3 rfl) (fun _ => rfl) (fun _ => rfl)) (fun _ _ => rfl)) hl)) rfl (S_nil ?_))
          let ρ1 : Ent → Env' := fun x => [.d r, .d d, .d p, .d l, .d b, .d e, .d s, .d n, .d (wnD none), e1, e2, x, .un]
          refine S_seq (S_for (ρ1 := ρ1 .un) (vs := [11]) (ds := [b, e]) (fun j ρ => (1 ≤ j → vEnd (strsOf r) b = none) ∧ (2 ≤ j → vEnd (strsOf r) e = none) ∧ ∃ x, ρ = ρ1 x) (I_tup (E_tupD (D_cons (E_var S 4 rfl rfl rfl) (D_cons (E_var S 5 rfl rfl rfl) D_nil (fun _ => rfl)) (fun _ => rfl)) rfl)) ⟨fun z => absurd z (by omega), fun z => absurd z (by omega), .un, rfl⟩ (fun j x ρ hj hI => ?turn2) (fun ρ hI => ?fin2) (fun _ _ => rfl))
          case turn2 =>
            obtain ⟨g1, g2, x0, rfl⟩ := hI
            match j, hj with
            | 0, hj =>
              cases hj
              refine ⟨_, G_name S 11 rfl rfl rfl, ?_⟩
              refine S_seq (S_if (t := !oneB (strsOf r) b) (T_is (T_w (W_or (u := !strB b) (v := !inL (strsOf r) b) (T_not (T_val (E_cb S (A_cons (E_var S 11 rfl rfl rfl) (A_cons (E_ty S (mem_of 5 rfl) (B.fr "str" (mem_of 14 rfl)) rfl) A_nil (fun _ => rfl)) (fun _ => rfl)) (.cons (.d _) (.cons (.d _) .nil)) (b_isK k_str (okB_ty ob)) (mem_of 4 rfl) (B.fr "isinstance" (mem_of 6 rfl)) rfl (fun _ => rfl) (fun _ => rfl)) (fun _ _ => rfl))) (fun hs => W_or1 ?in1))) ?eq1) (fun hb => ?bad1) (fun hb => S_nil (S_nil ⟨fun _ => ?good1, fun z => absurd z (by omega), _, rfl⟩)))
              case in1 =>
                obtain ⟨z, rfl⟩ := strB_eq (nt hs)
                exact (T_cmp (E_var S 11 rfl rfl rfl) (E_is (E_var S 0 rfl rfl rfl) er) (.d _) (.d _) (o_notInS rfl) rfl)
              case eq1 => unfold oneB; cases strB b <;> cases inL (strsOf r) b <;> rfl
              case bad1 =>
                have hv : vEnd (strsOf r) b = some b := by unfold vEnd; rw [nn hb]; rfl
                rw [hv] at hQ
                exact S_seq (S_ret (E_lstD (D_cons E_str (D_cons (E_cb S (A_cons (E_var S 11 rfl rfl rfl) A_nil (fun _ => rfl)) (.cons (.d _) .nil) (b_repr B.sm rb) (mem_of 1 rfl) (B.fr "repr" (mem_of 12 rfl)) rfl (fun _ => rfl) (fun _ => rfl)) D_nil (fun _ => rfl)) (fun _ => rfl)) rfl) ⟨hQ, Nat.le_of_ble_eq_true rfl⟩)
              case good1 => unfold vEnd; rw [nt hb]; rfl
            | 1, hj =>
              cases hj
              refine ⟨_, G_name S 11 rfl rfl rfl, ?_⟩
              refine S_seq (S_if (t := !oneB (strsOf r) e) (T_is (T_w (W_or (u := !strB e) (v := !inL (strsOf r) e) (T_not (T_val (E_cb S (A_cons (E_var S 11 rfl rfl rfl) (A_cons (E_ty S (mem_of 5 rfl) (B.fr "str" (mem_of 14 rfl)) rfl) A_nil (fun _ => rfl)) (fun _ => rfl)) (.cons (.d _) (.cons (.d _) .nil)) (b_isK k_str (okB_ty oe)) (mem_of 4 rfl) (B.fr "isinstance" (mem_of 6 rfl)) rfl (fun _ => rfl) (fun _ => rfl)) (fun _ _ => rfl))) (fun hs => W_or1 ?in1))) ?eq1) (fun hb => ?bad1) (fun hb => S_nil (S_nil ⟨fun _ => g1 (by omega), fun _ => ?good1, _, rfl⟩)))
              case in1 =>
                obtain ⟨z, rfl⟩ := strB_eq (nt hs)
                exact (T_cmp (E_var S 11 rfl rfl rfl) (E_is (E_var S 0 rfl rfl rfl) er) (.d _) (.d _) (o_notInS rfl) rfl)
              case eq1 => unfold oneB; cases strB e <;> cases inL (strsOf r) e <;> rfl
              case bad1 =>
                have hv : vEnd (strsOf r) e = some e := by unfold vEnd; rw [nn hb]; rfl
                rw [g1 (by omega), hv] at hQ
                exact S_seq (S_ret (E_lstD (D_cons E_str (D_cons (E_cb S (A_cons (E_var S 11 rfl rfl rfl) A_nil (fun _ => rfl)) (.cons (.d _) .nil) (b_repr B.sm re) (mem_of 1 rfl) (B.fr "repr" (mem_of 12 rfl)) rfl (fun _ => rfl) (fun _ => rfl)) D_nil (fun _ => rfl)) (fun _ => rfl)) rfl) ⟨hQ, Nat.le_of_ble_eq_true rfl⟩)
              case good1 => unfold vEnd; rw [nt hb]; rfl
            | j + 2, hj => simp at hj
          case fin2 =>
            obtain ⟨g1, g2, x0, rfl⟩ := hI
            have hb := g1 (Nat.le_of_ble_eq_true rfl)
            have he := g2 (Nat.le_of_ble_eq_true rfl)
            rw [hb, he] at hQ
            let ρ2 : Ent → Env' := fun x => [.d r, .d d, .d p, .d l, .d b, .d e, .d s, .d n, x, e1, e2, x0, .un]
            cases hts : tupB s && decide ((itemsOf s).length ≤ 16) with
            | false =>
              have hv : vSig (strsOf r) (strsOf p) (intOf l) s = some .non := by
                unfold vSig vIx
                have : rowB s 0 16 = false := by
                  unfold rowB
                  cases h1 : tupB s with
                  | false => rfl
                  | true =>
                    rw [h1] at hts
                    have := of_decide_eq_false (show decide ((itemsOf s).length ≤ 16) = false from hts)
                    rw [decide_eq_false (by omega : ¬ ((itemsOf s).length : Int) ≤ 16), Bool.and_false, Bool.and_false]
                rw [this]; rfl
              rw [hv] at hQ
              refine S_seq (S_ifT (t := !(tupB s && decide ((itemsOf s).length ≤ 16))) (T_is (T_w (W_or (u := !tupB s) (v := !decide ((itemsOf s).length ≤ 16)) (T_not (T_val (E_cb S (A_cons (E_var S 6 rfl rfl rfl) (A_cons (E_ty S (mem_of 6 rfl) (B.fr "tuple" (mem_of 15 rfl)) rfl) A_nil (fun _ => rfl)) (fun _ => rfl)) (.cons (.d _) (.cons (.d _) .nil)) (b_isK k_tup (okB_ty os)) (mem_of 4 rfl) (B.fr "isinstance" (mem_of 6 rfl)) rfl (fun _ => rfl) (fun _ => rfl)) (fun _ _ => rfl))) (fun hs => W_or1 ?in1))) (by cases tupB s <;> cases decide ((itemsOf s).length ≤ 16) <;> rfl)) (by rw [hts]; rfl) (S_seq (S_ret (E_lstD (D_cons E_str (D_cons E_str D_nil (fun _ => rfl)) (fun _ => rfl)) rfl) ⟨hQ, Nat.le_of_ble_eq_true rfl⟩)))
              case in1 =>
                obtain ⟨xs, rfl, _⟩ := tupB_eq os (nt hs)
                exact T_is (T_cmp (E_cb S (A_cons (E_var S 6 rfl rfl rfl) A_nil (fun _ => rfl)) (.cons (.d _) .nil) (b_len rfl) (mem_of 7 rfl) (B.fr "len" (mem_of 7 rfl)) rfl (fun _ => rfl) (fun _ => rfl)) E_int (.d _) (.d _) o_gt rfl) (by show decide ((16 : Int) < (xs.length : Int)) = !decide (xs.length ≤ 16); by_cases h : xs.length ≤ 16 <;> simp [h] <;> omega)
            | true =>
              obtain ⟨xs, rfl, hxs⟩ := tupB_eq os (and2 hts).1
              have hlen : xs.length ≤ 16 := of_decide_eq_true (and2 hts).2
              have hrow : rowB (.tup xs) 0 16 = true := by
                show (true && (decide ((0 : Int) ≤ (xs.length : Int)) && decide ((xs.length : Int) ≤ 16))) = true
                rw [decide_eq_true (by omega : (0 : Int) ≤ xs.length), decide_eq_true (by omega : (xs.length : Int) ≤ 16)]; rfl
              have hvS : vSig (strsOf r) (strsOf p) (intOf l) (.tup xs) = (fwN (pSig (strsOf r) (strsOf p) (intOf l) xs) xs.length).map fun j => D.int (j : Nat) := by unfold vSig vIx; rw [hrow]; rfl
              rw [hvS] at hQ
              refine S_seq (S_ifF (t := !(tupB (.tup xs) && decide (xs.length ≤ 16))) (T_is (T_w (W_or (u := !tupB (.tup xs)) (v := !decide (xs.length ≤ 16)) (T_not (T_val (E_cb S (A_cons (E_var S 6 rfl rfl rfl) (A_cons (E_ty S (mem_of 6 rfl) (B.fr "tuple" (mem_of 15 rfl)) rfl) A_nil (fun _ => rfl)) (fun _ => rfl)) (.cons (.d _) (.cons (.d _) .nil)) (b_isK k_tup (okB_ty os)) (mem_of 4 rfl) (B.fr "isinstance" (mem_of 6 rfl)) rfl (fun _ => rfl) (fun _ => rfl)) (fun _ _ => rfl))) (fun hs => W_or1 (T_is (T_cmp (E_cb S (A_cons (E_var S 6 rfl rfl rfl) A_nil (fun _ => rfl)) (.cons (.d _) .nil) (b_len rfl) (mem_of 7 rfl) (B.fr "len" (mem_of 7 rfl)) rfl (fun _ => rfl) (fun _ => rfl)) E_int (.d _) (.d _) o_gt rfl) (by show decide ((16 : Int) < (xs.length : Int)) = !decide (xs.length ≤ 16); by_cases h : xs.length ≤ 16 <;> simp [h] <;> omega))))) (by cases decide (xs.length ≤ 16) <;> rfl)) (by rw [decide_eq_true hlen]; rfl) (S_nil ?_))
              refine S_seq (S_setLc S (own := [("k", 12)]) (d := .lst (badL (pSig (strsOf r) (strsOf p) (intOf l) xs) xs.length)) 10 rfl (by kernel_rfl) rfl rfl ⟨rfl, by (dsimp only; decide +kernel), by (dsimp only; decide +kernel), by (dsimp only; decide +kernel), by (dsimp only; decide +kernel)⟩ (Ev_is (Ev_lcPW (ρ1 := [.d r, .d d, .d p, .d l, .d b, .d e, .d (.tup xs), .d n, .d (wnD none), e1, e2, x0, .un]) 12 [0, 2, 3, 6, 12] ["_law_is_sighting"] (ds := rangeD 0 (xs.length : Int).toNat) (fun d => d) (badT (pSig (strsOf r) (strsOf p) (intOf l) xs)) rfl (scOk_of sc63.nd rfl (by kernel_rfl)) (I_range1 S (E_cb S (A_cons (E_var S 6 rfl rfl rfl) A_nil (fun _ => rfl)) (.cons (.d _) .nil) (b_len rfl) (mem_of 7 rfl) (B.fr "len" (mem_of 7 rfl)) rfl (fun _ => rfl) (fun _ => rfl)) (mem_of 8 rfl) (B.fr "range" (mem_of 11 rfl)) ⟨by omega, by omega⟩ (fun _ => rfl)) rfl ?tt ?te (by unfold rangeD; simp; omega) rfl) ?teq) ?_ rfl (by decide +kernel) (fun _ _ => rfl))
              case tt =>
                intro S' j dd hj
                obtain ⟨hj2, rfl⟩ := rangeD_at0 hj
                have hj2 : j < xs.length := by omega
                obtain ⟨x, hx⟩ : ∃ x, xs[j]? = some x := ⟨_, List.getElem?_eq_getElem hj2⟩
                have ox := okB_at hxs hx
                refine T_is (T_not (T_val (E_call S' k__law_is_sighting (Nat.le_refl _) (D_cons (E_ix (E_var S' 6 rfl rfl rfl) (E_var S' 12 rfl rfl rfl) (.d _) (.d _) (i_seq rfl (atI_at hx)) (fun _ _ => rfl)) (D_cons (E_is (E_var S' 0 rfl rfl rfl) er) (D_cons (E_is (E_var S' 2 rfl rfl rfl) ep) (D_cons (E_is (E_var S' 3 rfl rfl rfl) el) D_nil (fun _ => rfl)) (fun _ => rfl)) (fun _ => rfl)) (fun _ => rfl)) (fun Q R h => ⟨_, _, _, _, rfl, ox, h⟩) (mem_of 0 rfl) (fun _ => rfl) (fun _ => rfl)) (fun _ _ => rfl))) ?_
                show (!isSig _ _ _ x) = (!pSig (strsOf r) (strsOf p) (intOf l) xs ((j : Nat) : Int).toNat)
                rw [Int.toNat_natCast]
                unfold pSig
                rw [getD_of hx]
              case te =>
                intro S' j dd hj _
                exact E_var S' 12 rfl rfl rfl
              case teq =>
                unfold badL
                rw [List.map_id'' (fun _ => rfl), Int.toNat_natCast]
              have bad0 : fwN (pSig (strsOf r) (strsOf p) (intOf l) xs) xs.length = none ∨ ∃ j, fwN (pSig (strsOf r) (strsOf p) (intOf l) xs) xs.length = some j := by cases fwN (pSig (strsOf r) (strsOf p) (intOf l) xs) xs.length with
                | none => exact .inl rfl
                | some j => exact .inr ⟨j, rfl⟩
              rcases bad0 with hf | ⟨j, hf⟩
              · rw [hf] at hQ
                rw [badL_none hf]
                refine S_seq (S_ifF (T_cmp (E_var S 10 rfl rfl rfl) (E_lstD D_nil rfl) (.d _) (.d _) (o_ne shp_nil shp_nil) rfl) rfl (S_nil ?_))
                cases htn : tupB n && decide ((itemsOf n).length ≤ 6) with
                | false =>
                  have hv : vNot (strsOf r) (intOf l) n = some .non := by
                    unfold vNot vIx
                    have : rowB n 0 6 = false := by
                      unfold rowB
                      cases h1 : tupB n with
                      | false => rfl
                      | true =>
                        rw [h1] at htn
                        have := of_decide_eq_false (show decide ((itemsOf n).length ≤ 6) = false from htn)
                        rw [decide_eq_false (by omega : ¬ ((itemsOf n).length : Int) ≤ 6), Bool.and_false, Bool.and_false]
                    rw [this]; rfl
                  rw [hv] at hQ
                  refine S_seq (S_ifT (t := !(tupB n && decide ((itemsOf n).length ≤ 6))) (T_is (T_w (W_or (u := !tupB n) (v := !decide ((itemsOf n).length ≤ 6)) (T_not (T_val (E_cb S (A_cons (E_var S 7 rfl rfl rfl) (A_cons (E_ty S (mem_of 6 rfl) (B.fr "tuple" (mem_of 15 rfl)) rfl) A_nil (fun _ => rfl)) (fun _ => rfl)) (.cons (.d _) (.cons (.d _) .nil)) (b_isK k_tup (okB_ty on)) (mem_of 4 rfl) (B.fr "isinstance" (mem_of 6 rfl)) rfl (fun _ => rfl) (fun _ => rfl)) (fun _ _ => rfl))) (fun hs => W_or1 ?in1))) (by cases tupB n <;> cases decide ((itemsOf n).length ≤ 6) <;> rfl)) (by rw [htn]; rfl) (S_seq (S_ret (E_lstD (D_cons E_str (D_cons E_str D_nil (fun _ => rfl)) (fun _ => rfl)) rfl) ⟨hQ, Nat.le_of_ble_eq_true rfl⟩)))
                  case in1 =>
                    obtain ⟨ys, rfl, _⟩ := tupB_eq on (nt hs)
                    exact T_is (T_cmp (E_cb S (A_cons (E_var S 7 rfl rfl rfl) A_nil (fun _ => rfl)) (.cons (.d _) .nil) (b_len rfl) (mem_of 7 rfl) (B.fr "len" (mem_of 7 rfl)) rfl (fun _ => rfl) (fun _ => rfl)) E_int (.d _) (.d _) o_gt rfl) (by show decide ((6 : Int) < (ys.length : Int)) = !decide (ys.length ≤ 6); by_cases h : ys.length ≤ 6 <;> simp [h] <;> omega)
                | true =>
                  obtain ⟨ys, rfl, hys⟩ := tupB_eq on (and2 htn).1
                  have hlen2 : ys.length ≤ 6 := of_decide_eq_true (and2 htn).2
                  have hrow2 : rowB (.tup ys) 0 6 = true := by
                    show (true && (decide ((0 : Int) ≤ (ys.length : Int)) && decide ((ys.length : Int) ≤ 6))) = true
                    rw [decide_eq_true (by omega : (0 : Int) ≤ ys.length), decide_eq_true (by omega : (ys.length : Int) ≤ 6)]; rfl
                  have hvN : vNot (strsOf r) (intOf l) (.tup ys) = (fwN (pNot (strsOf r) (intOf l) ys) ys.length).map fun j => D.int (j : Nat) := by unfold vNot vIx; rw [hrow2]; rfl
                  rw [hvN] at hQ
                  refine S_seq (S_ifF (t := !(tupB (.tup ys) && decide (ys.length ≤ 6))) (T_is (T_w (W_or (u := !tupB (.tup ys)) (v := !decide (ys.length ≤ 6)) (T_not (T_val (E_cb S (A_cons (E_var S 7 rfl rfl rfl) (A_cons (E_ty S (mem_of 6 rfl) (B.fr "tuple" (mem_of 15 rfl)) rfl) A_nil (fun _ => rfl)) (fun _ => rfl)) (.cons (.d _) (.cons (.d _) .nil)) (b_isK k_tup (okB_ty on)) (mem_of 4 rfl) (B.fr "isinstance" (mem_of 6 rfl)) rfl (fun _ => rfl) (fun _ => rfl)) (fun _ _ => rfl))) (fun hs => W_or1 (T_is (T_cmp (E_cb S (A_cons (E_var S 7 rfl rfl rfl) A_nil (fun _ => rfl)) (.cons (.d _) .nil) (b_len rfl) (mem_of 7 rfl) (B.fr "len" (mem_of 7 rfl)) rfl (fun _ => rfl) (fun _ => rfl)) E_int (.d _) (.d _) o_gt rfl) (by show decide ((6 : Int) < (ys.length : Int)) = !decide (ys.length ≤ 6); by_cases h : ys.length ≤ 6 <;> simp [h] <;> omega))))) (by cases decide (ys.length ≤ 6) <;> rfl)) (by rw [decide_eq_true hlen2]; rfl) (S_nil ?_))
                  refine S_seq (S_setLc S (own := [("k", 12)]) (d := .lst (badL (pNot (strsOf r) (intOf l) ys) ys.length)) 10 rfl (by kernel_rfl) rfl rfl ⟨rfl, by (dsimp only; decide +kernel), by (dsimp only; decide +kernel), by (dsimp only; decide +kernel), by (dsimp only; decide +kernel)⟩ (Ev_is (Ev_lcPW (ρ1 := [.d r, .d d, .d p, .d l, .d b, .d e, .d (.tup xs), .d (.tup ys), .d (wnD none), e1, .d (.lst []), x0, .un]) 12 [0, 3, 7, 12] ["_law_is_notice"] (ds := rangeD 0 (ys.length : Int).toNat) (fun d => d) (badT (pNot (strsOf r) (intOf l) ys)) rfl (scOk_of sc63.nd rfl (by kernel_rfl)) (I_range1 S (E_cb S (A_cons (E_var S 7 rfl rfl rfl) A_nil (fun _ => rfl)) (.cons (.d _) .nil) (b_len rfl) (mem_of 7 rfl) (B.fr "len" (mem_of 7 rfl)) rfl (fun _ => rfl) (fun _ => rfl)) (mem_of 8 rfl) (B.fr "range" (mem_of 11 rfl)) ⟨by omega, by omega⟩ (fun _ => rfl)) rfl ?tt ?te (by unfold rangeD; simp; omega) rfl) ?teq) ?_ rfl (by decide +kernel) (fun _ _ => rfl))
                  case tt =>
                    intro S' j dd hj
                    obtain ⟨hj2, rfl⟩ := rangeD_at0 hj
                    have hj2 : j < ys.length := by omega
                    obtain ⟨x, hx⟩ : ∃ x, ys[j]? = some x := ⟨_, List.getElem?_eq_getElem hj2⟩
                    have ox := okB_at hys hx
                    refine T_is (T_not (T_val (E_call S' k__law_is_notice (Nat.le_of_ble_eq_true rfl) (D_cons (E_ix (E_var S' 7 rfl rfl rfl) (E_var S' 12 rfl rfl rfl) (.d _) (.d _) (i_seq rfl (atI_at hx)) (fun _ _ => rfl)) (D_cons (E_is (E_var S' 0 rfl rfl rfl) er) (D_cons (E_is (E_var S' 3 rfl rfl rfl) el) D_nil (fun _ => rfl)) (fun _ => rfl)) (fun _ => rfl)) (fun Q R h => ⟨_, _, _, rfl, ox, h⟩) (mem_of 0 rfl) (fun _ => rfl) (fun _ => rfl)) (fun _ _ => rfl))) ?_
                    show (!isNot _ _ x) = (!pNot (strsOf r) (intOf l) ys ((j : Nat) : Int).toNat)
                    rw [Int.toNat_natCast]
                    unfold pNot
                    rw [getD_of hx]
                  case te =>
                    intro S' j dd hj _
                    exact E_var S' 12 rfl rfl rfl
                  case teq =>
                    unfold badL
                    rw [List.map_id'' (fun _ => rfl), Int.toNat_natCast]
                  have bad1 : fwN (pNot (strsOf r) (intOf l) ys) ys.length = none ∨ ∃ j, fwN (pNot (strsOf r) (intOf l) ys) ys.length = some j := by cases fwN (pNot (strsOf r) (intOf l) ys) ys.length with
                    | none => exact .inl rfl
                    | some j => exact .inr ⟨j, rfl⟩
                  rcases bad1 with hg | ⟨j, hg⟩
                  · rw [hg] at hQ
                    rw [badL_none hg]
                    exact S_seq (S_ret (E_ifF (T_cmp (E_var S 10 rfl rfl rfl) (E_lstD D_nil rfl) (.d _) (.d _) (o_ne shp_nil shp_nil) rfl) rfl (E_lstD (D_cons E_str D_nil (fun _ => rfl)) rfl)) ⟨hQ, Nat.le_of_ble_eq_true rfl⟩)
                  · rw [hg] at hQ
                    obtain ⟨rest, hb⟩ := badL_some hg
                    rw [hb]
                    exact S_seq (S_ret (E_ifT (T_cmp (E_var S 10 rfl rfl rfl) (E_lstD D_nil rfl) (.d _) (.d _) (o_ne (shp_ints (j :: rest)) shp_nil) rfl) rfl (E_lstD (D_cons E_str (D_cons (E_cb S (A_cons (E_ix (E_var S 10 rfl rfl rfl) E_int (.d _) (.d _) (i_seq rfl atI_zero) (fun _ _ => rfl)) A_nil (fun _ => rfl)) (.cons (.d _) .nil) (b_repr B.sm (rp_ix (.inr ⟨j, by have := fwN_lt hg; omega, rfl⟩))) (mem_of 1 rfl) (B.fr "repr" (mem_of 12 rfl)) rfl (fun _ => rfl) (fun _ => rfl)) D_nil (fun _ => rfl)) (fun _ => rfl)) rfl)) ⟨hQ, Nat.le_of_ble_eq_true rfl⟩)
              · rw [hf] at hQ
                obtain ⟨rest, hb⟩ := badL_some hf
                rw [hb]
                exact S_seq (S_ifT (T_cmp (E_var S 10 rfl rfl rfl) (E_lstD D_nil rfl) (.d _) (.d _) (o_ne (shp_ints (j :: rest)) shp_nil) rfl) rfl (S_seq (S_ret (E_lstD (D_cons E_str (D_cons (E_cb S (A_cons (E_ix (E_var S 10 rfl rfl rfl) E_int (.d _) (.d _) (i_seq rfl atI_zero) (fun _ _ => rfl)) A_nil (fun _ => rfl)) (.cons (.d _) .nil) (b_repr B.sm (rp_ix (.inr ⟨j, by have := fwN_lt hf; omega, rfl⟩))) (mem_of 1 rfl) (B.fr "repr" (mem_of 12 rfl)) rfl (fun _ => rfl) (fun _ => rfl)) D_nil (fun _ => rfl)) (fun _ => rfl)) rfl) ⟨hQ, Nat.le_of_ble_eq_true rfl⟩)))
end
end K03

set_option Elab.async false
set_option maxRecDepth 100000
set_option maxHeartbeats 4000000
namespace K03
open PySem PySem.Spec PyProof.Rows L2 Fw
theorem m_init (A : Str → Addr) : MonoE (sp_init A) := by
  rintro es Q Q' R R' ⟨a, r, d, p, l, b, e, s, n, rfl, ho, h⟩
  refine ⟨plain_cons, fun hq hr => ⟨a, r, d, p, l, b, e, s, n, rfl, ho, ?_⟩⟩
  cases hv : verdict A r d p l b e s n with
  | none =>
    rw [hv] at h
    exact hq _ _ plain_cons h
  | some x =>
    rw [hv] at h
    obtain ⟨C, fs⟩ := x
    exact fun t => hr _ _ _ plain_cons (h t)
theorem init_ok (A : Str → Addr) {r d p l b e s n : D} (ho : okBs [r, d, p, l, b, e, s, n] = true) : InitOk (sp_init A) (A "Case") fNames [r, d, p, l, b, e, s, n] (verdict A r d p l b e s n) (caseT (A "Case") r d p l b e s n) := fun a Q R h => ⟨a, r, d, p, l, b, e, s, n, rfl, ho, h⟩
theorem so_due (A : Str → Addr) {r d p l b e s n : D} (rl : Rp l) (rb : Rp b) (re : Rp e) {Q : D → Prop} (h : Q (dueD (verdictN r d p l b e s n))) : SoC A (verdict A r d p l b e s n) Q := by
  rw [verdict_N]
  cases hv : verdictN r d p l b e s n with
  | none => rw [hv] at h; exact h
  | some x =>
    obtain ⟨y, z⟩ := x
    rw [hv] at h
    obtain ⟨h1, h2⟩ := verdictN_ok rl rb re hv
    exact ⟨y, z, h1, rfl, rfl, h2, h⟩
theorem due_eq (w : Option (Str × D)) {c : CD} : Op2 c (compareOp .Eq) (.lst [dueD w, dueD w]) (.lst [dueD w, dueD w]) (.bl true) := by
  cases w with
  | none => exact o_eqLA rfl rfl (by decide +kernel) rfl (by decide +kernel)
  | some x =>
    obtain ⟨y, z⟩ := x
    have e : ∀ a b : Str, PyData.eqvAll (toPys [.lst [.str a, .str b], .lst [.str a, .str b]]) (toPys [.lst [.str a, .str b], .lst [.str a, .str b]]) = true := fun a b => by
      simp [toPys, toPy, PyData.eqvAll, PyData.eqv]
    have h := @o_eqLA c [dueD (some (y, z)), dueD (some (y, z))] [dueD (some (y, z)), dueD (some (y, z))] rfl rfl rfl rfl (by simp [dueD, wrongD, toPys, toPy, PyData.depthAll, PyData.depth])
    rw [show PyData.eqvAll (toPys [dueD (some (y, z)), dueD (some (y, z))]) (toPys [dueD (some (y, z)), dueD (some (y, z))]) = true from e _ _] at h
    exact h
section
variable {Z : Zd} {A : Str → Addr} {fC : Addr} (B : B03 Z A fC)
def sp__law_are_refused : SpD := fun ds Q _ => ∃ (r d p l b e s n : D), ds = [.tup [r, d, p, l, b, e, s, n]] ∧ okBs [r, d, p, l, b, e, s, n] = true ∧ Rp l ∧ Rp b ∧ Rp e ∧ Q (.d (.bl true))
def rev8 : {α : Type} → List α → List α
  | _, [n, s, e, b, l, p, d, r] => [r, d, p, l, b, e, s, n]
  | _, xs => xs
theorem rev8_ne {α : Type} {xs : List α} (h : xs.length ≠ 8) : rev8 xs = xs := by
  match xs, h with
  | [], _ => rfl
  | [_], _ => rfl
  | [_, _], _ => rfl
  | [_, _, _], _ => rfl
  | [_, _, _, _], _ => rfl
  | [_, _, _, _, _], _ => rfl
  | [_, _, _, _, _, _], _ => rfl
  | [_, _, _, _, _, _, _], _ => rfl
  | [_, _, _, _, _, _, _, _], h => exact absurd rfl h
  | _ :: _ :: _ :: _ :: _ :: _ :: _ :: _ :: _ :: _, _ => rfl
theorem rev8_den {K : PySem.W.Frag} {F : Hp} {ds : List D} {vs : List V} (h : DenAll K F ds vs) : DenAll K F (rev8 ds) (rev8 vs) := by
  by_cases hl : ds.length = 8
  · match ds, hl with
    | [n, s, e, b, l, p, d, r], _ =>
      obtain ⟨v1, _, rfl, h1, v2, _, rfl, h2, v3, _, rfl, h3, v4, _, rfl, h4, v5, _, rfl, h5, v6, _, rfl, h6, v7, _, rfl, h7, v8, _, rfl, h8, hn⟩ := h
      cases hn
      exact ⟨v8, _, rfl, h8, v7, _, rfl, h7, v6, _, rfl, h6, v5, _, rfl, h5, v4, _, rfl, h4, v3, _, rfl, h3, v2, _, rfl, h2, v1, _, rfl, h1, rfl⟩
  · rw [rev8_ne hl, rev8_ne (by rw [h.length]; exact hl)]
    exact h
def byName : List Str := ["notices", "sightings", "end", "begin", "last", "people", "doors", "rooms"]
theorem sc65 : FnScope ["parts", "rooms", "doors", "people", "last", "begin", "end", "sightings", "notices", "due", "told"] ["parts"] (defScope (top 65)) := ⟨rfl, rfl, rfl, by decide +kernel, rfl, by decide +kernel, by decide +kernel⟩
include B in
theorem kn__law_are_refused {f cc P : Addr} {fd : FuncData} (F : FunD Z.K "_law_are_refused" "_law_are_refused" (defArgs (top 65)) (defBody (top 65)) (defScope (top 65)) [] [] f fd) (hcd : fd.code = .ref cc) (M : Mkr Z "_law_are_refused" cc P) (k__law_due : Kn Z 4 "_law_due" (SpP Z sp__law_due)) (kz : KnZ Z 12 11 "_law_caught" (SoC A)) (kC : KnC Z 9 "Case" (A "Case") (SpE Z (sp_init A))) (kW : KnCK Z 9 "Case" (A "Case") byName rev8 (SpE Z (sp_init A))) : FnK Z.P Z.w Z.K Z.mg Z.base (L2.CX Z.P Z.w) 13 f fd ["parts"] (SpP Z sp__law_are_refused) := by
  refine kn_ofP F sc65 (fun ds Q R h => ?_) (by decide) (mkr := some ("_law_are_refused.<locals>.", cc)) (fun p z => by cases z; exact ⟨rfl, hcd⟩) fun E ds Q R h => ?_
  · obtain ⟨r, d, p, l, b, e, s, n, rfl, _⟩ := h; rfl
  · obtain ⟨r, d, p, l, b, e, s, n, rfl, ho, rl, rb, re, hQ⟩ := h
    have S : ScOk ⟨Z, ["parts", "rooms", "doors", "people", "last", "begin", "end", "sightings", "notices", "due", "told"], defScope (top 65), fun _ => true, 12, E, fun _ _ => False, some ("_law_are_refused.<locals>.", cc)⟩ [0, 1, 2, 3, 4, 5, 6, 7, 8, 9, 10] [1, 2, 3, 4, 5, 6, 7, 8, 9, 10] ["_law_due", "_law_caught"] := scOk_of sc65.nd rfl (by kernel_rfl)
    let D8 : D := .tup [r, d, p, l, b, e, s, n]
    let w : D := dueD (verdictN r d p l b e s n)
    refine S_seq (S_asg (vs := [1, 2, 3, 4, 5, 6, 7, 8]) (E_var S 0 rfl rfl rfl) (G_tup (Gs_cons (G_name S 1 rfl rfl rfl) (Gs_cons (G_name S 2 rfl rfl rfl) (Gs_cons (G_name S 3 rfl rfl rfl) (Gs_cons (G_name S 4 rfl rfl rfl) (Gs_cons (G_name S 5 rfl rfl rfl) (Gs_cons (G_name S 6 rfl rfl rfl) (Gs_cons (G_name S 7 rfl rfl rfl) (Gs_cons (G_name S 8 rfl rfl rfl) Gs_nil (fun _ => rfl)) (fun _ => rfl)) (fun _ => rfl)) (fun _ => rfl)) (fun _ => rfl)) (fun _ => rfl)) (fun _ => rfl)) (fun _ => rfl)) (fun _ _ hc h => pg_tup hc h)) ?_ (fun _ _ => rfl) (fun _ _ => rfl) (fun _ => rfl))
    refine S_seq (S_asg (vs := [9]) (E_call S k__law_due (Nat.le_of_ble_eq_true rfl) (D_cons (E_var S 1 rfl rfl rfl) (D_cons (E_var S 2 rfl rfl rfl) (D_cons (E_var S 3 rfl rfl rfl) (D_cons (E_var S 4 rfl rfl rfl) (D_cons (E_var S 5 rfl rfl rfl) (D_cons (E_var S 6 rfl rfl rfl) (D_cons (E_var S 7 rfl rfl rfl) (D_cons (E_var S 8 rfl rfl rfl) D_nil (fun _ => rfl)) (fun _ => rfl)) (fun _ => rfl)) (fun _ => rfl)) (fun _ => rfl)) (fun _ => rfl)) (fun _ => rfl)) (fun _ => rfl)) (fun Q R h => ⟨_, _, _, _, _, _, _, _, rfl, ho, rl, rb, re, h⟩) (mem_of 0 rfl) (fun _ => rfl) (fun _ => rfl)) (G_name S 9 rfl rfl rfl) ?_ (fun _ _ => rfl) (fun _ _ => rfl) (fun _ => rfl))
    refine S_seq (S_asgF S 10 (E_lstN (ds := [w]) (D_cons (E_lam0 S (m := 10) (o := verdict A r d p l b e s n) (z := w) (fr := ["rooms", "doors", "people", "last", "begin", "end", "sightings", "notices"]) (ix := [1, 2, 3, 4, 5, 6, 7, 8]) (xs := [r, d, p, l, b, e, s, n]) [0, 1, 2, 3, 4, 5, 6, 7] ["Case"] kz (Nat.le_refl _) rfl M.tb M.mem M.un (lamP_by (by decide +kernel))
      (capS (capS (capS (capS (capS (capS (capS (capS cap0 rfl rfl rfl rfl) rfl rfl rfl rfl) rfl rfl rfl rfl) rfl rfl rfl rfl) rfl rfl rfl rfl) rfl rfl rfl rfl) rfl rfl rfl rfl) rfl rfl rfl rfl) (by decide +kernel) (fun _ => rfl) (fun _ _ _ _ _ => rfl) (fun t E => scOk_of (by dsimp only [Fw.lamCE]; decide +kernel) rfl (by kernel_rfl))
      (fun t E S2 => ⟨_, _, E_makeZ S2 (kC.add (m_init A)) (Nat.le_of_ble_eq_true rfl) (D_cons (E_var S2 0 rfl rfl rfl) (D_cons (E_var S2 1 rfl rfl rfl) (D_cons (E_var S2 2 rfl rfl rfl) (D_cons (E_var S2 3 rfl rfl rfl) (D_cons (E_var S2 4 rfl rfl rfl) (D_cons (E_var S2 5 rfl rfl rfl) (D_cons (E_var S2 6 rfl rfl rfl) (D_cons (E_var S2 7 rfl rfl rfl) D_nil (fun _ => rfl)) (fun _ => rfl)) (fun _ => rfl)) (fun _ => rfl)) (fun _ => rfl)) (fun _ => rfl)) (fun _ => rfl)) (fun _ => rfl)) (init_ok A ho) (mem_of 0 rfl) (fun _ => rfl) (fun _ => rfl)⟩) (fun Q h => so_due A rl rb re h) (mem_of 1 rfl) (fun _ => rfl)) D_nil (fun _ => rfl)) rfl) rfl rfl (Nat.le_of_ble_eq_true rfl) rfl ?_ (fun _ _ => rfl) (fun _ _ => rfl))
    refine S_seq (S_append1 S 10 (t := .fl [w]) (ds := [w]) (E_lam0 S (m := 10) (o := verdict A r d p l b e s n) (z := w) (fr := ["rooms", "doors", "people", "last", "begin", "end", "sightings", "notices"]) (ix := [1, 2, 3, 4, 5, 6, 7, 8]) (xs := [r, d, p, l, b, e, s, n]) [0, 1, 2, 3, 4, 5, 6, 7] ["Case"] kz (Nat.le_refl _) rfl M.tb M.mem M.un (lamP_by (by decide +kernel))
      (capS (capS (capS (capS (capS (capS (capS (capS cap0 rfl rfl rfl rfl) rfl rfl rfl rfl) rfl rfl rfl rfl) rfl rfl rfl rfl) rfl rfl rfl rfl) rfl rfl rfl rfl) rfl rfl rfl rfl) rfl rfl rfl rfl) (by decide +kernel) (fun _ => rfl) (fun _ _ _ _ _ => rfl) (fun t E => scOk_of (by dsimp only [Fw.lamCE]; decide +kernel) rfl (by kernel_rfl))
      (fun t E S2 => ⟨_, _, E_makeW S2 (kW.add (m_init A)) (Nat.le_of_ble_eq_true rfl) (K_cons (E_var S2 7 rfl rfl rfl) (K_cons (E_var S2 6 rfl rfl rfl) (K_cons (E_var S2 5 rfl rfl rfl) (K_cons (E_var S2 4 rfl rfl rfl) (K_cons (E_var S2 3 rfl rfl rfl) (K_cons (E_var S2 2 rfl rfl rfl) (K_cons (E_var S2 1 rfl rfl rfl) (K_cons (E_var S2 0 rfl rfl rfl) K_nil)))))))) rfl rev8_den (init_ok A ho) (mem_of 0 rfl) (fun _ => rfl) (fun _ => rfl) (fun _ => rfl)⟩) (fun Q h => so_due A rl rb re h) (mem_of 1 rfl) (fun _ => rfl)) rfl rfl ⟨_, rfl⟩ rfl rfl (Nat.le_of_ble_eq_true rfl) ?_ (fun _ => rfl) (fun _ _ _ ho ha => pe_bm PySem.F.plainAttrs_list PySem.F.slot_list_append PySem.F.type_list_append mt_append ho ha) (fun _ => rfl))
    refine S_seq (S_ret (E_freeze (i := 10) rfl rfl (E_cmp (E_var S 10 rfl rfl rfl) (E_lstD (D_cons (E_var S 9 rfl rfl rfl) (D_cons (E_var S 9 rfl rfl rfl) D_nil (fun _ => rfl)) (fun _ => rfl)) rfl) (.d _) (.d _) (due_eq _) rfl)) ⟨hQ, Nat.le_of_ble_eq_true rfl⟩)
end
end K03

set_option Elab.async false
set_option maxRecDepth 100000
set_option maxHeartbeats 4000000
namespace K03
open PySem PySem.Spec PyProof.Rows L2 Fw
section
variable {Z : Zd} {A : Str → Addr} {fC : Addr} (B : B03 Z A fC)
/-! ### the draws -/
structure Dr where
  f : Int
  s : Int
  t : Int
def Dr.ds (d : Dr) : List D := [.int d.f, .int d.s, .int d.t]
def Dr.ok (d : Dr) : Prop := 0 ≤ d.s ∧ d.s < 2147483549
def Dr.seed (d : Dr) : Int := (d.s * (39019 + 6 * d.t) + 14083 * d.t + 6679) % 2147483549
def Dr.next (d : Dr) (n : Int) : Dr := ⟨if 0 < d.f then d.f / n else d.f, d.seed, d.t + 1⟩
def Dr.val (d : Dr) (n : Int) : Int := if 0 < d.f then d.f % n else d.seed / 128 % n
theorem Dr.next_ok (d : Dr) (n : Int) : (d.next n).ok := ⟨Int.emod_nonneg _ (by decide), Int.emod_lt_of_pos _ (by decide)⟩
theorem Dr.val_lo {d : Dr} {n : Int} (h : 0 < n) : 0 ≤ d.val n := by
  unfold Dr.val
  split <;> exact Int.emod_nonneg _ (by omega)
theorem Dr.val_hi {d : Dr} {n : Int} (h : 0 < n) : d.val n < n := by
  unfold Dr.val
  split <;> exact Int.emod_lt_of_pos _ h
def sp_take : List Ent → (Res → List Ent → Prop) → (Value → List (Str × D) → List Ent → Prop) → Prop := fun es Q _ => ∃ (a : Addr) (d : Dr) (n : Int), es = [.ot (some a) (.fl d.ds), .d (.int n)] ∧ d.ok ∧ 0 < n ∧ n < 1073741824 ∧
  Q (.d (.int (d.val n))) [.ot (some a) (.fl (d.next n).ds), .d (.int n)]
theorem sc50 : FnScope ["draws", "many", "figures", "seed", "turn"] ["draws", "many"] (defScope (top 50)) := ⟨rfl, rfl, rfl, by decide +kernel, rfl, by decide +kernel, by decide +kernel⟩
include B in
theorem kn_take {f : Addr} {fd : FuncData} (F : FunD Z.K "_law_take" "_law_take" (defArgs (top 50)) (defBody (top 50)) (defScope (top 50)) [] [] f fd) : FnK Z.P Z.w Z.K Z.mg Z.base (L2.CX Z.P Z.w) 2 f fd ["draws", "many"] (SpE Z sp_take) := by
  refine kn_of F sc50 (fun es Q R h => ?_) (by decide) (mkr := none) (fun _ z => nomatch z) fun E es Q R h => ?_
  · obtain ⟨a, d, n, rfl, _⟩ := h; rfl
  · obtain ⟨a, d, n, rfl, hd, hn, hn2, hQ⟩ := h
    have S : ScOk ⟨Z, ["draws", "many", "figures", "seed", "turn"], defScope (top 50), fun _ => true, 1, E, fun _ _ => False, none⟩ [0, 1, 2, 3, 4] [2, 3, 4] ["int"] := scOk_of sc50.nd rfl (by kernel_rfl)
    obtain ⟨h1, h2⟩ := hd
    have m1 : ∀ j : Int, CMul d.s j := fun j => .inl ⟨by omega, by omega⟩
    refine S_seq (S_unp (vs := [2, 3, 4]) (P_name S 0 rfl rfl rfl) rfl rfl (Gs_cons (G_name S 2 rfl rfl rfl) (Gs_cons (G_name S 3 rfl rfl rfl) (Gs_cons (G_name S 4 rfl rfl rfl) Gs_nil (fun _ => rfl)) (fun _ => rfl)) (fun _ => rfl)) ?_ (fun _ _ hc h => pg_lst hc h) (fun _ _ => rfl) (fun _ _ => rfl) (fun _ => rfl))
    refine S_seq (S_setN (j := 1) (E_op (E_cty S (A_cons (E_op (E_op (E_op (E_var S 3 rfl rfl rfl) (E_op E_int (E_op E_int (E_var S 4 rfl rfl rfl) (.d _) (.d _) (o_mul (.inl ⟨by decide, by decide⟩))) (.d _) (.d _) o_add) (.d _) (.d _) (o_mul (m1 _))) (E_op E_int (E_var S 4 rfl rfl rfl) (.d _) (.d _) (o_mul (.inl ⟨by decide, by decide⟩))) (.d _) (.d _) o_add) E_int (.d _) (.d _) o_add) A_nil (fun _ => rfl))
      (.cons (.d _) .nil) b_int (mem_of 0 rfl) (B.fr "int" (mem_of 5 rfl)) rfl (fun _ => rfl) (fun _ => rfl)) E_int (.d _) (.d _) (o_mod (by decide))) (P_name S 0 rfl rfl rfl) (Pu_hide E_int) rfl rfl rfl ?_ (fun _ _ => rfl) (fun _ _ => rfl) (fun _ _ _ _ a b d => pg_sub a b d))
    refine S_seq (S_setN (j := 2) (E_op (E_var S 4 rfl rfl rfl) E_int (.d _) (.d _) o_add) (P_name S 0 rfl rfl rfl) (Pu_hide E_int) rfl rfl rfl ?_ (fun _ _ => rfl) (fun _ _ => rfl) (fun _ _ _ _ a b d => pg_sub a b d))
    refine S_seq (S_if (T_cmp (E_var S 2 rfl rfl rfl) E_int (.d _) (.d _) o_gt rfl) (fun hf => ?_) (fun hf => S_nil ?_))
    · refine S_seq (S_setN (j := 0) (E_op (E_cty S (A_cons (E_var S 2 rfl rfl rfl) A_nil (fun _ => rfl)) (.cons (.d _) .nil) b_int (mem_of 0 rfl) (B.fr "int" (mem_of 5 rfl)) rfl (fun _ => rfl) (fun _ => rfl)) (E_var S 1 rfl rfl rfl) (.d _) (.d _) (o_div ⟨hn, hn2⟩)) (P_name S 0 rfl rfl rfl) (Pu_hide E_int) rfl rfl rfl ?_ (fun _ _ => rfl) (fun _ _ => rfl) (fun _ _ _ _ a b d => pg_sub a b d))
      refine S_seq (S_ret (E_op (E_cty S (A_cons (E_var S 2 rfl rfl rfl) A_nil (fun _ => rfl)) (.cons (.d _) .nil) b_int (mem_of 0 rfl) (B.fr "int" (mem_of 5 rfl)) rfl (fun _ => rfl) (fun _ => rfl)) (E_var S 1 rfl rfl rfl) (.d _) (.d _) (o_mod hn)) ⟨_, .ot (.d .nil), ?_⟩)
      have hf : 0 < d.f := of_decide_eq_true hf
      unfold Dr.val Dr.next at hQ
      rw [if_pos hf, if_pos hf] at hQ
      exact hQ
    · have hf : ¬ 0 < d.f := of_decide_eq_false hf
      refine S_seq (S_ret (E_op (E_cty S (A_cons (E_op (E_pu (E_ixF (P_name S 0 rfl rfl rfl) (Pu_hide E_int) rfl rfl rfl (fun _ _ => rfl))) E_int (.d _) (.d _) (o_div ⟨by decide, by decide⟩)) A_nil (fun _ => rfl)) (.cons (.d _) .nil) b_int (mem_of 0 rfl) (B.fr "int" (mem_of 5 rfl)) rfl (fun _ => rfl) (fun _ => rfl)) (E_var S 1 rfl rfl rfl) (.d _) (.d _) (o_mod hn)) ⟨_, .ot (.d .nil), ?_⟩)
      unfold Dr.val Dr.next at hQ
      rw [if_neg hf, if_neg hf] at hQ
      exact hQ
theorem atI_nn {α : Type} {xs : List α} {i : Int} {x : α} (h0 : 0 ≤ i) (h1 : i < xs.length) (h : xs[i.toNat]? = some x) : atI xs i = some x := by
  have e : ixN xs.length i = some i.toNat := by
    unfold ixN
    rw [if_pos h0, if_pos h1]
  unfold atI
  rw [e]
  exact h
def sp_pick : List Ent → (Res → List Ent → Prop) → (Value → List (Str × D) → List Ent → Prop) → Prop := fun es Q _ => ∃ (a : Addr) (d : Dr) (y : D) (xs : List D) (x : D), es = [.ot (some a) (.fl d.ds), .d y] ∧ seqD y = some xs ∧ d.ok ∧ 0 < xs.length ∧ xs.length < 1000000 ∧ xs[(d.val xs.length).toNat]? = some x ∧
  Q (.d x) [.ot (some a) (.fl (d.next xs.length).ds), .d y]
theorem sc51 : FnScope ["draws", "some"] ["draws", "some"] (defScope (top 51)) := ⟨rfl, rfl, rfl, by decide +kernel, rfl, by decide +kernel, by decide +kernel⟩
include B in
theorem kn_pick {f : Addr} {fd : FuncData} (F : FunD Z.K "_law_pick" "_law_pick" (defArgs (top 51)) (defBody (top 51)) (defScope (top 51)) [] [] f fd) (kT : Kn Z 2 "_law_take" (SpE Z sp_take)) : FnK Z.P Z.w Z.K Z.mg Z.base (L2.CX Z.P Z.w) 3 f fd ["draws", "some"] (SpE Z sp_pick) := by
  refine kn_of F sc51 (fun es Q R h => ?_) (by decide) (mkr := none) (fun _ z => nomatch z) fun E es Q R h => ?_
  · obtain ⟨a, d, y, xs, x, rfl, _⟩ := h; rfl
  · obtain ⟨a, d, y, xs, x, rfl, hy, hd, hn, hn2, hx, hQ⟩ := h
    have S : ScOk ⟨Z, ["draws", "some"], defScope (top 51), fun _ => true, 2, E, fun _ _ => False, none⟩ [0, 1] [] ["len", "_law_take"] := scOk_of sc51.nd rfl (by kernel_rfl)
    have hp : (0 : Int) < xs.length := by omega
    refine S_seq (S_ret (E_ix (E_var S 1 rfl rfl rfl) (E_callM S kT (Nat.le_refl _) (A_cons (E_own S 0 rfl rfl rfl) (D_cons (E_cb S (A_cons (E_var S 1 rfl rfl rfl) A_nil (fun _ => rfl)) (.cons (.d _) .nil) (b_len hy) (mem_of 0 rfl) (B.fr "len" (mem_of 7 rfl)) rfl (fun _ => rfl) (fun _ => rfl)) D_nil (fun _ => rfl)) (fun _ => rfl)) rfl
      (fun a Q R h => ⟨a, d, _, rfl, hd, hp, by omega, h⟩) (mem_of 1 rfl) (fun _ => rfl) (fun _ => rfl)) (.d _) (.d _) (i_seq hy (atI_nn (Dr.val_lo hp) (Dr.val_hi hp) hx)) (fun _ _ => rfl)) ⟨_, .ot (.d .nil), hQ⟩)
/-! ### the purse -/
def cellOf (ns : List Int) (i : Int) : Int := if i < ns.length then ns.getD i.toNat 0 else 0
def seed0 (ns : List Int) (i : Int) : Int := (cellOf ns i * 31627 + i * 50051 + 80021) % 2147483549
def seedN (os : List Int) (s : Int) : Nat → Int
  | 0 => s
  | j + 1 => (seedN os s j * 41957 + os.getD j 0) % 2147483549
theorem seedN_ok {os : List Int} {s : Int} (h : 0 ≤ s ∧ s < 2147483549) : ∀ j, 0 ≤ seedN os s j ∧ seedN os s j < 2147483549
  | 0 => h
  | j + 1 => ⟨Int.emod_nonneg _ (by decide), Int.emod_lt_of_pos _ (by decide)⟩
def othersOf (ns : List Int) (i : Int) : List Int := if (ns.length : Int) ≤ i then ns.take 4 else []
def absI (i : Int) : Int := if i < 0 then -i else i
def purse (ns : List Int) (i : Int) : Dr := ⟨if 10 ^ 18 ≤ absI (cellOf ns i) then absI (cellOf ns i) else 0, seedN (othersOf ns i) (seed0 ns i) (othersOf ns i).length, 0⟩
theorem seed0_ok (ns : List Int) (i : Int) : 0 ≤ seed0 ns i ∧ seed0 ns i < 2147483549 := ⟨Int.emod_nonneg _ (by decide), Int.emod_lt_of_pos _ (by decide)⟩
theorem purse_ok (ns : List Int) (i : Int) : (purse ns i).ok := seedN_ok (seed0_ok ns i) _
def sp_purse : SpD := fun ds Q _ => ∃ (ns : List Int) (i : Int), ds = [.scr ns, .int i] ∧ 0 ≤ i ∧ i < 100 ∧ ns.length ≤ 63 ∧ Q (.fr (.fl (purse ns i).ds))
theorem sc49 : FnScope ["cells", "at", "cell", "seed", "other"] ["cells", "at"] (defScope (top 49)) := ⟨rfl, rfl, rfl, by decide +kernel, rfl, by decide +kernel, by decide +kernel⟩
include B in
theorem kn_purse {f : Addr} {fd : FuncData} (F : FunD Z.K "_law_purse" "_law_purse" (defArgs (top 49)) (defBody (top 49)) (defScope (top 49)) [] [] f fd) : FnK Z.P Z.w Z.K Z.mg Z.base (L2.CX Z.P Z.w) 2 f fd ["cells", "at"] (SpP Z sp_purse) := by
  refine kn_ofP F sc49 (fun ds Q R h => ?_) (by decide) (mkr := none) (fun _ z => nomatch z) fun E ds Q R h => ?_
  · obtain ⟨ns, i, rfl, _⟩ := h; rfl
  · obtain ⟨ns, i, rfl, h0, h1, hl, hQ⟩ := h
    have S : ScOk ⟨Z, ["cells", "at", "cell", "seed", "other"], defScope (top 49), fun _ => true, 1, E, fun _ _ => False, none⟩ [0, 1, 2, 3, 4] [2, 3, 4] ["len", "int", "abs"] := scOk_of sc49.nd rfl (by kernel_rfl)
    have ci : ∀ j : Int, CMul i j := fun j => .inl ⟨by omega, by omega⟩
    have elen : ((ns.map D.int).length : Int) = ns.length := by rw [List.length_map]
    refine S_seq (S_asg (vs := [2]) (E_if (r := .d (.int (cellOf ns i))) (T_cmp (E_var S 1 rfl rfl rfl) (E_cb S (A_cons (E_var S 0 rfl rfl rfl) A_nil (fun _ => rfl)) (.cons (.d _) .nil) (b_len rfl) (mem_of 0 rfl) (B.fr "len" (mem_of 7 rfl)) rfl (fun _ => rfl) (fun _ => rfl)) (.d _) (.d _) o_lt rfl)
      (fun hu => ?_) (fun hu => E_is E_int ?_)) (G_name S 2 rfl rfl rfl) ?_ (fun _ _ => rfl) (fun _ _ => rfl) (fun _ => rfl))
    · have hu := of_decide_eq_true hu
      rw [elen] at hu
      have hn : i.toNat < ns.length := by omega
      refine E_ix (E_var S 0 rfl rfl rfl) (E_var S 1 rfl rfl rfl) (.d _) (.d _) (i_seq rfl (atI_nn h0 (by rw [elen]; exact hu) ?_)) (fun _ _ => rfl)
      unfold cellOf
      rw [if_pos hu, List.getElem?_map, List.getElem?_eq_getElem hn, List.getD_eq_getElem?_getD, List.getElem?_eq_getElem hn]
      rfl
    · have hu := of_decide_eq_false hu
      rw [elen] at hu
      unfold cellOf
      rw [if_neg hu]
    · refine S_seq (S_asg (vs := [3]) (d := .int (seed0 ns i)) (E_op (E_cty S (A_cons (E_op (E_op (E_op (E_var S 2 rfl rfl rfl) E_int (.d _) (.d _) (o_mul (.inr ⟨by decide, by decide⟩))) (E_op (E_var S 1 rfl rfl rfl) E_int (.d _) (.d _) (o_mul (ci _))) (.d _) (.d _) o_add) E_int (.d _) (.d _) o_add) A_nil (fun _ => rfl)) (.cons (.d _) .nil) b_int (mem_of 1 rfl) (B.fr "int" (mem_of 5 rfl)) rfl (fun _ => rfl) (fun _ => rfl)) E_int (.d _) (.d _) (o_mod (by decide))) (G_name S 3 rfl rfl rfl) ?_ (fun _ _ => rfl) (fun _ _ => rfl) (fun _ => rfl))
      let ρ0 : Env' := [.d (.scr ns), .d (.int i), .d (.int (cellOf ns i)), .d (.int (seed0 ns i)), .un]
      refine S_seq (S_for (ρ1 := ρ0) (vs := [4]) (ds := (othersOf ns i).map D.int) (fun j ρ => ∃ e, ρ = [.d (.scr ns), .d (.int i), .d (.int (cellOf ns i)), .d (.int (seedN (othersOf ns i) (seed0 ns i) j)), e]) (I_lst (x := .lst ((othersOf ns i).map D.int)) ?it rfl) ⟨.un, rfl⟩ (fun j d ρ hj hI => ?turn) (fun ρ hI => ?fin) (fun _ _ => rfl))
      case it =>
        refine E_if (T_cmp (E_var S 1 rfl rfl rfl) (E_cb S (A_cons (E_var S 0 rfl rfl rfl) A_nil (fun _ => rfl)) (.cons (.d _) .nil) (b_len rfl) (mem_of 0 rfl) (B.fr "len" (mem_of 7 rfl)) rfl (fun _ => rfl) (fun _ => rfl)) (.d _) (.d _) o_ge rfl) (fun hu => E_is (E_slice (E_var S 0 rfl rfl rfl) .no (.yes E_int) (.d _) (s_lst rfl)) ?_) (fun hu => E_is (E_lstD D_nil rfl) ?_)
        · have hu := of_decide_eq_true hu
          rw [elen] at hu
          unfold othersOf Fw.cutD
          rw [if_pos hu, List.map_take]
          show D.lst ((List.drop 0 _).take (min 4 (ns.map D.int).length - 0)) = _
          rw [List.drop_zero, Nat.sub_zero]
          congr 1
          rw [List.take_eq_take_iff]
          omega
        · have hu := of_decide_eq_false hu
          rw [elen] at hu
          unfold othersOf
          rw [if_neg hu]
          rfl
      case turn =>
        obtain ⟨e, rfl⟩ := hI
        have hs := seedN_ok (os := othersOf ns i) (seed0_ok ns i) j
        rw [List.getElem?_map] at hj
        cases ho : (othersOf ns i)[j]? with
        | none => rw [ho] at hj; cases hj
        | some o =>
          rw [ho] at hj
          cases hj
          refine ⟨_, G_name S 4 rfl rfl rfl, S_seq (S_asg (vs := [3]) (E_op (E_cty S (A_cons (E_op (E_op (E_var S 3 rfl rfl rfl) E_int (.d _) (.d _) (o_mul (.inr ⟨by decide, by decide⟩))) (E_var S 4 rfl rfl rfl) (.d _) (.d _) o_add) A_nil (fun _ => rfl)) (.cons (.d _) .nil) b_int (mem_of 1 rfl) (B.fr "int" (mem_of 5 rfl)) rfl (fun _ => rfl) (fun _ => rfl)) E_int (.d _) (.d _) (o_mod (by decide))) (G_name S 3 rfl rfl rfl) (S_nil ⟨.d (.int o), ?_⟩) (fun _ _ => rfl) (fun _ _ => rfl) (fun _ => rfl))⟩
          have eo : (othersOf ns i).getD j 0 = o := by rw [List.getD_eq_getElem?_getD, ho]; rfl
          show [Ent.d (.scr ns), .d (.int i), .d (.int (cellOf ns i)), .d (.int ((seedN (othersOf ns i) (seed0 ns i) j * 41957 + o) % 2147483549)), .d (.int o)] = [.d (.scr ns), .d (.int i), .d (.int (cellOf ns i)), .d (.int ((seedN (othersOf ns i) (seed0 ns i) j * 41957 + (othersOf ns i).getD j 0) % 2147483549)), .d (.int o)]
          rw [eo]
      case fin =>
        obtain ⟨e, rfl⟩ := hI
        have eab : ∀ {ρ : Env'}, ρ[2]? = some (.d (.int (cellOf ns i))) → True := fun _ => trivial
        refine S_seq (S_ret (E_lstN (ds := (purse ns i).ds) (D_cons (E_if (T_cmp (E_cb S (A_cons (E_var S 2 rfl rfl rfl) A_nil (fun _ => rfl)) (.cons (.d _) .nil) b_abs (mem_of 2 rfl) (B.fr "abs" (mem_of 1 rfl)) rfl (fun _ => rfl) (fun _ => rfl)) (E_op E_int E_int (.d _) (.d _) (o_pow ⟨by decide, by decide, by decide⟩)) (.d _) (.d _) o_ge rfl)
          (fun hu => E_is (E_cb S (A_cons (E_var S 2 rfl rfl rfl) A_nil (fun _ => rfl)) (.cons (.d _) .nil) b_abs (mem_of 2 rfl) (B.fr "abs" (mem_of 1 rfl)) rfl (fun _ => rfl) (fun _ => rfl)) ?_) (fun hu => E_is E_int ?_)) (D_cons (E_is (E_var S 3 rfl rfl rfl) ?_) (D_cons E_int D_nil (fun _ => rfl)) (fun _ => rfl)) (fun _ => rfl)) rfl) ⟨hQ, Nat.le_of_ble_eq_true rfl⟩)
        · have hu : (10 : Int) ^ 18 ≤ absI (cellOf ns i) := of_decide_eq_true hu
          show D.int (absI (cellOf ns i)) = D.int (if 10 ^ 18 ≤ absI (cellOf ns i) then absI (cellOf ns i) else 0)
          rw [if_pos hu]
        · have hu : ¬ (10 : Int) ^ 18 ≤ absI (cellOf ns i) := of_decide_eq_false hu
          show D.int 0 = D.int (if 10 ^ 18 ≤ absI (cellOf ns i) then absI (cellOf ns i) else 0)
          rw [if_neg hu]
        · show D.int (seedN (othersOf ns i) (seed0 ns i) ((othersOf ns i).map D.int).length) = D.int (seedN (othersOf ns i) (seed0 ns i) (othersOf ns i).length)
          rw [List.length_map]
end
end K03

set_option Elab.async false
set_option maxRecDepth 100000
set_option maxHeartbeats 4000000
namespace K03
open PySem PySem.Spec PyProof.Rows L2 Fw
/-! ### names -/
structure Nm where
  d : Dr
  found : List Str
  spare : List Str
def Nm.pick (s : Nm) : Nat := (s.d.val s.spare.length).toNat
def namesGo (d : Dr) (ws : List Str) : Nat → Nm
  | 0 => ⟨d, [], ws⟩
  | j + 1 => let s := namesGo d ws j
    ⟨s.d.next s.spare.length, s.found ++ [s.spare.getD s.pick ""], s.spare.eraseIdx s.pick⟩
theorem pick_lt {s : Nm} (h : 0 < s.spare.length) : s.pick < s.spare.length := by
  unfold Nm.pick
  have h1 := Dr.val_lo (d := s.d) (n := s.spare.length) (by omega)
  have h2 := Dr.val_hi (d := s.d) (n := s.spare.length) (by omega)
  omega
theorem namesGo_len (d : Dr) (ws : List Str) : ∀ j, j ≤ ws.length → (namesGo d ws j).spare.length = ws.length - j ∧ (namesGo d ws j).found.length = j
  | 0, _ => ⟨rfl, rfl⟩
  | j + 1, h => by
    obtain ⟨h1, h2⟩ := namesGo_len d ws j (by omega)
    have hp := pick_lt (s := namesGo d ws j) (by omega)
    refine ⟨?_, ?_⟩
    · show ((namesGo d ws j).spare.eraseIdx _).length = _
      rw [List.length_eraseIdx_of_lt hp, h1]
      omega
    · show ((namesGo d ws j).found ++ [_]).length = _
      rw [List.length_append, h2]
      rfl
theorem namesGo_mem (d : Dr) (ws : List Str) : ∀ j, j ≤ ws.length → (∀ x ∈ (namesGo d ws j).found, x ∈ ws) ∧ ∀ x ∈ (namesGo d ws j).spare, x ∈ ws
  | 0, _ => ⟨fun x h => absurd h (by simp [namesGo]), fun x h => h⟩
  | j + 1, h => by
    obtain ⟨h1, h2⟩ := namesGo_mem d ws j (by omega)
    have hp := pick_lt (s := namesGo d ws j) (by rw [(namesGo_len d ws j (by omega)).1]; omega)
    refine ⟨fun x hx => ?_, fun x hx => h2 x (List.mem_of_mem_eraseIdx hx)⟩
    rcases List.mem_append.mp (show x ∈ (namesGo d ws j).found ++ [_] from hx) with z | z
    · exact h1 x z
    · rw [List.mem_singleton.mp z]
      refine h2 _ ?_
      rw [List.getD_eq_getElem?_getD, List.getElem?_eq_getElem hp]
      exact List.getElem_mem hp
theorem namesGo_ok {d : Dr} (ws : List Str) (h : d.ok) : ∀ j, (namesGo d ws j).d.ok
  | 0 => h
  | j + 1 => Dr.next_ok _ _
/-- the names in order -/
def namesOf (d : Dr) (ws : List Str) (n : Nat) : List Str := srt (namesGo d ws n).found
theorem namesOf_mem {d : Dr} {ws : List Str} {n : Nat} (h : n ≤ ws.length) : ∀ x ∈ namesOf d ws n, x ∈ ws := fun x hx => (namesGo_mem d ws n h).1 x ((srt_perm _).mem_iff.mp hx)
theorem namesOf_len {d : Dr} {ws : List Str} {n : Nat} (h : n ≤ ws.length) : (namesOf d ws n).length = n := by
  unfold namesOf
  rw [(srt_perm _).length_eq]
  exact (namesGo_len d ws n h).2
theorem er_map {α β : Type} (f : α → β) : ∀ (xs : List α) (j : Nat), (xs.map f).eraseIdx j = (xs.eraseIdx j).map f
  | [], _ => rfl
  | _ :: _, 0 => rfl
  | x :: xs, j + 1 => by
    show f x :: (xs.map f).eraseIdx j = f x :: (xs.eraseIdx j).map f
    rw [er_map f xs j]
theorem seqIndex_nn {i : Int} {n : Nat} (h0 : 0 ≤ i) (h1 : i < n) : seqIndex? i n = some i.toNat := by
  unfold seqIndex?
  simp only [if_neg (by omega : ¬ i < 0)]
  rw [if_pos (by simp [h0, h1])]
def sp_names : SpO := fun es Q _ => ∃ (a : Addr) (d : Dr) (n : Nat) (menu : Str) (ws : List Str), es = [.ot (some a) (.fl d.ds), .d (.int (n : Nat)), .d (.str menu)] ∧ d.ok ∧ n ≤ ws.length ∧ ws.length ≤ 60 ∧ menu.length ≤ 1000 ∧ Txt.split menu " " = ws ∧
  Q (.d (.tup ((namesOf d ws n).map D.str))) [.ot (some a) (.fl (namesGo d ws n).d.ds), .d (.int (n : Nat)), .d (.str menu)]
section
variable {Z : Zd} {A : Str → Addr} {fC : Addr} (B : B03 Z A fC)
theorem sc54 : FnScope ["draws", "many", "some", "found", "spare", "turn"] ["draws", "many", "some"] (defScope (top 54)) := ⟨rfl, rfl, rfl, by decide +kernel, rfl, by decide +kernel, by decide +kernel⟩
include B in
theorem kn_names {f : Addr} {fd : FuncData} (F : FunD Z.K "_law_names" "_law_names" (defArgs (top 54)) (defBody (top 54)) (defScope (top 54)) [] [] f fd) (kT : Kn Z 2 "_law_take" (SpE Z sp_take)) : FnK Z.P Z.w Z.K Z.mg Z.base (L2.CX Z.P Z.w) 3 f fd ["draws", "many", "some"] (SpE Z sp_names) := by
  refine kn_of F sc54 (fun es Q R h => ?_) (by decide) (mkr := none) (fun _ z => nomatch z) fun E es Q R h => ?_
  · obtain ⟨a, d, n, menu, ws, rfl, _⟩ := h; rfl
  · obtain ⟨a, d, n, menu, ws, rfl, hd, hn, hw, hm, hsp, hQ⟩ := h
    have S : ScOk ⟨Z, ["draws", "many", "some", "found", "spare", "turn"], defScope (top 54), fun _ => true, 2, E, fun _ _ => False, none⟩ [0, 1, 2, 3, 4, 5] [3, 4, 5] ["range", "len", "_law_take", "sorted", "tuple"] := scOk_of sc54.nd rfl (by kernel_rfl)
    let ρ0 : Nm → Ent → Env' := fun s e => [.ot (some a) (.fl s.d.ds), .d (.int (n : Nat)), .d (.str menu), .ot none (.fl (s.found.map D.str)), .ot none (.fl (s.spare.map D.str)), e]
    refine S_seq (S_par2 S 3 4 (Ga_cons (E_lstN D_nil rfl) (Ga_cons (E_split (E_var S 2 rfl rfl rfl) E_str rfl (Nat.le_trans hm (Nat.le_of_ble_eq_true rfl)) (fun _ => rfl) (fun _ => rfl) rfl) Ga_nil (fun _ => rfl) rfl) (fun _ => rfl) rfl) rfl rfl (by decide) (by kernel_rfl) (by kernel_rfl) (Nat.le_of_ble_eq_true rfl) (Nat.le_of_ble_eq_true rfl) rfl rfl rfl ?_ (fun X ok => by unfold swappedStores Env.blockKind Env.kindOf; rw [ok.sc]; rfl) (fun _ _ => rfl))
    rw [hsp]
    refine S_seq (S_for (ρ1 := ρ0 (namesGo d ws 0) .un) (vs := [5]) (ds := rangeD 0 ((n : Nat) : Int).toNat) (fun j ρ => ∃ e, ρ = ρ0 (namesGo d ws j) e) (I_range1 S (E_var S 1 rfl rfl rfl) (mem_of 0 rfl) (B.fr "range" (mem_of 11 rfl)) ⟨by omega, by omega⟩ (fun _ => rfl)) ⟨.un, rfl⟩ (fun j x ρ hj hI => ?turn) (fun ρ hI => ?fin) (fun _ _ => rfl))
    case turn =>
      obtain ⟨e, rfl⟩ := hI
      obtain ⟨hj, rfl⟩ := rangeD_at0 hj
      have hj : j < n := by omega
      obtain ⟨hs, hf⟩ := namesGo_len d ws j (by omega)
      have hok := namesGo_ok ws hd j
      have e1 : namesGo d ws (j + 1) = ⟨(namesGo d ws j).d.next (namesGo d ws j).spare.length, (namesGo d ws j).found ++ [(namesGo d ws j).spare.getD (namesGo d ws j).pick ""], (namesGo d ws j).spare.eraseIdx (namesGo d ws j).pick⟩ := rfl
      have hp := pick_lt (s := namesGo d ws j) (by rw [hs]; omega)
      generalize namesGo d ws j = s at hs hf hok e1 hp
      have hl : (0 : Int) < s.spare.length := by omega
      have hv := Dr.val_lo (d := s.d) hl
      have hv2 := Dr.val_hi (d := s.d) hl
      refine ⟨_, G_name S 5 rfl rfl rfl, ?_⟩
      refine S_seq (S_append1 S 3 (d := .str (s.spare.getD s.pick "")) (ds := s.found.map D.str) (ρ1 := [.ot (some a) (.fl (s.d.next s.spare.length).ds), .d (.int (n : Nat)), .d (.str menu), .ot none (.fl (s.found.map D.str)), .ot none (.fl ((s.spare.map D.str).eraseIdx s.pick)), .d (.int (j : Nat))])
        (E_popAt S 4 (n := s.d.val s.spare.length) (j := s.pick) rfl (E_callM S kT (Nat.le_refl _) (A_cons (E_own S 0 rfl rfl rfl) (D_cons (E_is (E_cb S (A_cons (E_own S 4 rfl rfl rfl) A_nil (fun _ => rfl)) (.cons (.fl rfl rfl) .nil) (b_len rfl) (mem_of 1 rfl) (B.fr "len" (mem_of 7 rfl)) rfl (fun _ => rfl) (fun _ => rfl)) (by rw [List.length_map])) D_nil (fun _ => rfl)) (fun _ => rfl)) rfl (fun a Q R h => ⟨a, s.d, _, rfl, hok, hl, by omega, h⟩) (mem_of 2 rfl) (fun _ => rfl) (fun _ => rfl)) rfl rfl rfl ⟨by omega, by omega⟩ (by rw [List.length_map]; exact seqIndex_nn hv hv2) (by rw [List.getElem?_map, List.getD_eq_getElem?_getD, List.getElem?_eq_getElem hp]; rfl) (fun _ _ _ ho ha => pe_bm PySem.F.plainAttrs_list PySem.F.slot_list_pop PySem.F.type_list_pop mt_popAt ho ha) (fun _ => rfl)) rfl rfl ⟨_, rfl⟩ rfl rfl (by rw [List.length_map, hf]; omega) (S_nil ⟨.d (.int (j : Nat)), ?_⟩) (fun _ => rfl) (fun _ _ _ ho ha => pe_bm PySem.F.plainAttrs_list PySem.F.slot_list_append PySem.F.type_list_append mt_append ho ha) (fun _ => rfl))
      show _ = ρ0 (namesGo d ws (j + 1)) _
      rw [e1]
      show [Ent.ot (some a) _, _, _, .ot none (.fl (s.found.map D.str ++ [.str (s.spare.getD s.pick "")])), .ot none (.fl ((s.spare.map D.str).eraseIdx s.pick)), _] = [Ent.ot (some a) _, _, _, .ot none (.fl ((s.found ++ [s.spare.getD s.pick ""]).map D.str)), .ot none (.fl ((s.spare.eraseIdx s.pick).map D.str)), _]
      rw [List.map_append, er_map]
      rfl
    case fin =>
      obtain ⟨e, rfl⟩ := hI
      rw [show (rangeD 0 ((n : Nat) : Int).toNat).length = n by unfold rangeD; simp]
      have hf := (namesGo_len d ws n hn).2
      exact S_seq (S_ret (E_forget (E_cty S (A_cons (E_cb S (A_cons (E_own S 3 rfl rfl rfl) A_nil (fun _ => rfl)) (.cons (.fl rfl rfl) .nil) (b_sortedS (by rw [hf]; omega)) (mem_of 3 rfl) (B.fr "sorted" (mem_of 13 rfl)) rfl (fun _ => rfl) (fun _ => rfl)) A_nil (fun _ => rfl)) (.cons (.d _) .nil) (b_tun rfl) (mem_of 4 rfl) (B.fr "tuple" (mem_of 15 rfl)) rfl (fun _ => rfl) (fun _ => rfl))) ⟨_, .ot (.d (.d .nil)), hQ⟩)
end
end K03

set_option Elab.async false
set_option maxRecDepth 100000
set_option maxHeartbeats 4000000
namespace K03
open PySem PySem.Spec PyProof.Rows L2 Fw
theorem getD_some {xs : List D} {k : Nat} (h : k < xs.length) : xs[k]? = some (xs.getD k .non) := by
  rw [List.getD_eq_getElem?_getD, List.getElem?_eq_getElem h]
  rfl
/-- one of some things -/
def pk (d : Dr) (xs : List D) : D := xs.getD (d.val xs.length).toNat .non
theorem pk_at {d : Dr} {xs : List D} (h : 0 < xs.length) : xs[(d.val xs.length).toNat]? = some (pk d xs) := by
  have h1 := Dr.val_lo (d := d) (n := xs.length) (by omega)
  have h2 := Dr.val_hi (d := d) (n := xs.length) (by omega)
  exact getD_some (by omega)
theorem pk_mem {d : Dr} {xs : List D} (h : 0 < xs.length) : pk d xs ∈ xs := List.mem_of_getElem? (pk_at h)
/-- 2, 3 or 9 -/
def w3 (d : Dr) : Int := if (d.val 3).toNat = 0 then 2 else if (d.val 3).toNat = 1 then 3 else 9
theorem w3_at (d : Dr) : ([.int 2, .int 3, .int 9] : List D)[(d.val 3).toNat]? = some (.int (w3 d)) := by
  have h1 := Dr.val_lo (d := d) (n := 3) (by omega)
  have h2 := Dr.val_hi (d := d) (n := 3) (by omega)
  unfold w3
  have : (d.val 3).toNat = 0 ∨ (d.val 3).toNat = 1 ∨ (d.val 3).toNat = 2 := by omega
  rcases this with z | z | z <;> rw [z] <;> rfl
theorem w3_pos (d : Dr) : 0 < w3 d ∧ w3 d < 10 := by
  unfold w3
  split
  · omega
  · split <;> omega
def doorT (rs : List D) (k j : Nat) (b : Bool) : List D := if b then [.tup [rs.getD k .non, rs.getD j .non]] else []
def doorIn (rs : List D) (k : Nat) (s : Dr × List D) : Nat → Dr × List D
  | 0 => s
  | j + 1 => let t := doorIn rs k s j
    (t.1.next 4, t.2 ++ doorT rs k (k + 1 + j) (decide (0 < t.1.val 4)))
def doorOut (rs : List D) (d : Dr) : Nat → Dr × List D
  | 0 => (d, [])
  | k + 1 => doorIn rs k (doorOut rs d k) (rs.length - (k + 1))
def sightGo (ps rs : List D) (last : Int) (d : Dr) : Nat → Dr × List D
  | 0 => (d, [])
  | j + 1 => let t := sightGo ps rs last d j
    let d2 := t.1.next ps.length
    let d3 := d2.next (last + 1)
    let d4 := d3.next rs.length
    let d5 := d4.next 3
    (d5.next (w3 d4), t.2 ++ [.tup [pk t.1 ps, .int (d2.val (last + 1)), pk d3 rs, .int (1 + d5.val (w3 d4))]])
def noteGo (rs : List D) (last : Int) (d : Dr) : Nat → Dr × List D
  | 0 => (d, [])
  | j + 1 => let t := noteGo rs last d j
    let d3 := t.1.next (last + 1)
    let d4 := d3.next rs.length
    let d5 := d4.next 3
    (d5.next (w3 d4), t.2 ++ [.tup [.int (t.1.val (last + 1)), pk d3 rs, .int (1 + d5.val (w3 d4))]])
theorem doorIn_ok {rs : List D} {k : Nat} {s : Dr × List D} (h : s.1.ok) : ∀ j, (doorIn rs k s j).1.ok
  | 0 => h
  | j + 1 => Dr.next_ok _ _
theorem doorOut_ok {rs : List D} {d : Dr} (h : d.ok) : ∀ k, (doorOut rs d k).1.ok
  | 0 => h
  | k + 1 => doorIn_ok (doorOut_ok h k) _
theorem sightGo_ok {ps rs : List D} {last : Int} {d : Dr} (h : d.ok) : ∀ j, (sightGo ps rs last d j).1.ok
  | 0 => h
  | j + 1 => Dr.next_ok _ _
theorem noteGo_ok {rs : List D} {last : Int} {d : Dr} (h : d.ok) : ∀ j, (noteGo rs last d j).1.ok
  | 0 => h
  | j + 1 => Dr.next_ok _ _
theorem doorT_len {rs : List D} {k j : Nat} {b : Bool} : (doorT rs k j b).length ≤ 1 := by
  unfold doorT
  split <;> simp
theorem doorIn_len {rs : List D} {k : Nat} {s : Dr × List D} : ∀ j, (doorIn rs k s j).2.length ≤ s.2.length + j
  | 0 => Nat.le_refl _
  | j + 1 => by
    have h1 := doorIn_len (rs := rs) (k := k) (s := s) j
    have h2 := doorT_len (rs := rs) (k := k) (j := k + 1 + j) (b := decide (0 < (doorIn rs k s j).1.val 4))
    show ((doorIn rs k s j).2 ++ doorT rs k (k + 1 + j) (decide (0 < (doorIn rs k s j).1.val 4))).length ≤ _
    rw [List.length_append]
    omega
theorem doorOut_len {rs : List D} {d : Dr} (h : rs.length ≤ 8) : ∀ k, (doorOut rs d k).2.length ≤ 8 * k
  | 0 => Nat.le_refl _
  | k + 1 => by
    have h1 := doorOut_len (d := d) h k
    have h2 := doorIn_len (rs := rs) (k := k) (s := doorOut rs d k) (rs.length - (k + 1))
    show (doorIn rs k (doorOut rs d k) (rs.length - (k + 1))).2.length ≤ _
    omega
theorem sightGo_len {ps rs : List D} {last : Int} {d : Dr} : ∀ j, (sightGo ps rs last d j).2.length = j
  | 0 => rfl
  | j + 1 => by
    show ((sightGo ps rs last d j).2 ++ [_]).length = _
    rw [List.length_append, sightGo_len j]
    rfl
theorem noteGo_len {rs : List D} {last : Int} {d : Dr} : ∀ j, (noteGo rs last d j).2.length = j
  | 0 => rfl
  | j + 1 => by
    show ((noteGo rs last d j).2 ++ [_]).length = _
    rw [List.length_append, noteGo_len j]
    rfl
def roomW : List Str := ["attic", "begin", "cellar", "den", "door", "hall", "safe", "yard"]
def manW : List Str := ["ann", "ben", "cat", "dan", "eva", "last", "saw", "zoe"]
theorem split_room : Txt.split "attic begin cellar den door hall safe yard" " " = roomW := by decide +kernel
theorem split_man : Txt.split "ann ben cat dan eva last saw zoe" " " = manW := by decide +kernel
def minI (i j : Int) : Int := if j < i then j else i
/-- the parts, the draws behind -/
structure Cs where
  d : Dr
  rs : List D
  doors : List D
  ps : List D
  b : D
  e : D
  sig : List D
  nots : List D
def csOf (d : Dr) (many crowd : Nat) (last records : Int) : Cs :=
  let d1 := (namesGo d roomW many).d
  let rs := (namesOf d roomW many).map D.str
  let d2 := (namesGo d1 manW crowd).d
  let ps := (namesOf d1 manW crowd).map D.str
  let t := doorOut rs d2 rs.length
  let n1 := t.1.val (records + 1)
  let u := sightGo ps rs last (t.1.next (records + 1)) n1.toNat
  let mm := minI 7 (records / 2 + 1)
  let n2 := u.1.val mm
  let v := noteGo rs last (u.1.next mm) n2.toNat
  ⟨(v.1.next rs.length).next rs.length, rs, t.2, ps, pk v.1 rs, pk (v.1.next rs.length) rs, u.2, v.2⟩
def Cs.parts (c : Cs) (last : Int) : List D := [.tup c.rs, .tup c.doors, .tup c.ps, .int last, c.b, c.e, .tup c.sig, .tup c.nots]
def sp_case : SpO := fun es Q _ => ∃ (a : Addr) (d : Dr) (many crowd : Nat) (last records : Int), es = [.ot (some a) (.fl d.ds), .d (.int (many : Nat)), .d (.int (crowd : Nat)), .d (.int last), .d (.int records)] ∧ d.ok ∧ 0 < many ∧ many ≤ 8 ∧ 0 < crowd ∧ crowd ≤ 8 ∧ 0 ≤ last ∧ last ≤ 100 ∧ 0 ≤ records ∧ records ≤ 100 ∧
  Q (.d (.tup ((csOf d many crowd last records).parts last))) [.ot (some a) (.fl (csOf d many crowd last records).d.ds), .d (.int (many : Nat)), .d (.int (crowd : Nat)), .d (.int last), .d (.int records)]
theorem rangeD_atG {lo : Int} {n : Nat} {j : Nat} {d : D} (h : (rangeD lo n)[j]? = some d) : j < n ∧ d = .int (lo + j) := by
  unfold rangeD at h
  rw [List.getElem?_map] at h
  cases e : (List.range n)[j]? with
  | none => rw [e] at h; cases h
  | some i =>
    rw [e] at h
    cases h
    obtain ⟨h1, h2⟩ := List.getElem?_eq_some_iff.mp e
    simp at h1 h2
    subst h2
    exact ⟨h1, rfl⟩
theorem small_line {n : Nat} (h : n ≤ 1000000) : n ≤ sizeLine := by rw [sizeLine_eq]; omega
section
variable {Z : Zd} {A : Str → Addr} {fC : Addr} (B : B03 Z A fC)
theorem sc55 : FnScope ["draws", "many", "crowd", "last", "records", "rooms", "doors", "people", "k", "j", "sightings", "notices", "turn", "row"] ["draws", "many", "crowd", "last", "records"] (defScope (top 55)) := ⟨rfl, rfl, rfl, by decide +kernel, rfl, by decide +kernel, by decide +kernel⟩
include B in
theorem kn_case {f : Addr} {fd : FuncData} (F : FunD Z.K "_law_case" "_law_case" (defArgs (top 55)) (defBody (top 55)) (defScope (top 55)) [] [] f fd) (k__law_take : Kn Z 2 "_law_take" (SpE Z sp_take)) (k__law_pick : Kn Z 3 "_law_pick" (SpE Z sp_pick)) (k__law_names : Kn Z 3 "_law_names" (SpE Z sp_names)) : FnK Z.P Z.w Z.K Z.mg Z.base (L2.CX Z.P Z.w) 4 f fd ["draws", "many", "crowd", "last", "records"] (SpE Z sp_case) := by
  refine kn_of F sc55 (fun es Q R h => ?_) (by decide) (mkr := none) (fun _ z => nomatch z) fun E es Q R h => ?_
  · obtain ⟨a, d, many, crowd, last, records, rfl, _⟩ := h; rfl
  · obtain ⟨a, d, many, crowd, last, records, rfl, hd, hm0, hm, hc0, hc, hl0, hl, hr0, hr, hQ⟩ := h
    have S : ScOk ⟨Z, ["draws", "many", "crowd", "last", "records", "rooms", "doors", "people", "k", "j", "sightings", "notices", "turn", "row"], defScope (top 55), fun _ => true, 3, E, fun _ _ => False, none⟩ [0, 1, 2, 3, 4, 5, 6, 7, 8, 9, 10, 11, 12, 13] [5, 6, 7, 8, 9, 10, 11, 12, 13] ["_law_names", "range", "_law_take", "_law_pick", "min"] := scOk_of sc55.nd rfl (by kernel_rfl)
    obtain ⟨d1, e1⟩ : ∃ x, x = (namesGo d roomW many).d := ⟨_, rfl⟩
    obtain ⟨rs, ers⟩ : ∃ x, x = (namesOf d roomW many).map D.str := ⟨_, rfl⟩
    obtain ⟨d2, e2⟩ : ∃ x, x = (namesGo d1 manW crowd).d := ⟨_, rfl⟩
    obtain ⟨ps, eps⟩ : ∃ x, x = (namesOf d1 manW crowd).map D.str := ⟨_, rfl⟩
    have o1 : d1.ok := by rw [e1]; exact namesGo_ok _ hd _
    have o2 : d2.ok := by rw [e2]; exact namesGo_ok _ o1 _
    have lrs : rs.length = many := by rw [ers, List.length_map]; exact namesOf_len hm
    have lps : ps.length = crowd := by rw [eps, List.length_map]; exact namesOf_len hc
    unfold csOf Cs.parts at hQ
    dsimp only at hQ
    rw [← e1, ← ers, ← e2, ← eps] at hQ
    have pr : (0 : Int) < rs.length := by omega
    have pp : (0 : Int) < ps.length := by omega
    let ρ0 : Dr → D → Ent → Ent → Ent → Ent → Ent → Ent → Env' := fun d ds k j s n t r => [.ot (some a) (.fl d.ds), .d (.int (many : Nat)), .d (.int (crowd : Nat)), .d (.int last), .d (.int records), .d (.tup rs), .d ds, .d (.tup ps), k, j, s, n, t, r]
    refine S_seq (S_par2 S 5 6 (Ga_cons (E_is (E_callM S k__law_names (Nat.le_of_ble_eq_true rfl) (A_cons (E_own S 0 rfl rfl rfl) (D_cons (E_var S 1 rfl rfl rfl) (D_cons E_str D_nil (fun _ => rfl)) (fun _ => rfl)) (fun _ => rfl)) rfl (fun a Q R h => ⟨a, d, _, _, roomW, rfl, hd, hm, Nat.le_of_ble_eq_true rfl, Nat.le_of_ble_eq_true rfl, split_room, h⟩) (mem_of 0 rfl) (fun _ => rfl) (fun _ => rfl)) (by rw [← ers])) (Ga_cons (E_tupD D_nil rfl) Ga_nil (fun _ => rfl) rfl) (fun _ => rfl) rfl) rfl rfl (by decide) (by kernel_rfl) (by kernel_rfl) (Nat.le_of_ble_eq_true rfl) (Nat.le_of_ble_eq_true rfl) rfl rfl rfl ?_ (fun X ok => by unfold swappedStores Env.blockKind Env.kindOf; rw [ok.sc]; rfl) (fun _ _ => rfl))
    rw [← e1]
    refine S_seq (S_asg (vs := [7]) (d := .tup ps) (E_is (E_callM S k__law_names (Nat.le_of_ble_eq_true rfl) (A_cons (E_own S 0 rfl rfl rfl) (D_cons (E_var S 2 rfl rfl rfl) (D_cons E_str D_nil (fun _ => rfl)) (fun _ => rfl)) (fun _ => rfl)) rfl (fun a Q R h => ⟨a, d1, _, _, manW, rfl, o1, hc, Nat.le_of_ble_eq_true rfl, Nat.le_of_ble_eq_true rfl, split_man, h⟩) (mem_of 0 rfl) (fun _ => rfl) (fun _ => rfl)) (by rw [← eps])) (G_name S 7 rfl rfl rfl) ?_ (fun _ _ => rfl) (fun _ _ => rfl) (fun _ => rfl))
    rw [← e2]
    refine S_seq (S_for (ρ1 := ρ0 d2 (.tup []) .un .un .un .un .un .un) (vs := [8]) (ds := rangeD 0 ((many : Nat) : Int).toNat) (fun k ρ => ∃ e1 e2, ρ = ρ0 (doorOut rs d2 k).1 (.tup (doorOut rs d2 k).2) e1 e2 .un .un .un .un) (I_range1 S (E_var S 1 rfl rfl rfl) (mem_of 1 rfl) (B.fr "range" (mem_of 11 rfl)) ⟨by omega, by omega⟩ (fun _ => rfl)) ⟨.un, .un, rfl⟩ (fun k x ρ hk hI => ?turn) (fun ρ hI => ?fin) (fun _ _ => rfl))
    case turn =>
      obtain ⟨ea, eb, rfl⟩ := hI
      obtain ⟨hk, rfl⟩ := rangeD_at0 hk
      have hk : k < many := by omega
      have ok0 := doorOut_ok (rs := rs) o2 k
      have ll0 := doorOut_len (rs := rs) (d := d2) (by omega) k
      have es : doorOut rs d2 (k + 1) = doorIn rs k (doorOut rs d2 k) (rs.length - (k + 1)) := rfl
      generalize doorOut rs d2 k = s0 at ok0 ll0 es
      refine ⟨_, G_name S 8 rfl rfl rfl, ?_⟩
      refine S_seq (S_for (ρ1 := ρ0 s0.1 (.tup s0.2) (.d (.int (k : Nat))) eb .un .un .un .un) (vs := [9]) (ds := rangeD ((k : Nat) + 1) (((many : Nat) : Int) - ((k : Nat) + 1)).toNat) (fun j ρ => ∃ e2, ρ = ρ0 (doorIn rs k s0 j).1 (.tup (doorIn rs k s0 j).2) (.d (.int (k : Nat))) e2 .un .un .un .un) (I_range2 S (E_op (E_var S 8 rfl rfl rfl) E_int (.d _) (.d _) o_add) (E_var S 1 rfl rfl rfl) (mem_of 1 rfl) (B.fr "range" (mem_of 11 rfl)) ⟨by omega, by omega, by omega, by omega⟩ (fun _ => rfl) (fun _ => rfl)) ⟨eb, rfl⟩ (fun j x ρ hj hI => ?turn2) (fun ρ hI => ?fin2) (fun _ _ => rfl))
      case turn2 =>
        obtain ⟨ec, rfl⟩ := hI
        obtain ⟨hj, rfl⟩ := rangeD_atG hj
        have hj : k + 1 + j < many := by omega
        have ok1 := doorIn_ok (rs := rs) (k := k) ok0 j
        have ll1 := doorIn_len (rs := rs) (k := k) (s := s0) j
        have es2 : doorIn rs k s0 (j + 1) = ((doorIn rs k s0 j).1.next 4, (doorIn rs k s0 j).2 ++ doorT rs k (k + 1 + j) (decide (0 < (doorIn rs k s0 j).1.val 4))) := rfl
        generalize doorIn rs k s0 j = s1 at ok1 ll1 es2
        rw [show (((k : Nat) : Int) + 1 + (j : Nat)) = ((k + 1 + j : Nat) : Int) by omega]
        refine ⟨_, G_name S 9 rfl rfl rfl, ?_⟩
        have hd1 := doorT_len (rs := rs) (k := k) (j := k + 1 + j) (b := decide (0 < s1.1.val 4))
        refine S_seq (S_asg (vs := [6]) (ρ1 := ρ0 (s1.1.next 4) (.tup s1.2) (.d (.int (k : Nat))) (.d (.int ((k + 1 + j : Nat) : Int))) .un .un .un .un) (d := .tup (s1.2 ++ doorT rs k (k + 1 + j) (decide (0 < s1.1.val 4)))) (E_op (E_var S 6 rfl rfl rfl) (E_if (r := .d (.tup (doorT rs k (k + 1 + j) (decide (0 < s1.1.val 4))))) (T_cmp (E_callM S k__law_take (Nat.le_of_ble_eq_true rfl) (A_cons (E_own S 0 rfl rfl rfl) (D_cons E_int D_nil (fun _ => rfl)) (fun _ => rfl)) rfl (fun a Q R h => ⟨a, s1.1, 4, rfl, ok1, by decide, by decide, h⟩) (mem_of 2 rfl) (fun _ => rfl) (fun _ => rfl)) E_int (.d _) (.d _) o_gt rfl) (fun hu => ?yes) (fun hu => ?no)) (.d _) (.d _) (o_addT (small_line (by omega)))) (G_name S 6 rfl rfl rfl) (S_nil ?nx0) (fun _ _ => rfl) (fun _ _ => rfl) (fun _ => rfl))
        case yes =>
          rw [hu]
          exact (E_tupD (D_cons (E_tupD (D_cons (E_ix (E_var S 5 rfl rfl rfl) (E_var S 8 rfl rfl rfl) (.d _) (.d _) (i_seq rfl (atI_at (getD_some (by omega : k < rs.length)))) (fun _ _ => rfl)) (D_cons (E_ix (E_var S 5 rfl rfl rfl) (E_var S 9 rfl rfl rfl) (.d _) (.d _) (i_seq rfl (atI_at (getD_some (by omega : k + 1 + j < rs.length)))) (fun _ _ => rfl)) D_nil (fun _ => rfl)) (fun _ => rfl)) rfl) D_nil (fun _ => rfl)) rfl)
        case no =>
          rw [hu]
          exact E_tupD D_nil rfl
        case nx0 => exact ⟨_, by rw [es2]; rfl⟩
      case fin2 =>
        obtain ⟨ec, rfl⟩ := hI
        refine S_nil ⟨.d (.int (k : Nat)), ec, ?_⟩
        rw [es, show (rangeD (((k : Nat) : Int) + 1) (((many : Nat) : Int) - (((k : Nat) : Int) + 1)).toNat).length = rs.length - (k + 1) by unfold rangeD; simp; omega]
    case fin =>
      obtain ⟨ea, eb, rfl⟩ := hI
      rw [show (rangeD 0 ((many : Nat) : Int).toNat).length = rs.length by unfold rangeD; simp; omega]
      obtain ⟨t, et⟩ : ∃ x, x = doorOut rs d2 rs.length := ⟨_, rfl⟩
      have o3 : t.1.ok := by rw [et]; exact doorOut_ok o2 _
      rw [← et] at hQ ⊢
      refine S_seq (S_asg (vs := [10, 11]) (E_tupD (D_cons (E_tupD D_nil rfl) (D_cons (E_tupD D_nil rfl) D_nil (fun _ => rfl)) (fun _ => rfl)) rfl) (G_tup (Gs_cons (G_name S 10 rfl rfl rfl) (Gs_cons (G_name S 11 rfl rfl rfl) Gs_nil (fun _ => rfl)) (fun _ => rfl)) (fun _ _ hc h => pg_tup hc h)) ?_ (fun _ _ => rfl) (fun X ok => by unfold swappedStores Env.blockKind Env.kindOf; rw [ok.sc]; rfl) (fun _ => rfl))
      have v1 := Dr.val_lo (d := t.1) (n := records + 1) (by omega)
      have v2 := Dr.val_hi (d := t.1) (n := records + 1) (by omega)
      have hn1 : (t.1.val (records + 1)).toNat ≤ 100 := by omega
      have o4 : (t.1.next (records + 1)).ok := Dr.next_ok _ _
      refine S_seq (S_for (ρ1 := ρ0 (t.1.next (records + 1)) (.tup t.2) ea eb (.d (.tup [])) (.d (.tup [])) .un .un) (vs := [12]) (ds := rangeD 0 (t.1.val (records + 1)).toNat) (fun k ρ => ∃ e1 e2, ρ = ρ0 (sightGo ps rs last (t.1.next (records + 1)) k).1 (.tup t.2) ea eb (.d (.tup (sightGo ps rs last (t.1.next (records + 1)) k).2)) (.d (.tup [])) e1 e2) (I_range1 S (E_callM S k__law_take (Nat.le_of_ble_eq_true rfl) (A_cons (E_own S 0 rfl rfl rfl) (D_cons (E_op (E_var S 4 rfl rfl rfl) E_int (.d _) (.d _) o_add) D_nil (fun _ => rfl)) (fun _ => rfl)) rfl (fun a Q R h => ⟨a, t.1, _, rfl, o3, by omega, by omega, h⟩) (mem_of 2 rfl) (fun _ => rfl) (fun _ => rfl)) (mem_of 1 rfl) (B.fr "range" (mem_of 11 rfl)) ⟨by omega, by omega⟩ (fun _ => rfl)) ⟨.un, .un, rfl⟩ (fun k x ρ hk hI => ?turnS) (fun ρ hI => ?finS) (fun _ _ => rfl))
      case turnS =>
        obtain ⟨ec, ed, rfl⟩ := hI
        obtain ⟨hk, rfl⟩ := rangeD_at0 hk
        have ok0 := sightGo_ok (ps := ps) (rs := rs) (last := last) o4 k
        have ll0 := sightGo_len (ps := ps) (rs := rs) (last := last) (d := t.1.next (records + 1)) k
        have es := show sightGo ps rs last (t.1.next (records + 1)) (k + 1) = (((((((sightGo ps rs last (t.1.next (records + 1)) k).1.next ps.length).next (last + 1)).next rs.length).next 3).next (w3 ((((sightGo ps rs last (t.1.next (records + 1)) k).1.next ps.length).next (last + 1)).next rs.length))), (sightGo ps rs last (t.1.next (records + 1)) k).2 ++ [.tup [pk (sightGo ps rs last (t.1.next (records + 1)) k).1 ps, .int (((sightGo ps rs last (t.1.next (records + 1)) k).1.next ps.length).val (last + 1)), pk (((sightGo ps rs last (t.1.next (records + 1)) k).1.next ps.length).next (last + 1)) rs, .int (1 + (((((sightGo ps rs last (t.1.next (records + 1)) k).1.next ps.length).next (last + 1)).next rs.length).next 3).val (w3 ((((sightGo ps rs last (t.1.next (records + 1)) k).1.next ps.length).next (last + 1)).next rs.length)))]]) from rfl
        generalize sightGo ps rs last (t.1.next (records + 1)) k = s0 at ok0 ll0 es
        refine ⟨_, G_name S 12 rfl rfl rfl, ?_⟩
        refine S_seq (S_asg (vs := [13]) (E_tupD (D_cons (E_callM S k__law_pick (Nat.le_of_ble_eq_true rfl) (A_cons (E_own S 0 rfl rfl rfl) (D_cons (E_var S 7 rfl rfl rfl) D_nil (fun _ => rfl)) (fun _ => rfl)) rfl (fun a Q R h => ⟨a, s0.1, .tup ps, ps, _, rfl, rfl, ok0, by omega, by omega, pk_at (by omega), h⟩) (mem_of 3 rfl) (fun _ => rfl) (fun _ => rfl)) (D_cons (E_callM S k__law_take (Nat.le_of_ble_eq_true rfl) (A_cons (E_own S 0 rfl rfl rfl) (D_cons (E_op (E_var S 3 rfl rfl rfl) E_int (.d _) (.d _) o_add) D_nil (fun _ => rfl)) (fun _ => rfl)) rfl (fun a Q R h => ⟨a, _, _, rfl, Dr.next_ok _ _, by omega, by omega, h⟩) (mem_of 2 rfl) (fun _ => rfl) (fun _ => rfl)) (D_cons (E_callM S k__law_pick (Nat.le_of_ble_eq_true rfl) (A_cons (E_own S 0 rfl rfl rfl) (D_cons (E_var S 5 rfl rfl rfl) D_nil (fun _ => rfl)) (fun _ => rfl)) rfl (fun a Q R h => ⟨a, _, .tup rs, rs, _, rfl, rfl, Dr.next_ok _ _, by omega, by omega, pk_at (by omega), h⟩) (mem_of 3 rfl) (fun _ => rfl) (fun _ => rfl)) D_nil (fun _ => rfl)) (fun _ => rfl)) (fun _ => rfl)) rfl) (G_name S 13 rfl rfl rfl) ?_ (fun _ _ => rfl) (fun _ _ => rfl) (fun _ => rfl))
        have hw := w3_pos (((s0.1.next ps.length).next (last + 1)).next rs.length)
        refine S_seq (S_asg (vs := [10]) (E_op (E_var S 10 rfl rfl rfl) (E_tupD (D_cons (E_op (E_var S 13 rfl rfl rfl) (E_tupD (D_cons (E_op E_int (E_callM S k__law_take (Nat.le_of_ble_eq_true rfl) (A_cons (E_own S 0 rfl rfl rfl) (D_cons (E_callM S k__law_pick (Nat.le_of_ble_eq_true rfl) (A_cons (E_own S 0 rfl rfl rfl) (D_cons (E_lstD (D_cons E_int (D_cons E_int (D_cons E_int D_nil (fun _ => rfl)) (fun _ => rfl)) (fun _ => rfl)) rfl) D_nil (fun _ => rfl)) (fun _ => rfl)) rfl (fun a Q R h => ⟨a, _, _, [.int 2, .int 3, .int 9], _, rfl, rfl, Dr.next_ok _ _, by decide, by decide, w3_at _, h⟩) (mem_of 3 rfl) (fun _ => rfl) (fun _ => rfl)) D_nil (fun _ => rfl)) (fun _ => rfl)) rfl (fun a Q R h => ⟨a, _, _, rfl, Dr.next_ok _ _, hw.1, by omega, h⟩) (mem_of 2 rfl) (fun _ => rfl) (fun _ => rfl)) (.d _) (.d _) o_add) D_nil (fun _ => rfl)) rfl) (.d _) (.d _) (o_addT (small_line (by simp)))) D_nil (fun _ => rfl)) rfl) (.d _) (.d _) (o_addT (small_line (by simp; omega)))) (G_name S 10 rfl rfl rfl) (S_nil ?nx1) (fun _ _ => rfl) (fun _ _ => rfl) (fun _ => rfl))
        case nx1 => exact ⟨_, _, by rw [es]; rfl⟩
      case finS =>
        obtain ⟨ec, ed, rfl⟩ := hI
        rw [show (rangeD 0 (t.1.val (records + 1)).toNat).length = (t.1.val (records + 1)).toNat by unfold rangeD; simp]
        obtain ⟨u, eu⟩ : ∃ x, x = sightGo ps rs last (t.1.next (records + 1)) (t.1.val (records + 1)).toNat := ⟨_, rfl⟩
        have o5 : u.1.ok := by rw [eu]; exact sightGo_ok o4 _
        rw [← eu] at hQ ⊢
        have hmm : 0 < minI 7 (records / 2 + 1) ∧ minI 7 (records / 2 + 1) < 10 := by
          unfold minI
          split <;> omega
        generalize emm : minI 7 (records / 2 + 1) = mm at hmm hQ
        have v3 := Dr.val_lo (d := u.1) hmm.1
        have v4 := Dr.val_hi (d := u.1) hmm.1
        have o6 : (u.1.next mm).ok := Dr.next_ok _ _
        refine S_seq (S_for (ρ1 := ρ0 (u.1.next mm) (.tup t.2) ea eb (.d (.tup u.2)) (.d (.tup [])) ec ed) (vs := [12]) (ds := rangeD 0 (u.1.val mm).toNat) (fun k ρ => ∃ e1 e2, ρ = ρ0 (noteGo rs last (u.1.next mm) k).1 (.tup t.2) ea eb (.d (.tup u.2)) (.d (.tup (noteGo rs last (u.1.next mm) k).2)) e1 e2) (I_range1 S (E_callM S k__law_take (Nat.le_of_ble_eq_true rfl) (A_cons (E_own S 0 rfl rfl rfl) (D_cons (E_is (E_cb S (A_cons E_int (A_cons (E_op (E_op (E_var S 4 rfl rfl rfl) E_int (.d _) (.d _) (o_div (by decide))) E_int (.d _) (.d _) o_add) A_nil (fun _ => rfl)) (fun _ => rfl)) (.cons (.d _) (.cons (.d _) .nil)) b_min2 (mem_of 4 rfl) (B.fr "min" (mem_of 10 rfl)) rfl (fun _ => rfl) (fun _ => rfl)) (congrArg D.int emm)) D_nil (fun _ => rfl)) (fun _ => rfl)) rfl (fun a Q R h => ⟨a, u.1, _, rfl, o5, hmm.1, by omega, h⟩) (mem_of 2 rfl) (fun _ => rfl) (fun _ => rfl)) (mem_of 1 rfl) (B.fr "range" (mem_of 11 rfl)) ⟨by omega, by omega⟩ (fun _ => rfl)) ⟨_, _, rfl⟩ (fun k x ρ hk hI => ?turnN) (fun ρ hI => ?finN) (fun _ _ => rfl))
        case turnN =>
          obtain ⟨ef, eg, rfl⟩ := hI
          obtain ⟨hk, rfl⟩ := rangeD_at0 hk
          have ok0 := noteGo_ok (rs := rs) (last := last) o6 k
          have ll0 := noteGo_len (rs := rs) (last := last) (d := u.1.next mm) k
          have es := show noteGo rs last (u.1.next mm) (k + 1) = ((((((noteGo rs last (u.1.next mm) k).1.next (last + 1)).next rs.length).next 3).next (w3 (((noteGo rs last (u.1.next mm) k).1.next (last + 1)).next rs.length))), (noteGo rs last (u.1.next mm) k).2 ++ [.tup [.int ((noteGo rs last (u.1.next mm) k).1.val (last + 1)), pk ((noteGo rs last (u.1.next mm) k).1.next (last + 1)) rs, .int (1 + ((((noteGo rs last (u.1.next mm) k).1.next (last + 1)).next rs.length).next 3).val (w3 (((noteGo rs last (u.1.next mm) k).1.next (last + 1)).next rs.length)))]]) from rfl
          generalize noteGo rs last (u.1.next mm) k = s0 at ok0 ll0 es
          refine ⟨_, G_name S 12 rfl rfl rfl, ?_⟩
          have hw := w3_pos ((s0.1.next (last + 1)).next rs.length)
          refine S_seq (S_asg (vs := [13]) (E_tupD (D_cons (E_callM S k__law_take (Nat.le_of_ble_eq_true rfl) (A_cons (E_own S 0 rfl rfl rfl) (D_cons (E_op (E_var S 3 rfl rfl rfl) E_int (.d _) (.d _) o_add) D_nil (fun _ => rfl)) (fun _ => rfl)) rfl (fun a Q R h => ⟨a, s0.1, _, rfl, ok0, by omega, by omega, h⟩) (mem_of 2 rfl) (fun _ => rfl) (fun _ => rfl)) (D_cons (E_callM S k__law_pick (Nat.le_of_ble_eq_true rfl) (A_cons (E_own S 0 rfl rfl rfl) (D_cons (E_var S 5 rfl rfl rfl) D_nil (fun _ => rfl)) (fun _ => rfl)) rfl (fun a Q R h => ⟨a, _, .tup rs, rs, _, rfl, rfl, Dr.next_ok _ _, by omega, by omega, pk_at (by omega), h⟩) (mem_of 3 rfl) (fun _ => rfl) (fun _ => rfl)) (D_cons (E_op E_int (E_callM S k__law_take (Nat.le_of_ble_eq_true rfl) (A_cons (E_own S 0 rfl rfl rfl) (D_cons (E_callM S k__law_pick (Nat.le_of_ble_eq_true rfl) (A_cons (E_own S 0 rfl rfl rfl) (D_cons (E_lstD (D_cons E_int (D_cons E_int (D_cons E_int D_nil (fun _ => rfl)) (fun _ => rfl)) (fun _ => rfl)) rfl) D_nil (fun _ => rfl)) (fun _ => rfl)) rfl (fun a Q R h => ⟨a, _, _, [.int 2, .int 3, .int 9], _, rfl, rfl, Dr.next_ok _ _, by decide, by decide, w3_at _, h⟩) (mem_of 3 rfl) (fun _ => rfl) (fun _ => rfl)) D_nil (fun _ => rfl)) (fun _ => rfl)) rfl (fun a Q R h => ⟨a, _, _, rfl, Dr.next_ok _ _, hw.1, by omega, h⟩) (mem_of 2 rfl) (fun _ => rfl) (fun _ => rfl)) (.d _) (.d _) o_add) D_nil (fun _ => rfl)) (fun _ => rfl)) (fun _ => rfl)) rfl) (G_name S 13 rfl rfl rfl) ?_ (fun _ _ => rfl) (fun _ _ => rfl) (fun _ => rfl))
          refine S_seq (S_asg (vs := [11]) (E_op (E_var S 11 rfl rfl rfl) (E_tupD (D_cons (E_var S 13 rfl rfl rfl) D_nil (fun _ => rfl)) rfl) (.d _) (.d _) (o_addT (small_line (by simp; omega)))) (G_name S 11 rfl rfl rfl) (S_nil ?nx2) (fun _ _ => rfl) (fun _ _ => rfl) (fun _ => rfl))
          case nx2 => exact ⟨_, _, by rw [es]; rfl⟩
        case finN =>
          obtain ⟨ef, eg, rfl⟩ := hI
          rw [show (rangeD 0 (u.1.val mm).toNat).length = (u.1.val mm).toNat by unfold rangeD; simp]
          obtain ⟨v, ev⟩ : ∃ x, x = noteGo rs last (u.1.next mm) (u.1.val mm).toNat := ⟨_, rfl⟩
          have o7 : v.1.ok := by rw [ev]; exact noteGo_ok o6 _
          rw [← ev] at hQ ⊢
          exact S_seq (S_ret (E_tupD (D_cons (E_var S 5 rfl rfl rfl) (D_cons (E_var S 6 rfl rfl rfl) (D_cons (E_var S 7 rfl rfl rfl) (D_cons (E_var S 3 rfl rfl rfl) (D_cons (E_callM S k__law_pick (Nat.le_of_ble_eq_true rfl) (A_cons (E_own S 0 rfl rfl rfl) (D_cons (E_var S 5 rfl rfl rfl) D_nil (fun _ => rfl)) (fun _ => rfl)) rfl (fun a Q R h => ⟨a, v.1, .tup rs, rs, _, rfl, rfl, o7, by omega, by omega, pk_at (by omega), h⟩) (mem_of 3 rfl) (fun _ => rfl) (fun _ => rfl)) (D_cons (E_callM S k__law_pick (Nat.le_of_ble_eq_true rfl) (A_cons (E_own S 0 rfl rfl rfl) (D_cons (E_var S 5 rfl rfl rfl) D_nil (fun _ => rfl)) (fun _ => rfl)) rfl (fun a Q R h => ⟨a, _, .tup rs, rs, _, rfl, rfl, Dr.next_ok _ _, by omega, by omega, pk_at (by omega), h⟩) (mem_of 3 rfl) (fun _ => rfl) (fun _ => rfl)) (D_cons (E_var S 10 rfl rfl rfl) (D_cons (E_var S 11 rfl rfl rfl) D_nil (fun _ => rfl)) (fun _ => rfl)) (fun _ => rfl)) (fun _ => rfl)) (fun _ => rfl)) (fun _ => rfl)) (fun _ => rfl)) (fun _ => rfl)) rfl) ⟨_, .ot (.d (.d (.d (.d .nil)))), hQ⟩)
end
end K03

set_option Elab.async false
set_option maxRecDepth 100000
set_option maxHeartbeats 4000000
namespace K03
open PySem PySem.Spec PyProof.Rows L2 Fw
def odd1 : List D := [.non, .bl true, .bl false, .tup [], .str "", .int 0, .int 1, .int 9, .int (-1), .int (10 ^ 20), .str "a", .str "lies", .tup [.str "a"], .lst [.str "a"], .dic false [], .tup [.int 0, .int 0], .tup [.tup []], .tup [.str "a", .str "b"]]
def odd2 : List D := [.tup [.str "with", .str "ann"], .tup [.str "ann", .int 0, .str "hall", .int 1], .tup [.int 0, .str "hall", .int 1], .int 100, .str "rooms"]
def oddL : List D := odd1 ++ odd2
def dpB (L : Nat) : Nat → D → Bool
  | 0, v => (match v with
    | .tup ds => ds.isEmpty
    | _ => true)
  | n + 1, v => (match v with
    | .tup ds => decide (ds.length ≤ L) && ds.all (dpB L n)
    | _ => true)
theorem odd_ok : ∀ x ∈ oddL, (okB x && rpB x && dpB 16 2 x) = true := List.all_eq_true.mp (by decide +kernel)
theorem dpB_tup {L n : Nat} {ds : List D} : dpB L (n + 1) (.tup ds) = true ↔ ds.length ≤ L ∧ ∀ x ∈ ds, dpB L n x = true := by
  show (decide (ds.length ≤ L) && ds.all (dpB L n)) = true ↔ _
  rw [Bool.and_eq_true, decide_eq_true_eq, List.all_eq_true]
theorem dpB_mono {L L' : Nat} (hL : L ≤ L') : ∀ {n m : Nat} {v : D}, n ≤ m → dpB L n v = true → dpB L' m v = true
  | 0, m, .tup ds, _, h => by
    have e : ds = [] := List.isEmpty_iff.mp h
    subst e
    cases m with
    | zero => rfl
    | succ m => exact dpB_tup.mpr ⟨Nat.zero_le _, fun x hx => absurd hx (by simp)⟩
  | n + 1, m + 1, .tup ds, hm, h => by
    obtain ⟨h1, h2⟩ := dpB_tup.mp h
    exact dpB_tup.mpr ⟨Nat.le_trans h1 hL, fun x hx => dpB_mono hL (by omega) (h2 x hx)⟩
  | _, m, .non, _, _ => by cases m <;> rfl
  | _, m, .bl _, _, _ => by cases m <;> rfl
  | _, m, .int _, _, _ => by cases m <;> rfl
  | _, m, .str _, _, _ => by cases m <;> rfl
  | _, m, .ty _, _, _ => by cases m <;> rfl
  | _, m, .cls _, _, _ => by cases m <;> rfl
  | _, m, .ptr _, _, _ => by cases m <;> rfl
  | _, m, .tun _, _, _ => by cases m <;> rfl
  | _, m, .scr _, _, _ => by cases m <;> rfl
  | _, m, .lst _, _, _ => by cases m <;> rfl
  | _, m, .dic _ _, _, _ => by cases m <;> rfl
  | _, m, .obj _ _ _, _, _ => by cases m <;> rfl
  | _, m, .exc _ _, _, _ => by cases m <;> rfl
def oddR (d : Dr) : D × Dr := (pk d oddL, d.next 23)
def bentR : Nat → Dr → D → D × Dr
  | n, d, .tup ds =>
    if ds.length = 0 ∨ d.val 7 = 0 then oddR (d.next 7)
    else
      let i := (d.next 7).val ds.length
      let d2 := (d.next 7).next ds.length
      if d.val 7 = 1 then (.tup (cutD ds none (some i) ++ cutD ds (some (i + 1)) none), d2)
      else if d.val 7 = 2 then (.tup (cutD ds none (some i) ++ [ds.getD i.toNat .non] ++ cutD ds (some i) none), d2)
      else if d.val 7 = 3 then (if d2.val 2 = 0 then .tup ds.reverse else .lst ds, d2.next 2)
      else match n with
        | 0 => (.non, d2)
        | n + 1 => (.tup (cutD ds none (some i) ++ [(bentR n d2 (ds.getD i.toNat .non)).1] ++ cutD ds (some (i + 1)) none), (bentR n d2 (ds.getD i.toNat .non)).2)
  | _, d, _ => oddR (d.next 7)
theorem okBs_app {xs ys : List D} (h1 : okBs xs = true) (h2 : okBs ys = true) : okBs (xs ++ ys) = true := okBs_iff.mpr fun d hd => by
  rcases List.mem_append.mp hd with z | z
  · exact okBs_iff.mp h1 d z
  · exact okBs_iff.mp h2 d z
theorem okBs_cut {xs : List D} {lo hi : Option Int} (h : okBs xs = true) : okBs (cutD xs lo hi) = true := okBs_iff.mpr fun d hd => okBs_iff.mp h d (cutD_sub d hd)
theorem okBs_one {x : D} (h : okB x = true) : okBs [x] = true := okBs_iff.mpr fun d hd => by rw [List.mem_singleton.mp hd]; exact h
theorem oddR_ok (d : Dr) : okB (oddR d).1 = true ∧ dpB 16 2 (oddR d).1 = true ∧ (oddR d).2.ok := by
  have h := odd_ok _ (pk_mem (d := d) (xs := oddL) (by decide))
  obtain ⟨h1, h2⟩ := and2 h
  exact ⟨(and2 h1).1, h2, Dr.next_ok _ _⟩
theorem oddR_rp (d : Dr) : Rp (oddR d).1 := rpB_ok (and2 (and2 (odd_ok _ (pk_mem (d := d) (xs := oddL) (by decide)))).1).2
theorem bent_ok {L : Nat} (hL : 16 ≤ L) : ∀ (n : Nat) {d : Dr} {v : D}, okB v = true → dpB L n v = true → okB (bentR n d v).1 = true ∧ dpB (L + 1) (n + 2) (bentR n d v).1 = true ∧ (bentR n d v).2.ok := by
  intro n
  have od : ∀ (n : Nat) (d : Dr), okB (oddR d).1 = true ∧ dpB (L + 1) (n + 2) (oddR d).1 = true ∧ (oddR d).2.ok := fun n d => by
    obtain ⟨h1, h2, h3⟩ := oddR_ok d
    exact ⟨h1, dpB_mono (by omega) (by omega) h2, h3⟩
  induction n with
  | zero =>
    intro d v h hd
    cases v with
    | tup ds =>
      have e : ds = [] := List.isEmpty_iff.mp hd
      subst e
      unfold bentR
      rw [if_pos (.inl rfl)]
      exact od _ _
    | _ => unfold bentR; exact od _ _
  | succ n ih =>
    intro d v h hd
    cases v with
    | tup ds =>
      have h : okBs ds = true := h
      obtain ⟨hl, hx⟩ := dpB_tup.mp hd
      unfold bentR
      by_cases c1 : ds.length = 0 ∨ d.val 7 = 0
      · rw [if_pos c1]; exact od _ _
      · rw [if_neg c1]
        have hl0 : 0 < ds.length := by omega
        have v1 := Dr.val_lo (d := d.next 7) (n := ds.length) (by omega)
        have v2 := Dr.val_hi (d := d.next 7) (n := ds.length) (by omega)
        have mx : ds.getD ((d.next 7).val ds.length).toNat .non ∈ ds := List.mem_of_getElem? (getD_some (by omega))
        have ox := okBs_iff.mp h _ mx
        have dx : ∀ x ∈ ds, dpB (L + 1) (n + 2) x = true := fun x hz => dpB_mono (by omega) (by omega) (hx x hz)
        have len0 := fun lo hi => cutD_len (ds := ds) (lo := lo) (hi := hi)
        generalize ei : (d.next 7).val ds.length = i at mx ox v1 v2
        obtain ⟨j, rfl⟩ : ∃ j : Nat, i = j := ⟨i.toNat, by omega⟩
        have ecut : cutD ds none (some (j : Int)) = ds.take j := by
          unfold Fw.cutD
          rw [HT.sIx_none, HT.sIx_nat, Nat.min_eq_left (by omega), List.drop_zero, Nat.sub_zero]
        have ecut2 : cutD ds (some (j : Int)) none = ds.drop j := by
          unfold Fw.cutD
          rw [HT.sIx_none, HT.sIx_nat, Nat.min_eq_left (by omega)]
          exact List.take_of_length_le (by rw [List.length_drop]; omega)
        have ecut3 : cutD ds (some ((j : Int) + 1)) none = ds.drop (j + 1) := by
          unfold Fw.cutD
          rw [show ((j : Int) + 1) = ((j + 1 : Nat) : Int) by omega, HT.sIx_none, HT.sIx_nat, Nat.min_eq_left (by omega)]
          exact List.take_of_length_le (by rw [List.length_drop]; omega)
        have fin : ∀ (ys : List D) (d2 : Dr), d2.ok → okBs ys = true → ys.length ≤ L + 1 → (∀ x ∈ ys, dpB (L + 1) (n + 2) x = true) → okB (D.tup ys) = true ∧ dpB (L + 1) (n + 3) (.tup ys) = true ∧ d2.ok := fun ys d2 k1 k2 k3 k4 => ⟨k2, dpB_tup.mpr ⟨k3, k4⟩, k1⟩
        dsimp only
        by_cases c2 : d.val 7 = 1
        · rw [if_pos c2]
          refine fin _ _ (Dr.next_ok _ _) (okBs_app (okBs_cut h) (okBs_cut h)) ?_ fun x hz => ?_
          · rw [List.length_append, ecut, ecut3, List.length_take, List.length_drop]; omega
          · rcases List.mem_append.mp hz with z | z <;> exact dx x (cutD_sub x z)
        · rw [if_neg c2]
          by_cases c3 : d.val 7 = 2
          · rw [if_pos c3]
            refine fin _ _ (Dr.next_ok _ _) (okBs_app (okBs_app (okBs_cut h) (okBs_one ox)) (okBs_cut h)) ?_ fun x hz => ?_
            · rw [List.length_append, List.length_append, ecut, ecut2, List.length_take, List.length_drop, List.length_singleton]; omega
            · rcases List.mem_append.mp hz with z | z
              · rcases List.mem_append.mp z with z | z
                · exact dx x (cutD_sub x z)
                · rw [List.mem_singleton.mp z]; exact dx _ mx
              · exact dx x (cutD_sub x z)
          · rw [if_neg c3]
            by_cases c4 : d.val 7 = 3
            · rw [if_pos c4]
              by_cases c5 : ((d.next 7).next ds.length).val 2 = 0
              · simp only [if_pos c5]
                exact fin _ _ (Dr.next_ok _ _) (okBs_iff.mpr fun x hz => okBs_iff.mp h x (List.mem_reverse.mp hz)) (by rw [List.length_reverse]; omega) fun x hz => dx x (List.mem_reverse.mp hz)
              · simp only [if_neg c5]
                exact ⟨h, rfl, Dr.next_ok _ _⟩
            · rw [if_neg c4]
              obtain ⟨i1, i2, i3⟩ := ih (d := (d.next 7).next ds.length) ox (hx _ mx)
              refine fin _ _ i3 (okBs_app (okBs_app (okBs_cut h) (okBs_one i1)) (okBs_cut h)) ?_ fun x hz => ?_
              · rw [List.length_append, List.length_append, ecut, ecut3, List.length_take, List.length_drop, List.length_singleton]; omega
              · rcases List.mem_append.mp hz with z | z
                · rcases List.mem_append.mp z with z | z
                  · exact dx x (cutD_sub x z)
                  · rw [List.mem_singleton.mp z]; exact i2
                · exact dx x (cutD_sub x z)
    | _ => unfold bentR; exact od _ _
section
variable {Z : Zd} {A : Str → Addr} {fC : Addr} (B : B03 Z A fC)
def sp_odd : SpO := fun es Q _ => ∃ (a : Addr) (d : Dr), es = [.ot (some a) (.fl d.ds)] ∧ d.ok ∧ Q (.d (oddR d).1) [.ot (some a) (.fl (oddR d).2.ds)]
theorem sc57 : FnScope ["draws", "some"] ["draws"] (defScope (top 57)) := ⟨rfl, rfl, rfl, by decide +kernel, rfl, by decide +kernel, by decide +kernel⟩
include B in
theorem kn_odd {f : Addr} {fd : FuncData} (F : FunD Z.K "_law_odd" "_law_odd" (defArgs (top 57)) (defBody (top 57)) (defScope (top 57)) [] [] f fd) (k__law_pick : Kn Z 3 "_law_pick" (SpE Z sp_pick)) : FnK Z.P Z.w Z.K Z.mg Z.base (L2.CX Z.P Z.w) 4 f fd ["draws"] (SpE Z sp_odd) := by
  refine kn_of F sc57 (fun es Q R h => ?_) (by decide) (mkr := none) (fun _ z => nomatch z) fun E es Q R h => ?_
  · obtain ⟨a, d, rfl, _⟩ := h; rfl
  · obtain ⟨a, d, rfl, hd, hQ⟩ := h
    have S : ScOk ⟨Z, ["draws", "some"], defScope (top 57), fun _ => true, 3, E, fun _ _ => False, none⟩ [0, 1] [1] ["_law_pick"] := scOk_of sc57.nd rfl (by kernel_rfl)
    refine S_seq (S_asg (vs := [1]) (d := .lst odd1) (E_lstD (D_cons E_non (D_cons E_bl (D_cons E_bl (D_cons (E_tupD D_nil rfl) (D_cons E_str (D_cons E_int (D_cons E_int (D_cons E_int (D_cons (E_neg E_int) (D_cons (E_op E_int E_int (.d _) (.d _) (o_pow ⟨by decide, by decide, by decide⟩)) (D_cons E_str (D_cons E_str (D_cons (E_tupD (D_cons E_str D_nil (fun _ => rfl)) rfl) (D_cons (E_lstD (D_cons E_str D_nil (fun _ => rfl)) rfl) (D_cons (E_frz E_dnew rfl rfl) (D_cons (E_tupD (D_cons E_int (D_cons E_int D_nil (fun _ => rfl)) (fun _ => rfl)) rfl) (D_cons (E_tupD (D_cons (E_tupD D_nil rfl) D_nil (fun _ => rfl)) rfl) (D_cons (E_tupD (D_cons E_str (D_cons E_str D_nil (fun _ => rfl)) (fun _ => rfl)) rfl) D_nil (fun _ => rfl)) (fun _ => rfl)) (fun _ => rfl)) (fun _ => rfl)) (fun _ => rfl)) (fun _ => rfl)) (fun _ => rfl)) (fun _ => rfl)) (fun _ => rfl)) (fun _ => rfl)) (fun _ => rfl)) (fun _ => rfl)) (fun _ => rfl)) (fun _ => rfl)) (fun _ => rfl)) (fun _ => rfl)) (fun _ => rfl)) (fun _ => rfl)) rfl) (G_name S 1 rfl rfl rfl) ?_ (fun _ _ => rfl) (fun _ _ => rfl) (fun _ => rfl))
    exact S_seq (S_ret (E_callM S k__law_pick (Nat.le_of_ble_eq_true rfl) (A_cons (E_own S 0 rfl rfl rfl) (D_cons (E_op (E_var S 1 rfl rfl rfl) (E_lstD (D_cons (E_tupD (D_cons E_str (D_cons E_str D_nil (fun _ => rfl)) (fun _ => rfl)) rfl) (D_cons (E_tupD (D_cons E_str (D_cons E_int (D_cons E_str (D_cons E_int D_nil (fun _ => rfl)) (fun _ => rfl)) (fun _ => rfl)) (fun _ => rfl)) rfl) (D_cons (E_tupD (D_cons E_int (D_cons E_str (D_cons E_int D_nil (fun _ => rfl)) (fun _ => rfl)) (fun _ => rfl)) rfl) (D_cons E_int (D_cons E_str D_nil (fun _ => rfl)) (fun _ => rfl)) (fun _ => rfl)) (fun _ => rfl)) (fun _ => rfl)) rfl) (.d _) (.d _) (o_addL (small_line (by decide)))) D_nil (fun _ => rfl)) (fun _ => rfl)) rfl (fun a Q R h => ⟨a, d, .lst oddL, oddL, _, rfl, rfl, hd, by decide, by decide, pk_at (by decide), h⟩) (mem_of 0 rfl) (fun _ => rfl) (fun _ => rfl)) ⟨_, .ot .nil, hQ⟩)
def sp_bent (n : Nat) : SpO := fun es Q _ => ∃ (a : Addr) (d : Dr) (v : D), es = [.ot (some a) (.fl d.ds), .d v] ∧ d.ok ∧ okB v = true ∧ dpB 1000 n v = true ∧ Q (.d (bentR n d v).1) [.ot (some a) (.fl (bentR n d v).2.ds), .d v]
theorem bent_non {n : Nat} {d : Dr} {v : D} (h : tupB v = false) : bentR n d v = oddR (d.next 7) := by
  cases v with
  | tup ds => cases h
  | _ => unfold bentR; rfl
theorem sc58 : FnScope ["draws", "thing", "way", "at"] ["draws", "thing"] (defScope (top 58)) := ⟨rfl, rfl, rfl, by decide +kernel, rfl, by decide +kernel, by decide +kernel⟩
include B in
theorem kn_bent {f : Addr} {fd : FuncData} (F : FunD Z.K "_law_bent" "_law_bent" (defArgs (top 58)) (defBody (top 58)) (defScope (top 58)) [] [] f fd) (hm : Z.mg "_law_bent" = some (.ref f)) (k__law_take : Kn Z 2 "_law_take" (SpE Z sp_take)) (k__law_odd : Kn Z 4 "_law_odd" (SpE Z sp_odd)) : ∀ n : Nat, Kn Z (n + 5) "_law_bent" (SpE Z (sp_bent n)) := by
  intro n
  induction n with
  | zero =>
    refine kn_top hm F (ps := ["draws", "thing"]) (fun _ _ _ _ _ _ us hl => match us, hl with | [_, _], _ => rfl) ?_
    refine kn_of F sc58 (fun es Q R h => ?_) (by decide) (mkr := none) (fun _ z => nomatch z) fun E es Q R h => ?_
    · obtain ⟨a, d, v, rfl, _⟩ := h; rfl
    · obtain ⟨a, d, v, rfl, hd, ho, hp, hQ⟩ := h
      have S : ScOk ⟨Z, ["draws", "thing", "way", "at"], defScope (top 58), fun _ => true, 4, E, fun _ _ => False, none⟩ [0, 1, 2, 3] [2, 3] ["_law_take", "isinstance", "tuple", "_law_odd", "len", "list", "_law_bent"] := scOk_of sc58.nd rfl (by kernel_rfl)
      have v1 := Dr.val_lo (d := d) (n := 7) (by omega)
      have v2 := Dr.val_hi (d := d) (n := 7) (by omega)
      refine S_seq (S_asg (vs := [2]) (E_callM S k__law_take (Nat.le_of_ble_eq_true rfl) (A_cons (E_own S 0 rfl rfl rfl) (D_cons E_int D_nil (fun _ => rfl)) (fun _ => rfl)) rfl (fun a Q R h => ⟨a, d, _, rfl, hd, by decide, by decide, h⟩) (mem_of 0 rfl) (fun _ => rfl) (fun _ => rfl)) (G_name S 2 rfl rfl rfl) ?_ (fun _ _ => rfl) (fun _ _ => rfl) (fun _ => rfl))
      cases ht : tupB v with
      | false =>
        rw [bent_non ht] at hQ
        exact S_seq (S_ifT (T_w (W_or (v := true) (T_not (T_is (T_val (E_cb S (A_cons (E_var S 1 rfl rfl rfl) (A_cons (E_ty S (mem_of 2 rfl) (B.fr "tuple" (mem_of 15 rfl)) rfl) A_nil (fun _ => rfl)) (fun _ => rfl)) (.cons (.d _) (.cons (.d _) .nil)) (b_isK k_tup (okB_ty ho)) (mem_of 1 rfl) (B.fr "isinstance" (mem_of 6 rfl)) rfl (fun _ => rfl) (fun _ => rfl)) (fun _ _ => rfl)) ht)) (fun z => nomatch z))) rfl (S_seq (S_ret (E_callM S k__law_odd (Nat.le_of_ble_eq_true rfl) (A_cons (E_own S 0 rfl rfl rfl) D_nil (fun _ => rfl)) rfl (fun a Q R h => ⟨a, _, rfl, Dr.next_ok _ _, h⟩) (mem_of 3 rfl) (fun _ => rfl) (fun _ => rfl)) ⟨_, .ot (.d .nil), hQ⟩)))
      | true =>
        obtain ⟨ds, rfl, hds⟩ := tupB_eq ho ht
        have e : ds = [] := List.isEmpty_iff.mp hp
        subst e
        unfold bentR at hQ
        rw [if_pos (.inl rfl)] at hQ
        exact S_seq (S_ifT (T_w (W_or (v := true) (T_not (T_is (T_val (E_cb S (A_cons (E_var S 1 rfl rfl rfl) (A_cons (E_ty S (mem_of 2 rfl) (B.fr "tuple" (mem_of 15 rfl)) rfl) A_nil (fun _ => rfl)) (fun _ => rfl)) (.cons (.d _) (.cons (.d _) .nil)) (b_isK k_tup (okB_ty ho)) (mem_of 1 rfl) (B.fr "isinstance" (mem_of 6 rfl)) rfl (fun _ => rfl) (fun _ => rfl)) (fun _ _ => rfl)) ht)) (fun _ => W_or (v := true) (T_is (b' := true) (T_cmp (E_var S 1 rfl rfl rfl) (E_tupD D_nil rfl) (.d _) (.d _) (o_eqT0 B.sm rfl) rfl) rfl) (fun z => nomatch z)))) rfl (S_seq (S_ret (E_callM S k__law_odd (Nat.le_of_ble_eq_true rfl) (A_cons (E_own S 0 rfl rfl rfl) D_nil (fun _ => rfl)) rfl (fun a Q R h => ⟨a, _, rfl, Dr.next_ok _ _, h⟩) (mem_of 3 rfl) (fun _ => rfl) (fun _ => rfl)) ⟨_, .ot (.d .nil), hQ⟩)))
  | succ n k__law_bent =>
    refine kn_top hm F (ps := ["draws", "thing"]) (fun _ _ _ _ _ _ us hl => match us, hl with | [_, _], _ => rfl) ?_
    refine kn_of F sc58 (fun es Q R h => ?_) (by decide) (mkr := none) (fun _ z => nomatch z) fun E es Q R h => ?_
    · obtain ⟨a, d, v, rfl, _⟩ := h; rfl
    · obtain ⟨a, d, v, rfl, hd, ho, hp, hQ⟩ := h
      have S : ScOk ⟨Z, ["draws", "thing", "way", "at"], defScope (top 58), fun _ => true, n + 5, E, fun _ _ => False, none⟩ [0, 1, 2, 3] [2, 3] ["_law_take", "isinstance", "tuple", "_law_odd", "len", "list", "_law_bent"] := scOk_of sc58.nd rfl (by kernel_rfl)
      have v1 := Dr.val_lo (d := d) (n := 7) (by omega)
      have v2 := Dr.val_hi (d := d) (n := 7) (by omega)
      have l2 : 2 ≤ n + 5 := by omega
      have l4 : 4 ≤ n + 5 := by omega
      refine S_seq (S_asg (vs := [2]) (E_callM S k__law_take l2 (A_cons (E_own S 0 rfl rfl rfl) (D_cons E_int D_nil (fun _ => rfl)) (fun _ => rfl)) rfl (fun a Q R h => ⟨a, d, _, rfl, hd, by decide, by decide, h⟩) (mem_of 0 rfl) (fun _ => rfl) (fun _ => rfl)) (G_name S 2 rfl rfl rfl) ?_ (fun _ _ => rfl) (fun _ _ => rfl) (fun _ => rfl))
      cases ht : tupB v with
      | false =>
        rw [bent_non ht] at hQ
        exact S_seq (S_ifT (T_w (W_or (v := true) (T_not (T_is (T_val (E_cb S (A_cons (E_var S 1 rfl rfl rfl) (A_cons (E_ty S (mem_of 2 rfl) (B.fr "tuple" (mem_of 15 rfl)) rfl) A_nil (fun _ => rfl)) (fun _ => rfl)) (.cons (.d _) (.cons (.d _) .nil)) (b_isK k_tup (okB_ty ho)) (mem_of 1 rfl) (B.fr "isinstance" (mem_of 6 rfl)) rfl (fun _ => rfl) (fun _ => rfl)) (fun _ _ => rfl)) ht)) (fun z => nomatch z))) rfl (S_seq (S_ret (E_callM S k__law_odd l4 (A_cons (E_own S 0 rfl rfl rfl) D_nil (fun _ => rfl)) rfl (fun a Q R h => ⟨a, _, rfl, Dr.next_ok _ _, h⟩) (mem_of 3 rfl) (fun _ => rfl) (fun _ => rfl)) ⟨_, .ot (.d .nil), hQ⟩)))
      | true =>
        obtain ⟨ds, rfl, hds⟩ := tupB_eq ho ht
        obtain ⟨hl, hx⟩ := dpB_tup.mp hp
        unfold bentR at hQ
        by_cases c1 : ds.length = 0 ∨ d.val 7 = 0
        · rw [if_pos c1] at hQ
          refine S_seq (S_ifT (t := true) (T_is (T_w (W_or (v := decide (ds.length = 0) || decide (d.val 7 = 0)) (T_not (T_is (T_val (E_cb S (A_cons (E_var S 1 rfl rfl rfl) (A_cons (E_ty S (mem_of 2 rfl) (B.fr "tuple" (mem_of 15 rfl)) rfl) A_nil (fun _ => rfl)) (fun _ => rfl)) (.cons (.d _) (.cons (.d _) .nil)) (b_isK k_tup (okB_ty ho)) (mem_of 1 rfl) (B.fr "isinstance" (mem_of 6 rfl)) rfl (fun _ => rfl) (fun _ => rfl)) (fun _ _ => rfl)) ht)) (fun _ => W_or (T_cmp (E_var S 1 rfl rfl rfl) (E_tupD D_nil rfl) (.d _) (.d _) (o_eqT0 B.sm (okB_isR _ ho)) rfl) (fun _ => W_or1 (T_cmp (E_var S 2 rfl rfl rfl) E_int (.d _) (.d _) o_eqI rfl))))) ?_) rfl (S_seq (S_ret (E_callM S k__law_odd l4 (A_cons (E_own S 0 rfl rfl rfl) D_nil (fun _ => rfl)) rfl (fun a Q R h => ⟨a, _, rfl, Dr.next_ok _ _, h⟩) (mem_of 3 rfl) (fun _ => rfl) (fun _ => rfl)) ⟨_, .ot (.d .nil), hQ⟩)))
          rcases c1 with z | z
          · rw [decide_eq_true z]; rfl
          · rw [decide_eq_true z]; simp
        · rw [if_neg c1] at hQ
          refine S_seq (S_ifF (t := false) (T_is (T_w (W_or (v := decide (ds.length = 0) || decide (d.val 7 = 0)) (T_not (T_is (T_val (E_cb S (A_cons (E_var S 1 rfl rfl rfl) (A_cons (E_ty S (mem_of 2 rfl) (B.fr "tuple" (mem_of 15 rfl)) rfl) A_nil (fun _ => rfl)) (fun _ => rfl)) (.cons (.d _) (.cons (.d _) .nil)) (b_isK k_tup (okB_ty ho)) (mem_of 1 rfl) (B.fr "isinstance" (mem_of 6 rfl)) rfl (fun _ => rfl) (fun _ => rfl)) (fun _ _ => rfl)) ht)) (fun _ => W_or (T_cmp (E_var S 1 rfl rfl rfl) (E_tupD D_nil rfl) (.d _) (.d _) (o_eqT0 B.sm (okB_isR _ ho)) rfl) (fun _ => W_or1 (T_cmp (E_var S 2 rfl rfl rfl) E_int (.d _) (.d _) o_eqI rfl))))) ?_) rfl (S_nil ?_))
          · rw [decide_eq_false (fun z => c1 (.inl z)), decide_eq_false (fun z => c1 (.inr z))]; rfl
          have hl0 : (0 : Int) < ds.length := by omega
          dsimp only at hQ
          refine S_seq (S_asg (vs := [3]) (E_callM S k__law_take l2 (A_cons (E_own S 0 rfl rfl rfl) (D_cons (E_cb S (A_cons (E_var S 1 rfl rfl rfl) A_nil (fun _ => rfl)) (.cons (.d _) .nil) (b_len rfl) (mem_of 4 rfl) (B.fr "len" (mem_of 7 rfl)) rfl (fun _ => rfl) (fun _ => rfl)) D_nil (fun _ => rfl)) (fun _ => rfl)) rfl (fun a Q R h => ⟨a, d.next 7, _, rfl, Dr.next_ok _ _, hl0, by omega, h⟩) (mem_of 0 rfl) (fun _ => rfl) (fun _ => rfl)) (G_name S 3 rfl rfl rfl) ?_ (fun _ _ => rfl) (fun _ _ => rfl) (fun _ => rfl))
          have w1 := Dr.val_lo (d := d.next 7) hl0
          have w2 := Dr.val_hi (d := d.next 7) hl0
          generalize (d.next 7).val ds.length = i at w1 w2 hQ
          obtain ⟨j, rfl⟩ : ∃ j : Nat, i = j := ⟨i.toNat, by omega⟩
          rw [Int.toNat_natCast] at hQ
          have hj : ds[j]? = some (ds.getD j .non) := getD_some (by omega)
          have len0 := fun lo hi => cutD_len (ds := ds) (lo := lo) (hi := hi)
          have sl : ∀ {xs ys : List D}, xs.length ≤ 3000 → ys.length ≤ 3000 → xs.length + ys.length ≤ sizeLine := fun h1 h2 => small_line (by omega)
          have s0 : ∀ lo hi, (cutD ds lo hi).length ≤ 3000 := fun lo hi => Nat.le_trans (len0 lo hi) (by omega)
          have s1 : ∀ lo hi (x : D), (cutD ds lo hi ++ [x]).length ≤ 3000 := fun lo hi x => by
            have := len0 lo hi
            rw [List.length_append, List.length_singleton]
            omega
          have d2ok : ((d.next 7).next ds.length).ok := Dr.next_ok _ _
          generalize (d.next 7).next ds.length = d2 at hQ d2ok
          by_cases c2 : d.val 7 = 1
          · rw [if_pos c2] at hQ
            exact S_seq (S_ifT (T_cmp (E_var S 2 rfl rfl rfl) E_int (.d _) (.d _) o_eqI rfl) (by simp [c2]) (S_seq (S_ret (E_op (E_slice (E_var S 1 rfl rfl rfl) .no (.yes (E_var S 3 rfl rfl rfl)) (.d _) s_tup) (E_slice (E_var S 1 rfl rfl rfl) (.yes (E_op (E_var S 3 rfl rfl rfl) E_int (.d _) (.d _) o_add)) .no (.d _) s_tup) (.d _) (.d _) (o_addT (sl (s0 _ _) (s0 _ _)))) ⟨_, .ot (.d .nil), hQ⟩)))
          · rw [if_neg c2] at hQ
            refine S_seq (S_ifF (T_cmp (E_var S 2 rfl rfl rfl) E_int (.d _) (.d _) o_eqI rfl) (by simp [c2]) (S_nil ?_))
            by_cases c3 : d.val 7 = 2
            · rw [if_pos c3] at hQ
              exact S_seq (S_ifT (T_cmp (E_var S 2 rfl rfl rfl) E_int (.d _) (.d _) o_eqI rfl) (by simp [c3]) (S_seq (S_ret (E_op (E_op (E_slice (E_var S 1 rfl rfl rfl) .no (.yes (E_var S 3 rfl rfl rfl)) (.d _) s_tup) (E_tupD (D_cons (E_ix (E_var S 1 rfl rfl rfl) (E_var S 3 rfl rfl rfl) (.d _) (.d _) (i_seq rfl (atI_at hj)) (fun _ _ => rfl)) D_nil (fun _ => rfl)) rfl) (.d _) (.d _) (o_addT (sl (s0 _ _) (by simp)))) (E_slice (E_var S 1 rfl rfl rfl) (.yes (E_var S 3 rfl rfl rfl)) .no (.d _) s_tup) (.d _) (.d _) (o_addT (sl (s1 _ _ _) (s0 _ _)))) ⟨_, .ot (.d .nil), hQ⟩)))
            · rw [if_neg c3] at hQ
              refine S_seq (S_ifF (T_cmp (E_var S 2 rfl rfl rfl) E_int (.d _) (.d _) o_eqI rfl) (by simp [c3]) (S_nil ?_))
              by_cases c4 : d.val 7 = 3
              · rw [if_pos c4] at hQ
                refine S_seq (S_ifT (T_cmp (E_var S 2 rfl rfl rfl) E_int (.d _) (.d _) o_eqI rfl) (by simp [c4]) (S_seq (S_ret (r := .d (if d2.val 2 = 0 then .tup ds.reverse else .lst ds)) (ρ1 := [.ot (some a) (.fl (d2.next 2).ds), .d (.tup ds), .d (.int (d.val 7)), .d (.int (j : Nat))]) (E_if (T_cmp (E_callM S k__law_take l2 (A_cons (E_own S 0 rfl rfl rfl) (D_cons E_int D_nil (fun _ => rfl)) (fun _ => rfl)) rfl (fun a Q R h => ⟨a, d2, _, rfl, d2ok, by decide, by decide, h⟩) (mem_of 0 rfl) (fun _ => rfl) (fun _ => rfl)) E_int (.d _) (.d _) o_eqI rfl) (fun hu => ?yes) (fun hu => ?no)) ⟨_, .ot (.d .nil), hQ⟩)))
                case yes =>
                  rw [if_pos (of_decide_eq_true hu)]
                  exact E_revT (E_var S 1 rfl rfl rfl)
                case no =>
                  rw [if_neg (of_decide_eq_false hu)]
                  exact (E_cty S (A_cons (E_var S 1 rfl rfl rfl) A_nil (fun _ => rfl)) (.cons (.d _) .nil) (b_list rfl) (mem_of 5 rfl) (B.fr "list" (mem_of 8 rfl)) rfl (fun _ => rfl) (fun _ => rfl))
              · rw [if_neg c4] at hQ
                refine S_seq (S_ifF (T_cmp (E_var S 2 rfl rfl rfl) E_int (.d _) (.d _) o_eqI rfl) (by simp [c4]) (S_nil ?_))
                exact S_seq (S_ret (E_op (E_op (E_slice (E_var S 1 rfl rfl rfl) .no (.yes (E_var S 3 rfl rfl rfl)) (.d _) s_tup) (E_tupD (D_cons (E_callM S k__law_bent (Nat.le_refl _) (A_cons (E_own S 0 rfl rfl rfl) (D_cons (E_ix (E_var S 1 rfl rfl rfl) (E_var S 3 rfl rfl rfl) (.d _) (.d _) (i_seq rfl (atI_at hj)) (fun _ _ => rfl)) D_nil (fun _ => rfl)) (fun _ => rfl)) rfl (fun a Q R h => ⟨a, d2, _, rfl, d2ok, okBs_iff.mp hds _ (List.mem_of_getElem? hj), hx _ (List.mem_of_getElem? hj), h⟩) (mem_of 6 rfl) (fun _ => rfl) (fun _ => rfl)) D_nil (fun _ => rfl)) rfl) (.d _) (.d _) (o_addT (sl (s0 _ _) (by simp)))) (E_slice (E_var S 1 rfl rfl rfl) (.yes (E_op (E_var S 3 rfl rfl rfl) E_int (.d _) (.d _) o_add)) .no (.d _) s_tup) (.d _) (.d _) (o_addT (sl (s1 _ _ _) (s0 _ _)))) ⟨_, .ot (.d .nil), hQ⟩)
end
end K03

set_option Elab.async false
set_option maxRecDepth 100000
set_option maxHeartbeats 4000000
namespace K03
open PySem PySem.Spec PyProof.Rows L2 Fw
/-- eight parts, those that may be told fit to be told -/
structure R8 (xs : List D) : Prop where
  len : xs.length = 8
  ok : okBs xs = true
  r3 : Rp (xs.getD 3 .non)
  r4 : Rp (xs.getD 4 .non)
  r5 : Rp (xs.getD 5 .non)
def r8B (xs : List D) : Bool := decide (xs.length = 8) && (okBs xs && (rpB (xs.getD 3 .non) && (rpB (xs.getD 4 .non) && rpB (xs.getD 5 .non))))
theorem r8B_ok {xs : List D} (h : r8B xs = true) : R8 xs := by
  obtain ⟨h1, h⟩ := and2 h
  obtain ⟨h2, h⟩ := and2 h
  obtain ⟨h3, h⟩ := and2 h
  obtain ⟨h4, h5⟩ := and2 h
  exact ⟨of_decide_eq_true h1, h2, rpB_ok h3, rpB_ok h4, rpB_ok h5⟩
theorem getD_set {xs : List D} {k i : Nat} {x : D} (hk : k < xs.length) : (xs.set k x).getD i .non = if k = i then x else xs.getD i .non := by
  rw [List.getD_eq_getElem?_getD, List.getElem?_set]
  split
  · rename_i e
    subst e
    first | rfl | (rw [if_pos hk]; rfl)
  · rw [List.getD_eq_getElem?_getD]
theorem R8.set {xs : List D} {k : Nat} {x : D} (h : R8 xs) (hk : k < 8) (ho : okB x = true) (hr : k = 3 ∨ k = 4 ∨ k = 5 → Rp x) : R8 (xs.set k x) := by
  have hl : k < xs.length := by rw [h.len]; exact hk
  refine ⟨by rw [List.length_set]; exact h.len, okBs_iff.mpr fun d hd => ?_, ?_, ?_, ?_⟩
  · rcases List.mem_or_eq_of_mem_set hd with z | z
    · exact okBs_iff.mp h.ok d z
    · rw [z]; exact ho
  · rw [getD_set hl]; split
    · exact hr (.inl ‹_›)
    · exact h.r3
  · rw [getD_set hl]; split
    · exact hr (.inr (.inl ‹_›))
    · exact h.r4
  · rw [getD_set hl]; split
    · exact hr (.inr (.inr ‹_›))
    · exact h.r5
theorem ref_of {xs : List D} (h : R8 xs) {Q : Res → Prop} {R : Value → List (Str × D) → Prop} (hQ : Q (.d (.bl true))) : sp__law_are_refused [.tup xs] Q R := by
  obtain ⟨hl, ho, h3, h4, h5⟩ := h
  match xs, hl with
  | [r, d, p, l, b, e, s, n], _ => exact ⟨r, d, p, l, b, e, s, n, rfl, ho, h3, h4, h5, hQ⟩
/-- a place and what is put there -/
def gbB (d : D) : Bool := match d with
  | .tup [.int k, x] => decide (0 ≤ k) && (decide (k < 8) && (okB x && (decide (k < 3) || (decide (5 < k) || rpB x))))
  | _ => false
theorem gbB_ok {d : D} (h : gbB d = true) : ∃ (k : Nat) (x : D), d = .tup [.int (k : Nat), x] ∧ k < 8 ∧ okB x = true ∧ (k = 3 ∨ k = 4 ∨ k = 5 → Rp x) := by
  unfold gbB at h
  split at h
  · rename_i k x
    obtain ⟨h1, h⟩ := and2 h
    obtain ⟨h2, h⟩ := and2 h
    obtain ⟨h3, h4⟩ := and2 h
    have h1 := of_decide_eq_true h1
    have h2 := of_decide_eq_true h2
    obtain ⟨m, rfl⟩ : ∃ m : Nat, k = m := ⟨k.toNat, by omega⟩
    refine ⟨m, x, rfl, by omega, h3, fun hk => ?_⟩
    rw [decide_eq_false (by omega : ¬ ((m : Nat) : Int) < 3), decide_eq_false (by omega : ¬ (5 : Int) < (m : Nat))] at h4
    exact rpB_ok h4
  · cases h
theorem gb_six {x : D} (h : okB x = true) : gbB (.tup [.int 6, x]) = true := by
  show (true && (true && (okB x && (_ || (true || _))))) = true
  rw [h]; simp
theorem gb_seven {x : D} (h : okB x = true) : gbB (.tup [.int 7, x]) = true := by
  show (true && (true && (okB x && (_ || (true || _))))) = true
  rw [h]; simp
def Gbs (bs : List D) : Prop := ∀ d ∈ bs, gbB d = true
theorem Gbs.app {xs ys : List D} (h1 : Gbs xs) (h2 : Gbs ys) : Gbs (xs ++ ys) := fun d hd => by
  rcases List.mem_append.mp hd with z | z
  · exact h1 d z
  · exact h2 d z
theorem gbs_of {xs : List D} (h : xs.all gbB = true) : Gbs xs := List.all_eq_true.mp h
def rowD : List D := [.str "ann", .int 0, .str "a", .int 1]
def goneD : List D := [.int 5, .str "d", .int 9]
def goodL : List D := [.tup [.str "a", .str "b", .str "c", .str "d"], .tup [.tup [.str "a", .str "b"], .tup [.str "b", .str "c"]], .tup [.str "ann", .str "ben"], .int 5, .str "a", .str "d", .tup [.tup rowD], .tup [.tup goneD]]
theorem good8 : R8 goodL := r8B_ok (by decide +kernel)
def roomsI : List D := [.tup [.str "a"], .tup (Fw.signs "abcde"), .tup [.str "b", .str "a"], .tup [.str "a", .str "a"], .tup [.str "a", .str "B"], .lst [.str "a", .str "b"], .str "ab"]
def doors1 : List D := [.tup [], .tup [.tup [.str "b", .str "a"]], .tup [.tup [.str "a", .str "a"]], .tup [.tup [.str "a", .str "b"], .tup [.str "a", .str "b"]], .tup [.tup [.str "b", .str "c"], .tup [.str "a", .str "b"]], .tup [.tup [.str "a", .str "e"]]]
def doors2 : List D := doors1 ++ [.tup [.tup [.str "a", .str "b", .str "c"]], .tup [.lst [.str "a", .str "b"]], .non, .tup (List.replicate (11 : Int).toNat [D.tup [.str "a", .str "b"]]).flatten, .lst [.tup [.str "a", .str "b"]]]
def sixD : D := .tup [.tup [.str "a", .str "b"], .tup [.str "a", .str "c"], .tup [.str "a", .str "d"], .tup [.str "b", .str "c"], .tup [.str "b", .str "d"], .tup [.str "c", .str "d"]]
def people1 : List D := [.tup [], .tup [.str "ann", .str "ben", .str "cat"], .tup (Fw.signs "efgh"), .tup [.str "a"]]
def people2 : List D := [.tup [.str "ben", .str "ann"], .tup [.str "ann", .str "ann"], .lst [.str "ann"], .non, .tup [.str "Ann"], .tup [.str "ann", .str "b"]]
def lastI : List D := [.int 0, .int 1, .int 8, .int 9, .bl true, .str "5", .non, .tup [.int 5], .int (-1)]
def roomI : List D := [.str "a", .str "e", .str "", .non, .int 0, .tup [.str "a"], .str "ann"]
def at_ (k : Int) (d : D) : D := .tup [.int k, d]
def b4 : List D := ((((roomsI.map (at_ 0)) ++ (doors2.map (at_ 1))) ++ [at_ 1 sixD] ++ people1.map (at_ 2)) ++ people2.map (at_ 2)) ++ lastI.map (at_ 3)
theorem b4_ok : Gbs b4 := gbs_of (by decide +kernel)
theorem b4_len : b4.length = 38 := by decide +kernel
theorem roomI_ok : ∀ x ∈ roomI, gbB (at_ 4 x) = true ∧ gbB (at_ 5 x) = true := by
  have h : (roomI.all fun x => gbB (at_ 4 x) && gbB (at_ 5 x)) = true := by decide +kernel
  exact fun x hx => and2 (List.all_eq_true.mp h x hx)
def b6 : List D := [at_ 6 (.tup (List.replicate (16 : Int).toNat [D.tup rowD]).flatten), at_ 6 (.tup (List.replicate (17 : Int).toNat [D.tup rowD]).flatten), at_ 6 (.lst [.tup rowD]), at_ 6 .non]
def b7 : List D := [at_ 7 (.tup (List.replicate (6 : Int).toNat [D.tup goneD]).flatten), at_ 7 (.tup (List.replicate (7 : Int).toNat [D.tup goneD]).flatten), at_ 7 (.lst [.tup goneD])]
theorem b67_ok : Gbs b6 ∧ Gbs b7 := ⟨gbs_of (by decide +kernel), gbs_of (by decide +kernel)⟩
def nine : List D := [.tup [.int 0, .str "a"], .tup [.int 0, .str "eve"], .tup [.int 1, .int 6], .tup [.int 1, .int (-1)], .tup [.int 1, .bl true], .tup [.int 2, .str "e"], .tup [.int 2, .str "ann"], .tup [.int 3, .int 0], .tup [.int 3, .int 10]]
def nineB (d : D) : Bool := match d with
  | .tup [.int k, x] => decide (0 ≤ k) && (decide (k < 4) && okB x)
  | _ => false
theorem nine_ok {d : D} (h : d ∈ nine) : ∃ (k : Nat) (x : D), d = .tup [.int (k : Nat), x] ∧ k < 4 ∧ okB x = true := by
  have a : nine.all nineB = true := by decide +kernel
  replace h := List.all_eq_true.mp a d h
  unfold nineB at h
  split at h
  · rename_i k x
    obtain ⟨h1, h⟩ := and2 h
    obtain ⟨h2, h3⟩ := and2 h
    have h1 := of_decide_eq_true h1
    have h2 := of_decide_eq_true h2
    obtain ⟨m, rfl⟩ : ∃ m : Nat, k = m := ⟨k.toNat, by omega⟩
    exact ⟨m, x, rfl, by omega, h3⟩
  · cases h
def b8 : List D := [at_ 6 (.tup [.tup (Fw.cutD rowD none (some 3))]), at_ 6 (.tup [.tup (rowD ++ [.int 1])]), at_ 7 (.tup [.tup (Fw.cutD goneD none (some 2))]), at_ 7 (.tup [.tup rowD]), at_ 6 (.tup [.tup goneD])]
theorem b8_ok : Gbs b8 := gbs_of (by decide +kernel)
theorem row_ok : okBs rowD = true ∧ okBs goneD = true := by decide +kernel
theorem fall8 : ∀ j : Fin 7, r8B (Fw.cutD goodL none (some (j.val : Int)) ++ [.int 5] ++ (List.replicate (7 - (j.val : Int)).toNat [D.non]).flatten) = true := by decide +kernel
section
variable {c : CD} {ρ ρ1 : Env'}
theorem LcS {vis loc : List Nat} {gl : List Str} {tg elt : Expr} {ifs : List Expr} {own : List Nat} {d : D} {o : Option D} (S : ScOk c vis loc gl) (h : ScOk c vis loc gl → LcTurn c tg elt ifs own ρ d o ρ1) : LcTurn c tg elt ifs own ρ d o ρ1 := h S
theorem E_lcXn {tg elt iter : Expr} {ifs : List Expr} {scope : Scope} {pos : Pos} {own : List (Str × Nat)} {r : Res} (hN : c.N.Nodup) {N' : List Str} {sc' : Scope} (eN : c.N = N') (es : c.sc = sc') (hok : BlkOk N' sc' scope own) (h : Ev c.z (tLcX c tg iter ifs elt scope own) ρ r ρ1) (hf : ∀ (X : Cx) x, foldedSetIterable iter X.env x = pure x) :
    EvX c (.ListComp elt [⟨tg, iter, ifs, 0⟩] scope pos) ρ r ρ1 := E_lcX hN (by rw [eN, es]; exact hok) h hf
end
section
variable {Z : Zd} {A : Str → Addr} {fC : Addr} (B : B03 Z A fC)
def sp_hand : SpD := fun ds Q _ => ds = [] ∧ Q (.d (.bl true))
theorem sc66 : FnScope ["row", "gone", "good", "bends", "rooms", "doors", "each", "six", "people", "last", "room", "k", "thing"] [] (defScope (top 66)) := ⟨rfl, rfl, rfl, by decide +kernel, rfl, by decide +kernel, by decide +kernel⟩
include B in
theorem kn_hand {f : Addr} {fd : FuncData} (F : FunD Z.K "_law_by_hand" "_law_by_hand" (defArgs (top 66)) (defBody (top 66)) (defScope (top 66)) [] [] f fd) (k__law_are_refused : Kn Z 13 "_law_are_refused" (SpP Z sp__law_are_refused)) : FnK Z.P Z.w Z.K Z.mg Z.base (L2.CX Z.P Z.w) 14 f fd [] (SpP Z sp_hand) := by
  refine kn_ofP F sc66 (fun ds Q R h => ?_) (by decide) (mkr := none) (fun _ z => nomatch z) fun E ds Q R h => ?_
  · obtain ⟨rfl, _⟩ := h; rfl
  · obtain ⟨rfl, hQ⟩ := h
    have S : ScOk ⟨Z, ["row", "gone", "good", "bends", "rooms", "doors", "each", "six", "people", "last", "room", "k", "thing"], defScope (top 66), fun _ => true, 13, E, fun _ _ => False, none⟩ [0, 1, 2, 3, 5, 7, 10, 11, 12] [0, 1, 2, 3, 5, 7, 10, 11, 12] ["tuple", "range"] := scOk_of sc66.nd rfl (by kernel_rfl)
    refine S_seq (S_asg (vs := [0, 1]) (d := .tup [.tup rowD, .tup goneD]) (E_tupD (D_cons (E_tupD (D_cons E_str (D_cons E_int (D_cons E_str (D_cons E_int D_nil (fun _ => rfl)) (fun _ => rfl)) (fun _ => rfl)) (fun _ => rfl)) rfl) (D_cons (E_tupD (D_cons E_int (D_cons E_str (D_cons E_int D_nil (fun _ => rfl)) (fun _ => rfl)) (fun _ => rfl)) rfl) D_nil (fun _ => rfl)) (fun _ => rfl)) rfl) (G_tup (Gs_cons (G_name S 0 rfl rfl rfl) (Gs_cons (G_name S 1 rfl rfl rfl) Gs_nil (fun _ => rfl)) (fun _ => rfl)) (fun _ _ hc h => pg_tup hc h)) ?_ (fun _ _ => rfl) (fun X ok => by unfold swappedStores Env.blockKind Env.kindOf; rw [ok.sc]; rfl) (fun _ => rfl))
    refine S_seq (S_asg (vs := [2]) (d := .tup goodL) (E_tupD (D_cons (E_tupD (D_cons E_str (D_cons E_str (D_cons E_str (D_cons E_str D_nil (fun _ => rfl)) (fun _ => rfl)) (fun _ => rfl)) (fun _ => rfl)) rfl) (D_cons (E_tupD (D_cons (E_tupD (D_cons E_str (D_cons E_str D_nil (fun _ => rfl)) (fun _ => rfl)) rfl) (D_cons (E_tupD (D_cons E_str (D_cons E_str D_nil (fun _ => rfl)) (fun _ => rfl)) rfl) D_nil (fun _ => rfl)) (fun _ => rfl)) rfl) (D_cons (E_tupD (D_cons E_str (D_cons E_str D_nil (fun _ => rfl)) (fun _ => rfl)) rfl) (D_cons E_int (D_cons E_str (D_cons E_str (D_cons (E_tupD (D_cons (E_var S 0 rfl rfl rfl) D_nil (fun _ => rfl)) rfl) (D_cons (E_tupD (D_cons (E_var S 1 rfl rfl rfl) D_nil (fun _ => rfl)) rfl) D_nil (fun _ => rfl)) (fun _ => rfl)) (fun _ => rfl)) (fun _ => rfl)) (fun _ => rfl)) (fun _ => rfl)) (fun _ => rfl)) (fun _ => rfl)) rfl) (G_name S 2 rfl rfl rfl) ?_ (fun _ _ => rfl) (fun _ _ => rfl) (fun _ => rfl))
    refine S_seq (S_setLc S (own := [("rooms", 4)]) (d := .lst (roomsI.map (at_ 0))) 3 rfl (by kernel_rfl) rfl rfl ⟨rfl, by (dsimp only; decide +kernel), by (dsimp only; decide +kernel), by (dsimp only; decide +kernel), by (dsimp only; decide +kernel)⟩ (Ev_lcAW 4 [4] [] (ds := roomsI) (at_ 0) rfl (scOk_of sc66.nd rfl (by kernel_rfl)) (I_tup (E_tupD (D_cons (E_tupD (D_cons E_str D_nil (fun _ => rfl)) rfl) (D_cons (E_cty S (A_cons E_str A_nil (fun _ => rfl)) (.cons (.d _) .nil) (b_tupS (Nat.le_of_ble_eq_true rfl)) (mem_of 0 rfl) (B.fr "tuple" (mem_of 15 rfl)) rfl (fun _ => rfl) (fun _ => rfl)) (D_cons (E_tupD (D_cons E_str (D_cons E_str D_nil (fun _ => rfl)) (fun _ => rfl)) rfl) (D_cons (E_tupD (D_cons E_str (D_cons E_str D_nil (fun _ => rfl)) (fun _ => rfl)) rfl) (D_cons (E_tupD (D_cons E_str (D_cons E_str D_nil (fun _ => rfl)) (fun _ => rfl)) rfl) (D_cons (E_lstD (D_cons E_str (D_cons E_str D_nil (fun _ => rfl)) (fun _ => rfl)) rfl) (D_cons E_str D_nil (fun _ => rfl)) (fun _ => rfl)) (fun _ => rfl)) (fun _ => rfl)) (fun _ => rfl)) (fun _ => rfl)) (fun _ => rfl)) rfl)) rfl (fun S' j d _ => E_tupD (D_cons E_int (D_cons (E_var S' 4 rfl rfl rfl) D_nil (fun _ => rfl)) (fun _ => rfl)) rfl) (Nat.le_of_ble_eq_true rfl) rfl) ?_ rfl (by decide +kernel) (fun _ _ => rfl))
    refine S_seq (S_asg (vs := [5]) (d := .lst doors1) (E_lstD (D_cons (E_tupD D_nil rfl) (D_cons (E_tupD (D_cons (E_tupD (D_cons E_str (D_cons E_str D_nil (fun _ => rfl)) (fun _ => rfl)) rfl) D_nil (fun _ => rfl)) rfl) (D_cons (E_tupD (D_cons (E_tupD (D_cons E_str (D_cons E_str D_nil (fun _ => rfl)) (fun _ => rfl)) rfl) D_nil (fun _ => rfl)) rfl) (D_cons (E_tupD (D_cons (E_tupD (D_cons E_str (D_cons E_str D_nil (fun _ => rfl)) (fun _ => rfl)) rfl) (D_cons (E_tupD (D_cons E_str (D_cons E_str D_nil (fun _ => rfl)) (fun _ => rfl)) rfl) D_nil (fun _ => rfl)) (fun _ => rfl)) rfl) (D_cons (E_tupD (D_cons (E_tupD (D_cons E_str (D_cons E_str D_nil (fun _ => rfl)) (fun _ => rfl)) rfl) (D_cons (E_tupD (D_cons E_str (D_cons E_str D_nil (fun _ => rfl)) (fun _ => rfl)) rfl) D_nil (fun _ => rfl)) (fun _ => rfl)) rfl) (D_cons (E_tupD (D_cons (E_tupD (D_cons E_str (D_cons E_str D_nil (fun _ => rfl)) (fun _ => rfl)) rfl) D_nil (fun _ => rfl)) rfl) D_nil (fun _ => rfl)) (fun _ => rfl)) (fun _ => rfl)) (fun _ => rfl)) (fun _ => rfl)) (fun _ => rfl)) rfl) (G_name S 5 rfl rfl rfl) ?_ (fun _ _ => rfl) (fun _ _ => rfl) (fun _ => rfl))
    refine S_seq (S_asg (vs := [5]) (d := .lst doors2) (E_op (E_var S 5 rfl rfl rfl) (E_lstD (D_cons (E_tupD (D_cons (E_tupD (D_cons E_str (D_cons E_str (D_cons E_str D_nil (fun _ => rfl)) (fun _ => rfl)) (fun _ => rfl)) rfl) D_nil (fun _ => rfl)) rfl) (D_cons (E_tupD (D_cons (E_lstD (D_cons E_str (D_cons E_str D_nil (fun _ => rfl)) (fun _ => rfl)) rfl) D_nil (fun _ => rfl)) rfl) (D_cons E_non (D_cons (E_op (E_tupD (D_cons (E_tupD (D_cons E_str (D_cons E_str D_nil (fun _ => rfl)) (fun _ => rfl)) rfl) D_nil (fun _ => rfl)) rfl) E_int (.d _) (.d _) (o_repT (by simp) (by decide) (by decide) (by simp))) (D_cons (E_lstD (D_cons (E_tupD (D_cons E_str (D_cons E_str D_nil (fun _ => rfl)) (fun _ => rfl)) rfl) D_nil (fun _ => rfl)) rfl) D_nil (fun _ => rfl)) (fun _ => rfl)) (fun _ => rfl)) (fun _ => rfl)) (fun _ => rfl)) rfl) (.d _) (.d _) (o_addL (small_line (Nat.le_of_ble_eq_true rfl)))) (G_name S 5 rfl rfl rfl) ?_ (fun _ _ => rfl) (fun _ _ => rfl) (fun _ => rfl))
    refine S_seq (S_asg (vs := [3]) (E_op (E_var S 3 rfl rfl rfl) (E_lcA 6 [6] [] (ds := doors2) (at_ 1) sc66.nd rfl rfl rfl ⟨rfl, by (dsimp only; decide +kernel), by (dsimp only; decide +kernel), by (dsimp only; decide +kernel), by (dsimp only; decide +kernel)⟩ (scOk_of sc66.nd rfl (by kernel_rfl)) (I_lst (E_var S 5 rfl rfl rfl) rfl) rfl (fun S' j d _ => E_tupD (D_cons E_int (D_cons (E_var S' 6 rfl rfl rfl) D_nil (fun _ => rfl)) (fun _ => rfl)) rfl) (Nat.le_of_ble_eq_true rfl) rfl (fun _ _ => rfl)) (.d _) (.d _) (o_addL (small_line (Nat.le_of_ble_eq_true rfl)))) (G_name S 3 rfl rfl rfl) ?_ (fun _ _ => rfl) (fun _ _ => rfl) (fun _ => rfl))
    refine S_seq (S_asg (vs := [7]) (d := sixD) (E_tupD (D_cons (E_tupD (D_cons E_str (D_cons E_str D_nil (fun _ => rfl)) (fun _ => rfl)) rfl) (D_cons (E_tupD (D_cons E_str (D_cons E_str D_nil (fun _ => rfl)) (fun _ => rfl)) rfl) (D_cons (E_tupD (D_cons E_str (D_cons E_str D_nil (fun _ => rfl)) (fun _ => rfl)) rfl) (D_cons (E_tupD (D_cons E_str (D_cons E_str D_nil (fun _ => rfl)) (fun _ => rfl)) rfl) (D_cons (E_tupD (D_cons E_str (D_cons E_str D_nil (fun _ => rfl)) (fun _ => rfl)) rfl) (D_cons (E_tupD (D_cons E_str (D_cons E_str D_nil (fun _ => rfl)) (fun _ => rfl)) rfl) D_nil (fun _ => rfl)) (fun _ => rfl)) (fun _ => rfl)) (fun _ => rfl)) (fun _ => rfl)) (fun _ => rfl)) rfl) (G_name S 7 rfl rfl rfl) ?_ (fun _ _ => rfl) (fun _ _ => rfl) (fun _ => rfl))
    refine S_seq (S_asg (vs := [3]) (E_op (E_op (E_var S 3 rfl rfl rfl) (E_lstD (D_cons (E_tupD (D_cons E_int (D_cons (E_var S 7 rfl rfl rfl) D_nil (fun _ => rfl)) (fun _ => rfl)) rfl) D_nil (fun _ => rfl)) rfl) (.d _) (.d _) (o_addL (small_line (Nat.le_of_ble_eq_true rfl)))) (E_lcA 8 [8] [] (ds := people1) (at_ 2) sc66.nd rfl rfl rfl ⟨rfl, by (dsimp only; decide +kernel), by (dsimp only; decide +kernel), by (dsimp only; decide +kernel), by (dsimp only; decide +kernel)⟩ (scOk_of sc66.nd rfl (by kernel_rfl)) (I_tup (E_tupD (D_cons (E_tupD D_nil rfl) (D_cons (E_tupD (D_cons E_str (D_cons E_str (D_cons E_str D_nil (fun _ => rfl)) (fun _ => rfl)) (fun _ => rfl)) rfl) (D_cons (E_cty S (A_cons E_str A_nil (fun _ => rfl)) (.cons (.d _) .nil) (b_tupS (Nat.le_of_ble_eq_true rfl)) (mem_of 0 rfl) (B.fr "tuple" (mem_of 15 rfl)) rfl (fun _ => rfl) (fun _ => rfl)) (D_cons (E_tupD (D_cons E_str D_nil (fun _ => rfl)) rfl) D_nil (fun _ => rfl)) (fun _ => rfl)) (fun _ => rfl)) (fun _ => rfl)) rfl)) rfl (fun S' j d _ => E_tupD (D_cons E_int (D_cons (E_var S' 8 rfl rfl rfl) D_nil (fun _ => rfl)) (fun _ => rfl)) rfl) (Nat.le_of_ble_eq_true rfl) rfl (fun _ _ => rfl)) (.d _) (.d _) (o_addL (small_line (Nat.le_of_ble_eq_true rfl)))) (G_name S 3 rfl rfl rfl) ?_ (fun _ _ => rfl) (fun _ _ => rfl) (fun _ => rfl))
    refine S_seq (S_asg (vs := [3]) (E_op (E_var S 3 rfl rfl rfl) (E_lcA 8 [8] [] (ds := people2) (at_ 2) sc66.nd rfl rfl rfl ⟨rfl, by (dsimp only; decide +kernel), by (dsimp only; decide +kernel), by (dsimp only; decide +kernel), by (dsimp only; decide +kernel)⟩ (scOk_of sc66.nd rfl (by kernel_rfl)) (I_tup (E_tupD (D_cons (E_tupD (D_cons E_str (D_cons E_str D_nil (fun _ => rfl)) (fun _ => rfl)) rfl) (D_cons (E_tupD (D_cons E_str (D_cons E_str D_nil (fun _ => rfl)) (fun _ => rfl)) rfl) (D_cons (E_lstD (D_cons E_str D_nil (fun _ => rfl)) rfl) (D_cons E_non (D_cons (E_tupD (D_cons E_str D_nil (fun _ => rfl)) rfl) (D_cons (E_tupD (D_cons E_str (D_cons E_str D_nil (fun _ => rfl)) (fun _ => rfl)) rfl) D_nil (fun _ => rfl)) (fun _ => rfl)) (fun _ => rfl)) (fun _ => rfl)) (fun _ => rfl)) (fun _ => rfl)) rfl)) rfl (fun S' j d _ => E_tupD (D_cons E_int (D_cons (E_var S' 8 rfl rfl rfl) D_nil (fun _ => rfl)) (fun _ => rfl)) rfl) (Nat.le_of_ble_eq_true rfl) rfl (fun _ _ => rfl)) (.d _) (.d _) (o_addL (small_line (Nat.le_of_ble_eq_true rfl)))) (G_name S 3 rfl rfl rfl) ?_ (fun _ _ => rfl) (fun _ _ => rfl) (fun _ => rfl))
    refine S_seq (S_asg (vs := [3]) (d := .lst b4) (E_op (E_var S 3 rfl rfl rfl) (E_lcA 9 [9] [] (ds := lastI) (at_ 3) sc66.nd rfl rfl rfl ⟨rfl, by (dsimp only; decide +kernel), by (dsimp only; decide +kernel), by (dsimp only; decide +kernel), by (dsimp only; decide +kernel)⟩ (scOk_of sc66.nd rfl (by kernel_rfl)) (I_tup (E_tupD (D_cons E_int (D_cons E_int (D_cons E_int (D_cons E_int (D_cons E_bl (D_cons E_str (D_cons E_non (D_cons (E_tupD (D_cons E_int D_nil (fun _ => rfl)) rfl) (D_cons (E_neg E_int) D_nil (fun _ => rfl)) (fun _ => rfl)) (fun _ => rfl)) (fun _ => rfl)) (fun _ => rfl)) (fun _ => rfl)) (fun _ => rfl)) (fun _ => rfl)) (fun _ => rfl)) rfl)) rfl (fun S' j d _ => E_tupD (D_cons E_int (D_cons (E_var S' 9 rfl rfl rfl) D_nil (fun _ => rfl)) (fun _ => rfl)) rfl) (Nat.le_of_ble_eq_true rfl) rfl (fun _ _ => rfl)) (.d _) (.d _) (o_addL (small_line (Nat.le_of_ble_eq_true rfl)))) (G_name S 3 rfl rfl rfl) ?_ (fun _ _ => rfl) (fun _ _ => rfl) (fun _ => rfl))
    let ρ0 : List D → Ent → Env' := fun bs e => [.d (.tup rowD), .d (.tup goneD), .d (.tup goodL), .d (.lst bs), .un, .d (.lst doors2), .un, .d sixD, .un, .un, e, .un, .un]
    refine S_seq (S_for (ρ1 := ρ0 b4 .un) (vs := [10]) (ds := roomI) (fun j ρ => ∃ bs e, ρ = ρ0 bs e ∧ Gbs bs ∧ bs.length ≤ 38 + 2 * j) (I_tup (E_tupD (D_cons E_str (D_cons E_str (D_cons E_str (D_cons E_non (D_cons E_int (D_cons (E_tupD (D_cons E_str D_nil (fun _ => rfl)) rfl) (D_cons E_str D_nil (fun _ => rfl)) (fun _ => rfl)) (fun _ => rfl)) (fun _ => rfl)) (fun _ => rfl)) (fun _ => rfl)) (fun _ => rfl)) rfl)) ⟨b4, .un, rfl, b4_ok, Nat.le_of_eq b4_len⟩ (fun j x ρ hj hI => ?turn) (fun ρ hI => ?fin) (fun _ _ => rfl))
    case turn =>
      obtain ⟨bs, e, rfl, hb, hl⟩ := hI
      have hj7 : j < 7 := (List.getElem?_eq_some_iff.mp hj).1
      obtain ⟨g1, g2⟩ := roomI_ok x (List.mem_of_getElem? hj)
      refine ⟨_, G_name S 10 rfl rfl rfl, ?_⟩
      refine S_seq (S_asg (vs := [3]) (E_op (E_var S 3 rfl rfl rfl) (E_lstD (D_cons (E_tupD (D_cons E_int (D_cons (E_var S 10 rfl rfl rfl) D_nil (fun _ => rfl)) (fun _ => rfl)) rfl) (D_cons (E_tupD (D_cons E_int (D_cons (E_var S 10 rfl rfl rfl) D_nil (fun _ => rfl)) (fun _ => rfl)) rfl) D_nil (fun _ => rfl)) (fun _ => rfl)) rfl) (.d _) (.d _) (o_addL (small_line (by simp; omega)))) (G_name S 3 rfl rfl rfl) (S_nil ⟨bs ++ [at_ 4 x, at_ 5 x], _, rfl, hb.app fun d hd => ?_, ?_⟩) (fun _ _ => rfl) (fun _ _ => rfl) (fun _ => rfl))
      · simp only [List.mem_cons, List.not_mem_nil, or_false] at hd
        rcases hd with rfl | rfl
        · exact g1
        · exact g2
      · rw [List.length_append]
        simp only [List.length_cons, List.length_nil]
        omega
    case fin =>
      obtain ⟨bs, e, rfl, hb, hl⟩ := hI
      have hl : bs.length ≤ 52 := hl
      refine S_seq (S_asg (vs := [3]) (d := .lst (bs ++ b6)) (E_op (E_var S 3 rfl rfl rfl) (E_lstD (D_cons (E_tupD (D_cons E_int (D_cons (E_op (E_tupD (D_cons (E_var S 0 rfl rfl rfl) D_nil (fun _ => rfl)) rfl) E_int (.d _) (.d _) (o_repT (by simp) (by decide) (by decide) (by simp))) D_nil (fun _ => rfl)) (fun _ => rfl)) rfl) (D_cons (E_tupD (D_cons E_int (D_cons (E_op (E_tupD (D_cons (E_var S 0 rfl rfl rfl) D_nil (fun _ => rfl)) rfl) E_int (.d _) (.d _) (o_repT (by simp) (by decide) (by decide) (by simp))) D_nil (fun _ => rfl)) (fun _ => rfl)) rfl) (D_cons (E_tupD (D_cons E_int (D_cons (E_lstD (D_cons (E_var S 0 rfl rfl rfl) D_nil (fun _ => rfl)) rfl) D_nil (fun _ => rfl)) (fun _ => rfl)) rfl) (D_cons (E_tupD (D_cons E_int (D_cons E_non D_nil (fun _ => rfl)) (fun _ => rfl)) rfl) D_nil (fun _ => rfl)) (fun _ => rfl)) (fun _ => rfl)) (fun _ => rfl)) rfl) (.d _) (.d _) (o_addL (small_line (by simp; omega)))) (G_name S 3 rfl rfl rfl) ?_ (fun _ _ => rfl) (fun _ _ => rfl) (fun _ => rfl))
      have hl6 : (bs ++ b6).length ≤ 56 := by
        rw [List.length_append]
        exact Nat.add_le_add hl (Nat.le_of_ble_eq_true rfl : b6.length ≤ 4)
      have hb6 := hb.app b67_ok.1
      generalize bs ++ b6 = bs at hl6 hb6
      refine S_seq (S_asgF S 3 (t := .fl (bs ++ b7)) (E_addLF (E_var S 3 rfl rfl rfl) (E_lstD (D_cons (E_tupD (D_cons E_int (D_cons (E_op (E_tupD (D_cons (E_var S 1 rfl rfl rfl) D_nil (fun _ => rfl)) rfl) E_int (.d _) (.d _) (o_repT (by simp) (by decide) (by decide) (by simp))) D_nil (fun _ => rfl)) (fun _ => rfl)) rfl) (D_cons (E_tupD (D_cons E_int (D_cons (E_op (E_tupD (D_cons (E_var S 1 rfl rfl rfl) D_nil (fun _ => rfl)) rfl) E_int (.d _) (.d _) (o_repT (by simp) (by decide) (by decide) (by simp))) D_nil (fun _ => rfl)) (fun _ => rfl)) rfl) (D_cons (E_tupD (D_cons E_int (D_cons (E_lstD (D_cons (E_var S 1 rfl rfl rfl) D_nil (fun _ => rfl)) rfl) D_nil (fun _ => rfl)) (fun _ => rfl)) rfl) D_nil (fun _ => rfl)) (fun _ => rfl)) (fun _ => rfl)) rfl) (.d _) (.d _) (Nat.le_trans (Nat.add_le_add_right hl6 _) (Nat.le_of_ble_eq_true rfl))) rfl rfl (Nat.le_of_ble_eq_true rfl) rfl ?_ (fun _ _ => rfl) (fun _ _ => rfl))
      have hl7 : (bs ++ b7).length ≤ 60 := by
        rw [List.length_append]
        exact Nat.add_le_add hl6 (Nat.le_of_ble_eq_true rfl : b7.length ≤ 4)
      have hb7 := hb6.app b67_ok.2
      generalize bs ++ b7 = bs at hl7 hb7
      let ρ2 : List D → Ent → Ent → Env' := fun bs e1 e2 => [.d (.tup rowD), .d (.tup goneD), .d (.tup goodL), .ot none (.fl bs), .un, .d (.lst doors2), .un, .d sixD, .un, .un, e, e1, e2]
      refine S_seq (S_for (ρ1 := ρ2 bs .un .un) (vs := [11, 12]) (ds := nine) (fun j ρ => ∃ bs e1 e2, ρ = ρ2 bs e1 e2 ∧ Gbs bs ∧ bs.length ≤ 60 + 2 * j) (I_lst (x := .lst nine) (E_lstD (D_cons (E_tupD (D_cons E_int (D_cons E_str D_nil (fun _ => rfl)) (fun _ => rfl)) rfl) (D_cons (E_tupD (D_cons E_int (D_cons E_str D_nil (fun _ => rfl)) (fun _ => rfl)) rfl) (D_cons (E_tupD (D_cons E_int (D_cons E_int D_nil (fun _ => rfl)) (fun _ => rfl)) rfl) (D_cons (E_tupD (D_cons E_int (D_cons (E_neg E_int) D_nil (fun _ => rfl)) (fun _ => rfl)) rfl) (D_cons (E_tupD (D_cons E_int (D_cons E_bl D_nil (fun _ => rfl)) (fun _ => rfl)) rfl) (D_cons (E_tupD (D_cons E_int (D_cons E_str D_nil (fun _ => rfl)) (fun _ => rfl)) rfl) (D_cons (E_tupD (D_cons E_int (D_cons E_str D_nil (fun _ => rfl)) (fun _ => rfl)) rfl) (D_cons (E_tupD (D_cons E_int (D_cons E_int D_nil (fun _ => rfl)) (fun _ => rfl)) rfl) (D_cons (E_tupD (D_cons E_int (D_cons E_int D_nil (fun _ => rfl)) (fun _ => rfl)) rfl) D_nil (fun _ => rfl)) (fun _ => rfl)) (fun _ => rfl)) (fun _ => rfl)) (fun _ => rfl)) (fun _ => rfl)) (fun _ => rfl)) (fun _ => rfl)) (fun _ => rfl)) rfl) rfl) ⟨bs, .un, .un, rfl, hb7, hl7⟩ (fun j x ρ hj hI => ?turn2) (fun ρ hI => ?fin2) (fun _ _ => rfl))
      case turn2 =>
        obtain ⟨bs, e1, e2, rfl, hb, hl⟩ := hI
        have hj9 : j < 9 := (List.getElem?_eq_some_iff.mp hj).1
        obtain ⟨k, x, rfl, hk, hx⟩ := nine_ok (List.mem_of_getElem? hj)
        have okc : ∀ (y : Str × Nat) (xs : List D) lo hi, okBs xs = true → okBs (Fw.cutD xs none lo ++ [x] ++ Fw.cutD xs hi none) = true := fun _ xs lo hi h => okBs_app (okBs_app (okBs_cut h) (okBs_one hx)) (okBs_cut h)
        have lc : ∀ (xs : List D) lo hi, xs.length ≤ 10 → (Fw.cutD xs lo hi).length ≤ 100 := fun xs lo hi h => Nat.le_trans cutD_len (by omega)
        have lc1 : ∀ (xs : List D) lo hi, xs.length ≤ 10 → (Fw.cutD xs lo hi ++ [x]).length ≤ 100 := fun xs lo hi h => by
          have := cutD_len (ds := xs) (lo := lo) (hi := hi)
          rw [List.length_append, List.length_singleton]
          omega
        have sl : ∀ {xs ys : List D}, xs.length ≤ 100 → ys.length ≤ 100 → xs.length + ys.length ≤ sizeLine := fun h1 h2 => small_line (by omega)
        have r4 : rowD.length ≤ 10 := Nat.le_of_ble_eq_true rfl
        have g3 : goneD.length ≤ 10 := Nat.le_of_ble_eq_true rfl
        refine ⟨_, G_tup (Gs_cons (G_name S 11 rfl rfl rfl) (Gs_cons (G_name S 12 rfl rfl rfl) Gs_nil (fun _ => rfl)) (fun _ => rfl)) (fun _ _ hc h => pg_tup hc h), ?_⟩
        refine S_seq (S_append1 S 3 (ds := bs) (E_tupD (D_cons E_int (D_cons (E_tupD (D_cons (E_var S 0 rfl rfl rfl) (D_cons (E_op (E_op (E_slice (E_var S 0 rfl rfl rfl) .no (.yes (E_var S 11 rfl rfl rfl)) (.d _) s_tup) (E_tupD (D_cons (E_var S 12 rfl rfl rfl) D_nil (fun _ => rfl)) rfl) (.d _) (.d _) (o_addT (sl (lc _ _ _ r4) (by simp)))) (E_slice (E_var S 0 rfl rfl rfl) (.yes (E_op (E_var S 11 rfl rfl rfl) E_int (.d _) (.d _) o_add)) .no (.d _) s_tup) (.d _) (.d _) (o_addT (sl (lc1 _ _ _ r4) (lc _ _ _ r4)))) (D_cons E_non D_nil (fun _ => rfl)) (fun _ => rfl)) (fun _ => rfl)) rfl) D_nil (fun _ => rfl)) (fun _ => rfl)) rfl) rfl rfl ⟨_, rfl⟩ rfl rfl (by omega) ?_ (fun _ => rfl) (fun _ _ _ ho ha => pe_bm PySem.F.plainAttrs_list PySem.F.slot_list_append PySem.F.type_list_append mt_append ho ha) (fun _ => rfl))
        have ob1 : gbB (.tup [.int 6, .tup [.tup rowD, .tup (Fw.cutD rowD none (some ((k : Nat) : Int)) ++ [x] ++ Fw.cutD rowD (some (((k : Nat) : Int) + 1)) none), .non]]) = true := by
          refine gb_six (okBs_iff.mpr fun d hd => ?_)
          simp only [List.mem_cons, List.not_mem_nil, or_false] at hd
          rcases hd with rfl | rfl | rfl
          · exact row_ok.1
          · exact okc ("", 0) _ _ _ row_ok.1
          · rfl
        refine S_seq (S_if (t := decide ((0 : Int) < (k : Nat))) (T_cmp (E_var S 11 rfl rfl rfl) E_int (.d _) (.d _) o_gt rfl) (fun hu => ?more) (fun hu => S_nil (S_nil ⟨_, _, _, rfl, hb.app fun d hd => by rw [List.mem_singleton.mp hd]; exact ob1, by rw [List.length_append, List.length_singleton]; omega⟩)))
        case more =>
          refine S_seq (S_append1 S 3 (E_tupD (D_cons E_int (D_cons (E_tupD (D_cons (E_var S 1 rfl rfl rfl) (D_cons (E_op (E_op (E_slice (E_var S 1 rfl rfl rfl) .no (.yes (E_op (E_var S 11 rfl rfl rfl) E_int (.d _) (.d _) o_sub)) (.d _) s_tup) (E_tupD (D_cons (E_var S 12 rfl rfl rfl) D_nil (fun _ => rfl)) rfl) (.d _) (.d _) (o_addT (sl (lc _ _ _ g3) (by simp)))) (E_slice (E_var S 1 rfl rfl rfl) (.yes (E_var S 11 rfl rfl rfl)) .no (.d _) s_tup) (.d _) (.d _) (o_addT (sl (lc1 _ _ _ g3) (lc _ _ _ g3)))) (D_cons E_non D_nil (fun _ => rfl)) (fun _ => rfl)) (fun _ => rfl)) rfl) D_nil (fun _ => rfl)) (fun _ => rfl)) rfl) rfl rfl ⟨_, rfl⟩ rfl rfl (by rw [List.length_append, List.length_singleton]; omega) ?_ (fun _ => rfl) (fun _ _ _ ho ha => pe_bm PySem.F.plainAttrs_list PySem.F.slot_list_append PySem.F.type_list_append mt_append ho ha) (fun _ => rfl))
          refine S_nil (S_nil ⟨_, _, _, rfl, (hb.app fun d hd => by rw [List.mem_singleton.mp hd]; exact ob1).app fun d hd => ?_, by rw [List.length_append, List.length_append, List.length_singleton, List.length_singleton]; omega⟩)
          rw [List.mem_singleton.mp hd]
          refine gb_seven (okBs_iff.mpr fun d hd => ?_)
          simp only [List.mem_cons, List.not_mem_nil, or_false] at hd
          rcases hd with rfl | rfl | rfl
          · exact row_ok.2
          · exact okc ("", 0) _ _ _ row_ok.2
          · rfl
      case fin2 =>
        obtain ⟨bs, e1, e2, rfl, hb, hl⟩ := hI
        have hl : bs.length ≤ 78 := hl
        refine S_seq (S_asg (vs := [3]) (d := .lst (bs ++ b8)) (E_op (E_own S 3 rfl rfl rfl) (E_lstD (D_cons (E_tupD (D_cons E_int (D_cons (E_tupD (D_cons (E_slice (E_var S 0 rfl rfl rfl) .no (.yes E_int) (.d _) s_tup) D_nil (fun _ => rfl)) rfl) D_nil (fun _ => rfl)) (fun _ => rfl)) rfl) (D_cons (E_tupD (D_cons E_int (D_cons (E_tupD (D_cons (E_op (E_var S 0 rfl rfl rfl) (E_tupD (D_cons E_int D_nil (fun _ => rfl)) rfl) (.d _) (.d _) (o_addT (small_line (Nat.le_of_ble_eq_true rfl)))) D_nil (fun _ => rfl)) rfl) D_nil (fun _ => rfl)) (fun _ => rfl)) rfl) (D_cons (E_tupD (D_cons E_int (D_cons (E_tupD (D_cons (E_slice (E_var S 1 rfl rfl rfl) .no (.yes E_int) (.d _) s_tup) D_nil (fun _ => rfl)) rfl) D_nil (fun _ => rfl)) (fun _ => rfl)) rfl) (D_cons (E_tupD (D_cons E_int (D_cons (E_tupD (D_cons (E_var S 0 rfl rfl rfl) D_nil (fun _ => rfl)) rfl) D_nil (fun _ => rfl)) (fun _ => rfl)) rfl) (D_cons (E_tupD (D_cons E_int (D_cons (E_tupD (D_cons (E_var S 1 rfl rfl rfl) D_nil (fun _ => rfl)) rfl) D_nil (fun _ => rfl)) (fun _ => rfl)) rfl) D_nil (fun _ => rfl)) (fun _ => rfl)) (fun _ => rfl)) (fun _ => rfl)) (fun _ => rfl)) rfl) (.fl rfl rfl) (.d _) (o_addL (small_line (by simp; omega)))) (G_name S 3 rfl rfl rfl) ?_ (fun _ _ => rfl) (fun _ _ => rfl) (fun _ => rfl))
        have hl8 : (bs ++ b8).length ≤ 83 := by
          rw [List.length_append]
          exact Nat.add_le_add hl (Nat.le_of_ble_eq_true rfl : b8.length ≤ 5)
        have hb8 := hb.app b8_ok
        generalize bs ++ b8 = bs at hl8 hb8
        refine EsX.pre (ρ1 := [.d (.tup rowD), .d (.tup goneD), .d (.tup goodL), .d (.lst bs), .un, .d (.lst doors2), .un, .d sixD, .un, .un, e, .un, .un]) (fun {Z G F H σ} S => Weak.drop (i := 12) (Weak.drop (i := 11) S)) ?_
        have sl : ∀ {xs ys : List D}, xs.length ≤ 100 → ys.length ≤ 100 → xs.length + ys.length ≤ sizeLine := fun h1 h2 => small_line (by omega)
        have gl : goodL.length = 8 := rfl
        refine S_seq (S_ifF (T_cmp (E_lcXn (own := [("k", 11), ("thing", 12)]) (r := .d (.lst [])) sc66.nd rfl rfl ⟨rfl, by (dsimp only; decide +kernel), by (dsimp only; decide +kernel), by (dsimp only; decide +kernel), by (dsimp only; decide +kernel)⟩ (Ev_frz (u := .fl []) (Ev_lcG (ds := bs) [("k", 11), ("thing", 12)] (fun _ => [.d (.tup rowD), .d (.tup goneD), .d (.tup goodL), .d (.lst bs), .un, .d (.lst doors2), .un, .d sixD, .un, .un, e, .un, .un]) (fun _ => []) (I_lst (E_var S 3 rfl rfl rfl) rfl) rfl rfl (fun j d hj => ⟨none, ?tn, rfl⟩) (by omega)) rfl rfl) (fun _ _ => rfl)) (E_lstD D_nil rfl) (.d _) (.d _) (o_ne shp_nil shp_nil) rfl) rfl (S_nil ?_))
        case tn =>
          obtain ⟨k, x, rfl, hk, hx, hr⟩ := gbB_ok (hb8 _ (List.mem_of_getElem? hj))
          refine LcS (vis := [2, 11, 12]) (loc := [11, 12]) (gl := ["_law_are_refused"]) (scOk_of sc66.nd rfl (by kernel_rfl)) fun S' => ?_
          refine .no (G_tup (Gs_cons (G_name S' 11 rfl rfl rfl) (Gs_cons (G_name S' 12 rfl rfl rfl) Gs_nil (fun _ => rfl)) (fun _ => rfl)) (fun _ _ hc h => pg_tup hc h)) (Ts_one (T_not (T_val (E_call S' k__law_are_refused (Nat.le_refl _) (D_cons (E_is (E_op (E_op (E_slice (E_var S' 2 rfl rfl rfl) .no (.yes (E_var S' 11 rfl rfl rfl)) (.d _) s_tup) (E_tupD (D_cons (E_var S' 12 rfl rfl rfl) D_nil (fun _ => rfl)) rfl) (.d _) (.d _) (o_addT (sl ?l1 (by simp)))) (E_slice (E_var S' 2 rfl rfl rfl) (.yes (E_op (E_var S' 11 rfl rfl rfl) E_int (.d _) (.d _) o_add)) .no (.d _) s_tup) (.d _) (.d _) (o_addT (sl ?l2 ?l3))) (congrArg D.tup (cutD_set (by rw [gl]; exact hk)))) D_nil (fun _ => rfl)) (r := .d (.bl true)) (fun Q R h => ref_of (good8.set hk hx hr) h) (mem_of 0 rfl) (fun _ => rfl) (fun _ => rfl)) (fun _ _ => rfl)))) rfl
          case l1 => exact Nat.le_trans cutD_len (by rw [gl]; omega)
          case l2 =>
            have := cutD_len (ds := goodL) (lo := none) (hi := some ((k : Nat) : Int))
            rw [List.length_append, List.length_singleton]
            omega
          case l3 => exact Nat.le_trans cutD_len (by rw [gl]; omega)
        refine S_seq (S_ret (E_cmp (E_is (E_lcP 11 [2, 11] ["_law_are_refused"] (ds := rangeD 0 7) (fun d => d) (fun _ => false) sc66.nd rfl rfl rfl ⟨rfl, by (dsimp only; decide +kernel), by (dsimp only; decide +kernel), by (dsimp only; decide +kernel), by (dsimp only; decide +kernel)⟩ (scOk_of sc66.nd rfl (by kernel_rfl)) (I_range1 S E_int (mem_of 1 rfl) (B.fr "range" (mem_of 11 rfl)) ⟨by decide, by decide⟩ (fun _ => rfl)) rfl ?tt (fun _ _ _ _ z => nomatch z) (Nat.le_of_ble_eq_true rfl) rfl (fun _ _ => rfl)) (d' := .lst []) rfl) (E_lstD D_nil rfl) (.d _) (.d _) (o_eq shp_nil shp_nil) rfl) ⟨hQ, Nat.le_of_ble_eq_true rfl⟩)
        case tt =>
          intro S' j d hj
          obtain ⟨hj7, rfl⟩ := rangeD_at0 hj
          have h8 := fall8 ⟨j, hj7⟩
          refine T_not (T_val (E_call S' k__law_are_refused (Nat.le_refl _) (D_cons (E_op (E_op (E_slice (E_var S' 2 rfl rfl rfl) .no (.yes (E_var S' 11 rfl rfl rfl)) (.d _) s_tup) (E_tupD (D_cons E_int D_nil (fun _ => rfl)) rfl) (.d _) (.d _) (o_addT (sl (Nat.le_trans cutD_len (by rw [gl]; omega)) (by simp)))) (E_op (E_tupD (D_cons E_non D_nil (fun _ => rfl)) rfl) (E_op E_int (E_var S' 11 rfl rfl rfl) (.d _) (.d _) o_sub) (.d _) (.d _) (o_repT (by simp) (by omega) (by omega) (by simp))) (.d _) (.d _) (o_addT (sl ?l2 ?l3))) D_nil (fun _ => rfl)) (r := .d (.bl true)) (fun Q R h => ref_of (r8B_ok h8) h) (mem_of 0 rfl) (fun _ => rfl) (fun _ => rfl)) (fun _ _ => rfl))
          case l2 =>
            have := cutD_len (ds := goodL) (lo := none) (hi := some ((j : Nat) : Int))
            show (Fw.cutD goodL none (some ((j : Nat) : Int)) ++ [_]).length ≤ 100
            rw [List.length_append, List.length_singleton]
            omega
          case l3 =>
            rw [PyProof.Rows.lm_len_rep_flat]
            simp
            omega
end
end K03

set_option Elab.async false
set_option maxRecDepth 100000
set_option maxHeartbeats 4000000
namespace K03
open PySem PySem.Spec PyProof.Rows L2 Fw
/-- fit to be bent -/
def Bt (n : Nat) (v : D) : Prop := okB v = true ∧ dpB 40 n v = true
theorem words_ok : ∀ x ∈ roomW ++ manW, (okB (.str x) && rpB (.str x)) = true := List.all_eq_true.mp (by decide +kernel)
theorem last_ok : ∀ j : Fin 9, rpB (.int (j.val : Nat)) = true := by decide +kernel
theorem ok_names {ns : List Str} (h : ∀ x ∈ ns, x ∈ roomW ++ manW) : okBs (ns.map D.str) = true ∧ (∀ x ∈ ns.map D.str, dpB 40 0 x = true) ∧ ∀ x ∈ ns.map D.str, Rp x := by
  refine ⟨okBs_iff.mpr fun d hd => ?_, fun d hd => ?_, fun d hd => ?_⟩ <;> obtain ⟨x, hx, rfl⟩ := List.mem_map.mp hd
  · exact (and2 (words_ok x (h x hx))).1
  · rfl
  · exact rpB_ok (and2 (words_ok x (h x hx))).2
theorem dp_getD {xs : List D} (h : ∀ x ∈ xs, dpB 40 0 x = true) (i : Nat) : dpB 40 0 (xs.getD i .non) = true := by
  rw [List.getD_eq_getElem?_getD]
  cases e : xs[i]? with
  | none => rfl
  | some x => exact h x (List.mem_of_getElem? e)
def Row (v : D) : Prop := okB v = true ∧ dpB 40 1 v = true
theorem row_of {xs : List D} (ho : okBs xs = true) (hl : xs.length ≤ 4) (hd : ∀ x ∈ xs, dpB 40 0 x = true) : Row (.tup xs) := ⟨ho, dpB_tup.mpr ⟨by omega, hd⟩⟩
theorem doorT_row {rs : List D} {k j : Nat} {b : Bool} (ho : okBs rs = true) (hd : ∀ x ∈ rs, dpB 40 0 x = true) : ∀ v ∈ doorT rs k j b, Row v := by
  intro v hv
  unfold doorT at hv
  split at hv
  · rw [List.mem_singleton.mp hv]
    refine row_of (okBs_iff.mpr fun x hx => ?_) (Nat.le_of_ble_eq_true rfl) fun x hx => ?_
    · simp only [List.mem_cons, List.not_mem_nil, or_false] at hx
      rcases hx with rfl | rfl <;> exact okB_getD ho _
    · simp only [List.mem_cons, List.not_mem_nil, or_false] at hx
      rcases hx with rfl | rfl <;> exact dp_getD hd _
  · cases hv
theorem doorIn_row {rs : List D} {k : Nat} {s : Dr × List D} (ho : okBs rs = true) (hd : ∀ x ∈ rs, dpB 40 0 x = true) (h : ∀ v ∈ s.2, Row v) : ∀ j, ∀ v ∈ (doorIn rs k s j).2, Row v
  | 0 => h
  | j + 1 => fun v hv => by
    rcases List.mem_append.mp (show v ∈ (doorIn rs k s j).2 ++ doorT rs k (k + 1 + j) _ from hv) with z | z
    · exact doorIn_row ho hd h j v z
    · exact doorT_row ho hd v z
theorem doorOut_row {rs : List D} {d : Dr} (ho : okBs rs = true) (hd : ∀ x ∈ rs, dpB 40 0 x = true) : ∀ k, ∀ v ∈ (doorOut rs d k).2, Row v
  | 0 => fun v hv => absurd hv (by simp [doorOut])
  | k + 1 => doorIn_row ho hd (doorOut_row ho hd k) _
theorem pk_ok {d : Dr} {xs : List D} (ho : okBs xs = true) (hd : ∀ x ∈ xs, dpB 40 0 x = true) : okB (pk d xs) = true ∧ dpB 40 0 (pk d xs) = true := ⟨okB_getD ho _, dp_getD hd _⟩
theorem sightGo_row {ps rs : List D} {last : Int} {d : Dr} (hp : okBs ps = true ∧ ∀ x ∈ ps, dpB 40 0 x = true) (hr : okBs rs = true ∧ ∀ x ∈ rs, dpB 40 0 x = true) : ∀ j, ∀ v ∈ (sightGo ps rs last d j).2, Row v
  | 0 => fun v hv => absurd hv (by simp [sightGo])
  | j + 1 => fun v hv => by
    rcases List.mem_append.mp (show v ∈ (sightGo ps rs last d j).2 ++ [_] from hv) with z | z
    · exact sightGo_row hp hr j v z
    · rw [List.mem_singleton.mp z]
      refine row_of (okBs_iff.mpr fun x hx => ?_) (Nat.le_of_ble_eq_true rfl) fun x hx => ?_
      · simp only [List.mem_cons, List.not_mem_nil, or_false] at hx
        rcases hx with rfl | rfl | rfl | rfl
        · exact (pk_ok hp.1 hp.2).1
        · rfl
        · exact (pk_ok hr.1 hr.2).1
        · rfl
      · simp only [List.mem_cons, List.not_mem_nil, or_false] at hx
        rcases hx with rfl | rfl | rfl | rfl
        · exact (pk_ok hp.1 hp.2).2
        · rfl
        · exact (pk_ok hr.1 hr.2).2
        · rfl
theorem noteGo_row {rs : List D} {last : Int} {d : Dr} (hr : okBs rs = true ∧ ∀ x ∈ rs, dpB 40 0 x = true) : ∀ j, ∀ v ∈ (noteGo rs last d j).2, Row v
  | 0 => fun v hv => absurd hv (by simp [noteGo])
  | j + 1 => fun v hv => by
    rcases List.mem_append.mp (show v ∈ (noteGo rs last d j).2 ++ [_] from hv) with z | z
    · exact noteGo_row hr j v z
    · rw [List.mem_singleton.mp z]
      refine row_of (okBs_iff.mpr fun x hx => ?_) (Nat.le_of_ble_eq_true rfl) fun x hx => ?_
      · simp only [List.mem_cons, List.not_mem_nil, or_false] at hx
        rcases hx with rfl | rfl | rfl
        · rfl
        · exact (pk_ok hr.1 hr.2).1
        · rfl
      · simp only [List.mem_cons, List.not_mem_nil, or_false] at hx
        rcases hx with rfl | rfl | rfl
        · rfl
        · exact (pk_ok hr.1 hr.2).2
        · rfl
theorem bt_rows {xs : List D} (hl : xs.length ≤ 40) (h : ∀ v ∈ xs, Row v) : Bt 2 (.tup xs) := ⟨okBs_iff.mpr fun v hv => (h v hv).1, dpB_tup.mpr ⟨hl, fun v hv => (h v hv).2⟩⟩
/-- eight parts that may be bent -/
structure P8 (n L : Nat) (xs : List D) : Prop where
  r : R8 xs
  bt : ∀ x ∈ xs, dpB L n x = true
theorem parts_ok {d : Dr} (hd : d.ok) {many crowd : Nat} {last : Int} (h1 : 0 < many) (h2 : many ≤ 4) (h3 : 0 < crowd) (h4 : crowd ≤ 4) (h5 : 0 ≤ last) (h6 : last ≤ 8) : P8 2 40 ((csOf d many crowd last 8).parts last) ∧ (csOf d many crowd last 8).d.ok := by
  have hr0 := ok_names (ns := namesOf d roomW many) fun x hx => List.mem_append_left _ (namesOf_mem (show many ≤ 8 by omega) x hx)
  have hp0 := ok_names (ns := namesOf (namesGo d roomW many).d manW crowd) fun x hx => List.mem_append_right _ (namesOf_mem (show crowd ≤ 8 by omega) x hx)
  have lr : ((namesOf d roomW many).map D.str).length = many := by rw [List.length_map]; exact namesOf_len (show many ≤ 8 by omega)
  have lp : ((namesOf (namesGo d roomW many).d manW crowd).map D.str).length = crowd := by rw [List.length_map]; exact namesOf_len (show crowd ≤ 8 by omega)
  unfold csOf Cs.parts
  dsimp only
  generalize (namesOf d roomW many).map D.str = rs at hr0 lr
  generalize (namesOf (namesGo d roomW many).d manW crowd).map D.str = ps at hp0 lp
  generalize (namesGo (namesGo d roomW many).d manW crowd).d = d2
  have kd := doorOut_row (d := d2) hr0.1 hr0.2.1 rs.length
  have ld := doorOut_len (rs := rs) (d := d2) (by omega) rs.length
  generalize doorOut rs d2 rs.length = t at kd ld
  have ks := sightGo_row (last := last) (d := t.1.next (8 + 1)) ⟨hp0.1, hp0.2.1⟩ ⟨hr0.1, hr0.2.1⟩ (t.1.val (8 + 1)).toNat
  have ls := sightGo_len (ps := ps) (rs := rs) (last := last) (d := t.1.next (8 + 1)) (t.1.val (8 + 1)).toNat
  have v1 := Dr.val_hi (d := t.1) (n := 8 + 1) (by omega)
  generalize sightGo ps rs last (t.1.next (8 + 1)) (t.1.val (8 + 1)).toNat = u at ks ls
  have em : minI 7 (8 / 2 + 1) = 5 := by decide
  rw [em]
  have kn := noteGo_row (last := last) (d := u.1.next 5) ⟨hr0.1, hr0.2.1⟩ (u.1.val 5).toNat
  have ln := noteGo_len (rs := rs) (last := last) (d := u.1.next 5) (u.1.val 5).toNat
  have v2 := Dr.val_hi (d := u.1) (n := 5) (by omega)
  generalize noteGo rs last (u.1.next 5) (u.1.val 5).toNat = v at kn ln
  have r1 := dpB_tup.mpr ⟨(show rs.length ≤ 40 by omega), hr0.2.1⟩
  have r2 := dpB_tup.mpr ⟨(show ps.length ≤ 40 by omega), hp0.2.1⟩
  have b1 := bt_rows (xs := t.2) (by omega) kd
  have b2 := bt_rows (xs := u.2) (by omega) ks
  have b3 := bt_rows (xs := v.2) (by omega) kn
  have prs : 0 < rs.length := by omega
  have ri : Rp (.int last) := by
    obtain ⟨m, rfl⟩ : ∃ m : Nat, last = m := ⟨last.toNat, by omega⟩
    exact rpB_ok (last_ok ⟨m, by omega⟩)
  refine ⟨⟨⟨rfl, okBs_iff.mpr fun x hx => ?_, ri, hr0.2.2 _ (pk_mem prs), hr0.2.2 _ (pk_mem prs)⟩, fun x hx => ?_⟩, Dr.next_ok _ _⟩
  · simp only [List.mem_cons, List.not_mem_nil, or_false] at hx
    rcases hx with rfl | rfl | rfl | rfl | rfl | rfl | rfl | rfl
    · exact hr0.1
    · exact b1.1
    · exact hp0.1
    · rfl
    · exact (pk_ok hr0.1 hr0.2.1).1
    · exact (pk_ok hr0.1 hr0.2.1).1
    · exact b2.1
    · exact b3.1
  · simp only [List.mem_cons, List.not_mem_nil, or_false] at hx
    rcases hx with rfl | rfl | rfl | rfl | rfl | rfl | rfl | rfl
    · exact dpB_mono (Nat.le_refl _) (by omega) r1
    · exact b1.2
    · exact dpB_mono (Nat.le_refl _) (by omega) r2
    · rfl
    · exact dpB_mono (Nat.le_refl _) (by omega) (pk_ok hr0.1 hr0.2.1).2
    · exact dpB_mono (Nat.le_refl _) (by omega) (pk_ok hr0.1 hr0.2.1).2
    · exact b2.2
    · exact b3.2
theorem bent_same {L : Nat} : ∀ {n m : Nat} {d : Dr} {v : D}, n ≤ m → dpB L n v = true → bentR m d v = bentR n d v
  | 0, m, d, v, _, h => by
    cases v with
    | tup ds =>
      have e : ds = [] := List.isEmpty_iff.mp h
      subst e
      unfold bentR
      rw [if_pos (.inl rfl), if_pos (.inl rfl)]
    | _ => unfold bentR; rfl
  | n + 1, m + 1, d, v, hm, h => by
    cases v with
    | tup ds =>
      obtain ⟨hl, hx⟩ := dpB_tup.mp h
      unfold bentR
      by_cases c1 : ds.length = 0 ∨ d.val 7 = 0
      · rw [if_pos c1, if_pos c1]
      · rw [if_neg c1, if_neg c1]
        have v1 := Dr.val_lo (d := d.next 7) (n := ds.length) (by omega)
        have v2 := Dr.val_hi (d := d.next 7) (n := ds.length) (by omega)
        dsimp only
        rw [bent_same (n := n) (m := m) (by omega) (hx _ (List.mem_of_getElem? (getD_some (by omega))))]
    | _ => unfold bentR; rfl
section
variable {Z : Zd} {A : Str → Addr} {fC : Addr} (B : B03 Z A fC)
def sp_right : SpO := fun es Q _ => ∃ d : Dr, es = [.ot none (.fl d.ds)] ∧ d.ok ∧ ∀ es', es'.length = 1 → Q (.d (.bl true)) es'
theorem sc67 : FnScope ["draws", "turn", "parts", "again", "k", "bent"] ["draws"] (defScope (top 67)) := ⟨rfl, rfl, rfl, by decide +kernel, rfl, by decide +kernel, by decide +kernel⟩
include B in
theorem kn_right {f : Addr} {fd : FuncData} (F : FunD Z.K "_law_right" "_law_right" (defArgs (top 67)) (defBody (top 67)) (defScope (top 67)) [] [] f fd) (k__law_take : Kn Z 2 "_law_take" (SpE Z sp_take)) (k__law_case : Kn Z 4 "_law_case" (SpE Z sp_case)) (k__law_odd : Kn Z 4 "_law_odd" (SpE Z sp_odd)) (k__law_bent : Kn Z 11 "_law_bent" (SpE Z (sp_bent 6))) (k__law_are_refused : Kn Z 13 "_law_are_refused" (SpP Z sp__law_are_refused)) (k__law_by_hand : Kn Z 14 "_law_by_hand" (SpP Z sp_hand)) : FnK Z.P Z.w Z.K Z.mg Z.base (L2.CX Z.P Z.w) 15 f fd ["draws"] (SpE Z sp_right) := by
  refine kn_of F sc67 (fun es Q R h => ?_) (by decide) (mkr := none) (fun _ z => nomatch z) fun E es Q R h => ?_
  · obtain ⟨d, rfl, _⟩ := h; rfl
  · obtain ⟨d, rfl, hd, hQ⟩ := h
    have S : ScOk ⟨Z, ["draws", "turn", "parts", "again", "k", "bent"], defScope (top 67), fun _ => true, 14, E, fun _ _ => False, none⟩ [0, 1, 2, 3, 4, 5] [1, 2, 3, 4, 5] ["range", "_law_take", "_law_case", "_law_bent", "_law_odd", "_law_are_refused", "_law_by_hand"] := scOk_of sc67.nd rfl (by kernel_rfl)
    refine S_seq (S_for (ρ1 := [.ot none (.fl d.ds), .un, .un, .un, .un, .un]) (vs := [1]) (ds := rangeD 0 16) (fun j ρ => ∃ (d : Dr) (e1 e2 e3 e4 e5 : Ent), ρ = [.ot none (.fl d.ds), e1, e2, e3, e4, e5] ∧ d.ok) (I_range1 S E_int (mem_of 0 rfl) (B.fr "range" (mem_of 11 rfl)) ⟨by decide, by decide⟩ (fun _ => rfl)) ⟨d, .un, .un, .un, .un, .un, rfl, hd⟩ (fun j x ρ hj hI => ?turn) (fun ρ hI => ?fin) (fun _ _ => rfl))
    case turn =>
      obtain ⟨d, e1, e2, e3, e4, e5, rfl, hd⟩ := hI
      obtain ⟨_, rfl⟩ := rangeD_at0 hj
      have a1 := Dr.val_lo (d := d) (n := 3) (by omega)
      have a2 := Dr.val_hi (d := d) (n := 3) (by omega)
      have a3 := Dr.val_lo (d := d.next 3) (n := 3) (by omega)
      have a4 := Dr.val_hi (d := d.next 3) (n := 3) (by omega)
      have a5 := Dr.val_lo (d := (d.next 3).next 3) (n := 8) (by omega)
      have a6 := Dr.val_hi (d := (d.next 3).next 3) (n := 8) (by omega)
      have o3 : (((d.next 3).next 3).next 8).ok := Dr.next_ok _ _
      obtain ⟨many, em⟩ : ∃ m : Nat, 2 + d.val 3 = m := ⟨(2 + d.val 3).toNat, by omega⟩
      obtain ⟨crowd, ec⟩ : ∃ m : Nat, 1 + (d.next 3).val 3 = m := ⟨(1 + (d.next 3).val 3).toNat, by omega⟩
      obtain ⟨hP, ho⟩ := parts_ok o3 (many := many) (crowd := crowd) (last := 1 + ((d.next 3).next 3).val 8) (by omega) (by omega) (by omega) (by omega) (by omega) (by omega)
      refine ⟨_, G_name S 1 rfl rfl rfl, ?_⟩
      refine S_seq (S_asg (vs := [2]) (E_callM S k__law_case (Nat.le_of_ble_eq_true rfl) (A_cons (E_own S 0 rfl rfl rfl) (D_cons (E_is (E_op E_int (E_callM S k__law_take (Nat.le_of_ble_eq_true rfl) (A_cons (E_own S 0 rfl rfl rfl) (D_cons E_int D_nil (fun _ => rfl)) (fun _ => rfl)) rfl (fun a Q R h => ⟨a, d, _, rfl, hd, by decide, by decide, h⟩) (mem_of 1 rfl) (fun _ => rfl) (fun _ => rfl)) (.d _) (.d _) o_add) (congrArg D.int em)) (D_cons (E_is (E_op E_int (E_callM S k__law_take (Nat.le_of_ble_eq_true rfl) (A_cons (E_own S 0 rfl rfl rfl) (D_cons E_int D_nil (fun _ => rfl)) (fun _ => rfl)) rfl (fun a Q R h => ⟨a, _, _, rfl, Dr.next_ok _ _, by decide, by decide, h⟩) (mem_of 1 rfl) (fun _ => rfl) (fun _ => rfl)) (.d _) (.d _) o_add) (congrArg D.int ec)) (D_cons (E_op E_int (E_callM S k__law_take (Nat.le_of_ble_eq_true rfl) (A_cons (E_own S 0 rfl rfl rfl) (D_cons E_int D_nil (fun _ => rfl)) (fun _ => rfl)) rfl (fun a Q R h => ⟨a, _, _, rfl, Dr.next_ok _ _, by decide, by decide, h⟩) (mem_of 1 rfl) (fun _ => rfl) (fun _ => rfl)) (.d _) (.d _) o_add) (D_cons E_int D_nil (fun _ => rfl)) (fun _ => rfl)) (fun _ => rfl)) (fun _ => rfl)) (fun _ => rfl)) rfl (fun a Q R h => ⟨a, _, many, crowd, _, 8, rfl, o3, by omega, by omega, by omega, by omega, by omega, by omega, by decide, by decide, h⟩) (mem_of 2 rfl) (fun _ => rfl) (fun _ => rfl)) (G_name S 2 rfl rfl rfl) ?_ (fun _ _ => rfl) (fun _ _ => rfl) (fun _ => rfl))
      generalize (csOf (((d.next 3).next 3).next 8) many crowd (1 + ((d.next 3).next 3).val 8) 8).parts (1 + ((d.next 3).next 3).val 8) = xs at hP
      generalize (csOf (((d.next 3).next 3).next 8) many crowd (1 + ((d.next 3).next 3).val 8) 8).d = d4 at ho
      have b1 := Dr.val_lo (d := d4) (n := 2) (by omega)
      have b2 := Dr.val_hi (d := d4) (n := 2) (by omega)
      refine S_seq (S_for (ρ1 := [.ot none (.fl (d4.next 2).ds), .d (.int (j : Nat)), .d (.tup xs), e3, e4, e5]) (vs := [3]) (ds := rangeD 0 (1 + d4.val 2).toNat) (fun i ρ => ∃ (d : Dr) (xs : List D) (e3 e4 e5 : Ent), ρ = [.ot none (.fl d.ds), .d (.int (j : Nat)), .d (.tup xs), e3, e4, e5] ∧ d.ok ∧ P8 (2 + 2 * i) (40 + i) xs) (I_range1 S (E_op E_int (E_callM S k__law_take (Nat.le_of_ble_eq_true rfl) (A_cons (E_own S 0 rfl rfl rfl) (D_cons E_int D_nil (fun _ => rfl)) (fun _ => rfl)) rfl (fun a Q R h => ⟨a, d4, _, rfl, ho, by decide, by decide, h⟩) (mem_of 1 rfl) (fun _ => rfl) (fun _ => rfl)) (.d _) (.d _) o_add) (mem_of 0 rfl) (B.fr "range" (mem_of 11 rfl)) ⟨by omega, by omega⟩ (fun _ => rfl)) ⟨_, xs, e3, e4, e5, rfl, Dr.next_ok _ _, hP⟩ (fun i x ρ hi hI => ?turn2) (fun ρ hI => ?fin2) (fun _ _ => rfl))
      case turn2 =>
        obtain ⟨d, xs, e3, e4, e5, rfl, hd, hP⟩ := hI
        obtain ⟨hi, rfl⟩ := rangeD_at0 hi
        have hi : i < 2 := by omega
        have c1 := Dr.val_lo (d := d) (n := 8) (by omega)
        have c2 := Dr.val_hi (d := d) (n := 8) (by omega)
        refine ⟨_, G_name S 3 rfl rfl rfl, ?_⟩
        refine S_seq (S_asg (vs := [4]) (E_callM S k__law_take (Nat.le_of_ble_eq_true rfl) (A_cons (E_own S 0 rfl rfl rfl) (D_cons E_int D_nil (fun _ => rfl)) (fun _ => rfl)) rfl (fun a Q R h => ⟨a, d, _, rfl, hd, by decide, by decide, h⟩) (mem_of 1 rfl) (fun _ => rfl) (fun _ => rfl)) (G_name S 4 rfl rfl rfl) ?_ (fun _ _ => rfl) (fun _ _ => rfl) (fun _ => rfl))
        have hd2 : (d.next 8).ok := Dr.next_ok _ _
        generalize d.next 8 = d2 at hd2
        obtain ⟨k, ek⟩ : ∃ m : Nat, d.val 8 = m := ⟨(d.val 8).toNat, by omega⟩
        rw [ek]
        have hk : k < 8 := by omega
        have hlx := hP.r.len
        have hx := getD_some (xs := xs) (k := k) (by omega)
        have mx := List.mem_of_getElem? hx
        have ox := okBs_iff.mp hP.r.ok _ mx
        have dx := hP.bt _ mx
        have dx6 : dpB 1000 6 (xs.getD k .non) = true := dpB_mono (by omega) (by omega) dx
        -- what is put there, the draws behind
        obtain ⟨y, d3, ey⟩ : ∃ y d3, (y, d3) = if k ∈ [3, 4, 5] then oddR d2 else bentR 6 d2 (xs.getD k .non) := ⟨_, _, rfl⟩
        have hy : okB y = true ∧ dpB (40 + (i + 1)) (2 + 2 * (i + 1)) y = true ∧ d3.ok ∧ (k = 3 ∨ k = 4 ∨ k = 5 → Rp y) := by
          by_cases hm : k ∈ [3, 4, 5]
          · rw [if_pos hm] at ey
            obtain ⟨z1, z2, z3⟩ := oddR_ok d2
            have zr := oddR_rp d2
            rw [← ey] at z1 z2 z3 zr
            exact ⟨z1, dpB_mono (by omega) (by omega) z2, z3, fun _ => zr⟩
          · rw [if_neg hm] at ey
            have eb : bentR 6 d2 (xs.getD k .non) = bentR (2 + 2 * i) d2 (xs.getD k .non) := bent_same (by omega) dx
            obtain ⟨z1, z2, z3⟩ := bent_ok (L := 40 + i) (by omega) (2 + 2 * i) (d := d2) ox dx
            rw [← eb, ← ey] at z1 z2 z3
            exact ⟨z1, dpB_mono (by omega) (by omega) z2, z3, fun z => absurd (by simp; omega) hm⟩
        refine S_seq (S_asg (vs := [5]) (d := y) (ρ1 := [.ot none (.fl d3.ds), .d (.int (j : Nat)), .d (.tup xs), .d (.int (i : Nat)), .d (.int (k : Nat)), e5]) (E_if (u := !decide (((k : Nat) : Int) ∈ [3, 4, 5])) (r := .d y) (T_cmp (E_var S 4 rfl rfl rfl) (E_tupD (D_cons E_int (D_cons E_int (D_cons E_int D_nil (fun _ => rfl)) (fun _ => rfl)) (fun _ => rfl)) rfl) (.d _) (.d _) (o_notInI (xs := [3, 4, 5]) rfl) rfl) (fun hu => ?bent) (fun hu => ?odd)) (G_name S 5 rfl rfl rfl) ?_ (fun _ _ => rfl) (fun _ _ => rfl) (fun _ => rfl))
        case bent =>
          have hm : ¬ k ∈ [3, 4, 5] := by
            intro z
            have : ((k : Nat) : Int) ∈ ([3, 4, 5] : List Int) := by simp at z ⊢; omega
            rw [decide_eq_true this] at hu
            cases hu
          rw [if_neg hm] at ey
          have := Prod.mk.inj ey
          rw [this.1, this.2]
          exact (E_callM S k__law_bent (Nat.le_of_ble_eq_true rfl) (A_cons (E_own S 0 rfl rfl rfl) (D_cons (E_ix (E_var S 2 rfl rfl rfl) (E_var S 4 rfl rfl rfl) (.d _) (.d _) (i_seq rfl (atI_at hx)) (fun _ _ => rfl)) D_nil (fun _ => rfl)) (fun _ => rfl)) rfl (fun a Q R h => ⟨a, d2, _, rfl, hd2, ox, dx6, h⟩) (mem_of 3 rfl) (fun _ => rfl) (fun _ => rfl))
        case odd =>
          have hm : k ∈ [3, 4, 5] := by
            have h2 : decide (((k : Nat) : Int) ∈ ([3, 4, 5] : List Int)) = true := by
              cases z : decide (((k : Nat) : Int) ∈ ([3, 4, 5] : List Int)) <;> rw [z] at hu <;> first | rfl | cases hu
            have := of_decide_eq_true h2
            simp at this ⊢
            omega
          rw [if_pos hm] at ey
          have := Prod.mk.inj ey
          rw [this.1, this.2]
          exact (E_callM S k__law_odd (Nat.le_of_ble_eq_true rfl) (A_cons (E_own S 0 rfl rfl rfl) D_nil (fun _ => rfl)) rfl (fun a Q R h => ⟨a, d2, rfl, hd2, h⟩) (mem_of 4 rfl) (fun _ => rfl) (fun _ => rfl))
        have lc := fun lo hi => cutD_len (ds := xs) (lo := lo) (hi := hi)
        refine S_seq (S_asg (vs := [2]) (d := .tup (xs.set k y)) (E_is (E_op (E_op (E_slice (E_var S 2 rfl rfl rfl) .no (.yes (E_var S 4 rfl rfl rfl)) (.d _) s_tup) (E_tupD (D_cons (E_var S 5 rfl rfl rfl) D_nil (fun _ => rfl)) rfl) (.d _) (.d _) (o_addT (small_line (by have := lc none (some ((k : Nat) : Int)); rw [List.length_singleton]; omega)))) (E_slice (E_var S 2 rfl rfl rfl) (.yes (E_op (E_var S 4 rfl rfl rfl) E_int (.d _) (.d _) o_add)) .no (.d _) s_tup) (.d _) (.d _) (o_addT (small_line (by have := lc none (some ((k : Nat) : Int)); have := lc (some (((k : Nat) : Int) + 1)) none; rw [List.length_append, List.length_singleton]; omega)))) (congrArg D.tup (cutD_set (by omega)))) (G_name S 2 rfl rfl rfl) (S_nil ⟨d3, xs.set k y, _, _, _, rfl, hy.2.2.1, ⟨hP.r.set hk hy.1 hy.2.2.2, fun x hx => ?_⟩⟩) (fun _ _ => rfl) (fun _ _ => rfl) (fun _ => rfl))
        rcases List.mem_or_eq_of_mem_set hx with z | z
        · exact dpB_mono (by omega) (by omega) (hP.bt x z)
        · rw [z]; exact hy.2.1
      case fin2 =>
        obtain ⟨d, xs, e3, e4, e5, rfl, hd, hP⟩ := hI
        exact S_seq (S_ifF (T_not (T_val (E_call S k__law_are_refused (Nat.le_of_ble_eq_true rfl) (D_cons (E_var S 2 rfl rfl rfl) D_nil (fun _ => rfl)) (r := .d (.bl true)) (fun Q R h => ref_of hP.r h) (mem_of 5 rfl) (fun _ => rfl) (fun _ => rfl)) (fun _ _ => rfl))) rfl (S_nil (S_nil ⟨d, _, _, _, _, _, rfl, hd⟩)))
    case fin =>
      obtain ⟨d, e1, e2, e3, e4, e5, rfl, hd⟩ := hI
      exact S_seq (S_ret (E_call0 S k__law_by_hand (Nat.le_refl _) (fun Q R h => ⟨rfl, h⟩) (mem_of 6 rfl)) ⟨_, .gone .nil, hQ _ rfl⟩)
end
end K03

set_option Elab.async false
set_option maxRecDepth 100000
set_option maxHeartbeats 4000000
namespace K03
open PySem PySem.Spec PyProof.Rows L2 Fw
theorem rev8_vals {vs : List V} {us : List Value} (h : Vals vs us) : Vals (rev8 vs) (rev8 us) := by
  by_cases hl : vs.length = 8
  · cases h with
    | nil => cases hl
    | cons a h => cases h with
      | nil => cases hl
      | cons b h => cases h with
        | nil => cases hl
        | cons c h => cases h with
          | nil => cases hl
          | cons d h => cases h with
            | nil => cases hl
            | cons e h => cases h with
              | nil => cases hl
              | cons f h => cases h with
                | nil => cases hl
                | cons g h => cases h with
                  | nil => cases hl
                  | cons i h => cases h with
                    | nil => exact .cons i (.cons g (.cons f (.cons e (.cons d (.cons c (.cons b (.cons a .nil)))))))
                    | cons _ _ => simp at hl
  · rw [rev8_ne hl, rev8_ne (by rw [← h.length]; exact hl)]
    exact h
theorem vals_app {vs ws : List V} {us zs : List Value} (h1 : Vals vs us) (h2 : Vals ws zs) : Vals (vs ++ ws) (us ++ zs) := h1.append h2
theorem rangeD_len {n : Nat} : (rangeD 0 n).length = n := by simp [rangeD]
def mOf (l : Int) : Int := if (if 3 < l then 3 else l) > 2 then (if 3 < l then 3 else l) else 2
def sp_law : SpD := fun ds Q _ => ∃ ns : List Int, ds = [.scr ns] ∧ ns.length ≤ 63 ∧ (∀ z ∈ ns, Builtin.Int.intBits z ≤ 1048576) ∧ Q (.d (.bl true))
section
variable {Z : Zd} {A : Str → Addr} {fC : Addr} (B : B03 Z A fC)
theorem sc68 : FnScope ["cells", "at"] ["cells"] (defScope (top 68)) := ⟨rfl, rfl, rfl, by decide +kernel, rfl, by decide +kernel, by decide +kernel⟩
include B in
theorem kn_law {f : Addr} {fd : FuncData} (F : FunD Z.K "law" "law" (defArgs (top 68)) (defBody (top 68)) (defScope (top 68)) [] [] f fd) (k__law_right : Kn Z 15 "_law_right" (SpE Z sp_right)) (k__law_purse : Kn Z 2 "_law_purse" (SpP Z sp_purse)) : FnK Z.P Z.w Z.K Z.mg Z.base (L2.CX Z.P Z.w) 16 f fd ["cells"] (SpP Z sp_law) := by
  refine kn_ofP F sc68 (fun ds Q R h => ?_) (by decide) (mkr := none) (fun _ z => nomatch z) fun E ds Q R h => ?_
  · obtain ⟨ns, rfl, _⟩ := h; rfl
  · obtain ⟨ns, rfl, hl, _, hQ⟩ := h
    have S : ScOk ⟨Z, ["cells", "at"], defScope (top 68), fun _ => true, 15, E, fun _ _ => False, none⟩ [0] [0] ["all", "max", "min", "len", "range"] := scOk_of sc68.nd rfl (by kernel_rfl)
    obtain ⟨m, hm⟩ : ∃ m, m = mOf ((ns.map D.int).length : Nat) := ⟨_, rfl⟩
    have hm2 : 0 ≤ m ∧ m ≤ 3 := by
      rw [hm]
      unfold mOf
      split <;> split <;> omega
    refine S_seq (S_ret (E_is (E_cb S (A_cons (E_lcXn (own := [("at", 1)]) sc68.nd rfl rfl ⟨rfl, by (dsimp only; decide +kernel), by (dsimp only; decide +kernel), by (dsimp only; decide +kernel), by (dsimp only; decide +kernel)⟩ (Ev_frz (Ev_lcG (ds := rangeD 0 m.toNat) [("at", 1)] (fun _ => [.d (.scr ns), .un]) (fun j => (List.replicate j true).map D.bl) ?it rfl rfl (fun j d hj => ?turn) (by rw [rangeD_len]; omega)) rfl rfl) (fun _ _ => rfl)) A_nil (fun _ => rfl)) (.cons (.d _) .nil) (b_all (bs := List.replicate (rangeD 0 m.toNat).length true)) (mem_of 0 rfl) (B.fr "all" (mem_of 2 rfl)) rfl (fun _ => rfl) (fun _ => rfl)) ?e) ⟨hQ, Nat.le_of_ble_eq_true rfl⟩)
    case it => exact I_range1 S (E_is (E_cb S (A_cons E_int (A_cons (E_cb S (A_cons (E_cb S (A_cons (E_var S 0 rfl rfl rfl) A_nil (fun _ => rfl)) (.cons (.d _) .nil) (b_len rfl) (mem_of 3 rfl) (B.fr "len" (mem_of 7 rfl)) rfl (fun _ => rfl) (fun _ => rfl)) (A_cons E_int A_nil (fun _ => rfl)) (fun _ => rfl)) (.cons (.d _) (.cons (.d _) .nil)) b_min2 (mem_of 2 rfl) (B.fr "min" (mem_of 10 rfl)) rfl (fun _ => rfl) (fun _ => rfl)) A_nil (fun _ => rfl)) (fun _ => rfl)) (.cons (.d _) (.cons (.d _) .nil)) b_max2 (mem_of 1 rfl) (B.fr "max" (mem_of 9 rfl)) rfl (fun _ => rfl) (fun _ => rfl)) (by rw [hm]; rfl)) (mem_of 4 rfl) (B.fr "range" (mem_of 11 rfl)) ⟨by omega, by omega⟩ (fun _ => rfl)
    case turn =>
      obtain ⟨hj, rfl⟩ := rangeD_at0 hj
      refine ⟨some (.bl true), LcS (vis := [0, 1]) (loc := [1]) (gl := ["_law_right", "_law_purse"]) (scOk_of sc68.nd rfl (by kernel_rfl)) fun S' => .yes (G_name S' 1 rfl rfl rfl) Ts_nil (E_callF S' k__law_right (Nat.le_refl _) (A_consF (E_call S' k__law_purse (Nat.le_of_ble_eq_true rfl) (D_cons (E_var S' 0 rfl rfl rfl) (D_cons (E_var S' 1 rfl rfl rfl) D_nil (fun _ => rfl)) (fun _ => rfl)) (fun Q R h => ⟨ns, j, rfl, by omega, by omega, hl, h⟩) (mem_of 1 rfl) (fun _ => rfl) (fun _ => rfl)) D_nil (fun _ => rfl) rfl)
        (fun Q R h => ⟨purse ns j, rfl, purse_ok ns j, h⟩) (mem_of 0 rfl) (fun _ => rfl) (fun _ => rfl)) rfl, ?_⟩
      show (List.replicate (j + 1) true).map D.bl = (List.replicate j true).map D.bl ++ [D.bl true]
      rw [List.replicate_succ', List.map_append]
      rfl
    case e =>
      rw [List.all_eq_true.mpr]
      intro b hb
      exact (List.mem_replicate.mp hb).2
end
end K03

set_option Elab.async false
set_option maxRecDepth 100000
set_option maxHeartbeats 8000000
namespace K03
open PySem PySem.Spec PyProof.Rows L2 Fw
section
variable {Z : Zd}
theorem scI0 : FnScope ["self", "given"] ["self", "given"] (defScope (mth 2 0)) := ⟨rfl, rfl, rfl, by decide +kernel, rfl, by decide +kernel, by decide +kernel⟩
theorem ini0 (c : He.SaysD fa fn Z.K) : Ini Z (He.ma Z.K (He.ga Z.K "InvalidNumber") "__init__") "given" := by
  obtain ⟨fd, F⟩ := c.def_ 0 (d := d_InvalidNumber) rfl
  exact ⟨fd, xInit F scI0 rfl rfl (fun _ => rfl), fun s x u => bindsKw F (fun _ _ _ _ _ _ => rfl) s, fun s x u => bindsKw F (fun _ _ _ _ _ _ => rfl) s⟩
theorem scI1 : FnScope ["self", "given"] ["self", "given"] (defScope (mth 3 0)) := ⟨rfl, rfl, rfl, by decide +kernel, rfl, by decide +kernel, by decide +kernel⟩
theorem ini1 (c : He.SaysD fa fn Z.K) : Ini Z (He.ma Z.K (He.ga Z.K "UnknownRoom") "__init__") "given" := by
  obtain ⟨fd, F⟩ := c.def_ 1 (d := d_UnknownRoom) rfl
  exact ⟨fd, xInit F scI1 rfl rfl (fun _ => rfl), fun s x u => bindsKw F (fun _ _ _ _ _ _ => rfl) s, fun s x u => bindsKw F (fun _ _ _ _ _ _ => rfl) s⟩
theorem scI2 : FnScope ["self", "index"] ["self", "index"] (defScope (mth 4 0)) := ⟨rfl, rfl, rfl, by decide +kernel, rfl, by decide +kernel, by decide +kernel⟩
theorem ini2 (c : He.SaysD fa fn Z.K) : Ini Z (He.ma Z.K (He.ga Z.K "InvalidRooms") "__init__") "index" := by
  obtain ⟨fd, F⟩ := c.def_ 2 (d := d_InvalidRooms) rfl
  exact ⟨fd, xInit F scI2 rfl rfl (fun _ => rfl), fun s x u => bindsKw F (fun _ _ _ _ _ _ => rfl) s, fun s x u => bindsKw F (fun _ _ _ _ _ _ => rfl) s⟩
theorem scI3 : FnScope ["self", "index"] ["self", "index"] (defScope (mth 5 0)) := ⟨rfl, rfl, rfl, by decide +kernel, rfl, by decide +kernel, by decide +kernel⟩
theorem ini3 (c : He.SaysD fa fn Z.K) : Ini Z (He.ma Z.K (He.ga Z.K "InvalidDoors") "__init__") "index" := by
  obtain ⟨fd, F⟩ := c.def_ 3 (d := d_InvalidDoors) rfl
  exact ⟨fd, xInit F scI3 rfl rfl (fun _ => rfl), fun s x u => bindsKw F (fun _ _ _ _ _ _ => rfl) s, fun s x u => bindsKw F (fun _ _ _ _ _ _ => rfl) s⟩
theorem scI4 : FnScope ["self", "index"] ["self", "index"] (defScope (mth 6 0)) := ⟨rfl, rfl, rfl, by decide +kernel, rfl, by decide +kernel, by decide +kernel⟩
theorem ini4 (c : He.SaysD fa fn Z.K) : Ini Z (He.ma Z.K (He.ga Z.K "InvalidPeople") "__init__") "index" := by
  obtain ⟨fd, F⟩ := c.def_ 4 (d := d_InvalidPeople) rfl
  exact ⟨fd, xInit F scI4 rfl rfl (fun _ => rfl), fun s x u => bindsKw F (fun _ _ _ _ _ _ => rfl) s, fun s x u => bindsKw F (fun _ _ _ _ _ _ => rfl) s⟩
theorem scI5 : FnScope ["self", "index"] ["self", "index"] (defScope (mth 7 0)) := ⟨rfl, rfl, rfl, by decide +kernel, rfl, by decide +kernel, by decide +kernel⟩
theorem ini5 (c : He.SaysD fa fn Z.K) : Ini Z (He.ma Z.K (He.ga Z.K "InvalidSightings") "__init__") "index" := by
  obtain ⟨fd, F⟩ := c.def_ 5 (d := d_InvalidSightings) rfl
  exact ⟨fd, xInit F scI5 rfl rfl (fun _ => rfl), fun s x u => bindsKw F (fun _ _ _ _ _ _ => rfl) s, fun s x u => bindsKw F (fun _ _ _ _ _ _ => rfl) s⟩
theorem scI6 : FnScope ["self", "index"] ["self", "index"] (defScope (mth 8 0)) := ⟨rfl, rfl, rfl, by decide +kernel, rfl, by decide +kernel, by decide +kernel⟩
theorem ini6 (c : He.SaysD fa fn Z.K) : Ini Z (He.ma Z.K (He.ga Z.K "InvalidNotices") "__init__") "index" := by
  obtain ⟨fd, F⟩ := c.def_ 6 (d := d_InvalidNotices) rfl
  exact ⟨fd, xInit F scI6 rfl rfl (fun _ => rfl), fun s x u => bindsKw F (fun _ _ _ _ _ _ => rfl) s, fun s x u => bindsKw F (fun _ _ _ _ _ _ => rfl) s⟩
theorem ini_all (c : He.SaysD fa fn Z.K) : ∀ p ∈ kept, Ini Z (He.ma Z.K (He.ga Z.K p.1) "__init__") p.2 := by
  intro p hp
  simp only [kept, List.mem_cons, List.not_mem_nil, or_false] at hp
  rcases hp with rfl | rfl | rfl | rfl | rfl | rfl | rfl
  · exact ini0 c
  · exact ini1 c
  · exact ini2 c
  · exact ini3 c
  · exact ini4 c
  · exact ini5 c
  · exact ini6 c
end
theorem gloE : (excs.all fun x => fa.any (isGlo x)) = true := by decide +kernel
theorem freeE : (frees.all fun x => fa.any (isFree x)) = true := by decide +kernel
theorem keptE : ∀ p ∈ kept, p.1 ∈ excs := by decide +kernel
def flCase : List Str := ["rooms", "doors", "people", "last", "begin", "end", "sightings", "notices"]
theorem noatCase : (flCase.all fun f => fa.any (isNoat "Case" f)) = true := by decide +kernel
theorem b03 {P : Program} {w : World} {K : PySem.W.Frag} {h base : Heap} {mg : Str → Option Value} {T : List (Addr × Str)} (X : K.In h) (G : h.Ns mainGlobals mg) (c : He.SaysD fa fn K) (hf : fb K = true) : B03 ⟨P, w, K, mg, base, T, []⟩ (He.ga K) (He.ma K (He.ga K "Case") "__init__") := by
  obtain ⟨f0, hf⟩ := and2 hf
  obtain ⟨f1, hf⟩ := and2 hf
  obtain ⟨f2, hf⟩ := and2 hf
  obtain ⟨f3, f4⟩ := and2 hf
  have ex : ∀ x ∈ excs, ExK K (He.ga K x) := fun x hx => exB_ok (and2 (List.all_eq_true.mp f1 x hx)).1
  have a2 : ∀ p ∈ kept, PySem.W.findIn K (.ref (He.ga K p.1)) p.2 = some none ∧ PySem.W.findIn K (.ref (He.ga K p.1)) "__init__" = some (some (.ref (He.ma K (He.ga K p.1) "__init__"))) ∧ PySem.W.typeIn K (.ref (He.ma K (He.ga K p.1) "__init__")) = some (.type "function") := fun p hp => by
    obtain ⟨z1, z⟩ := and2 (List.all_eq_true.mp f2 p hp)
    obtain ⟨z2, z3⟩ := and2 z
    exact ⟨of_decide_eq_true z1, of_decide_eq_true z2, of_decide_eq_true z3⟩
  have gl : ∀ x ∈ excs, mg x = some (.ref (He.ga K x)) := fun x hx => glo_in X G c (List.all_eq_true.mp gloE x hx)
  exact {
    fr := fun x hx => free_in X G c (List.all_eq_true.mp freeE x hx)
    gi_LONGEST_NAME := He.int_ok X G (c.fact 55 (f := .int "LONGEST_NAME" 8) rfl)
    gi_FEWEST_ROOMS := He.int_ok X G (c.fact 56 (f := .int "FEWEST_ROOMS" 2) rfl)
    gi_MOST_ROOMS := He.int_ok X G (c.fact 57 (f := .int "MOST_ROOMS" 4) rfl)
    gi_MOST_DOORS := He.int_ok X G (c.fact 58 (f := .int "MOST_DOORS" 10) rfl)
    gi_MOST_PEOPLE := He.int_ok X G (c.fact 59 (f := .int "MOST_PEOPLE" 3) rfl)
    gi_MOST_LAST := He.int_ok X G (c.fact 60 (f := .int "MOST_LAST" 8) rfl)
    gi_MOST_SIGHTINGS := He.int_ok X G (c.fact 61 (f := .int "MOST_SIGHTINGS" 16) rfl)
    gi_MOST_NOTICES := He.int_ok X G (c.fact 62 (f := .int "MOST_NOTICES" 6) rfl)
    gi_MOST_WEIGHT := He.int_ok X G (c.fact 63 (f := .int "MOST_WEIGHT" 9) rfl)
    gs_SMALL_LETTERS := He.str_ok X G (c.fact 64 (f := .str "SMALL_LETTERS" "abcdefghijklmnopqrstuvwxyz") rfl)
    mkE := fun p hp => by
      obtain ⟨n1, n2, n3⟩ := a2 p hp
      have e := ex _ (keptE p hp)
      obtain ⟨fd, i1, i2, i3⟩ := ini_all (Z := ⟨P, w, K, mg, base, T, []⟩) c p hp
      exact ⟨gl _ (keptE p hp), e.o.kC, e, n1, _, fd, n2, n3, i1, i2, i3⟩
    em := fun x hx y hy => of_decide_eq_true (List.all_eq_true.mp (List.all_eq_true.mp f3 x hx) y hy)
    xf := fun x hx => xfB_ok (and2 (List.all_eq_true.mp f1 x hx)).2
    no := fun p hp => (a2 p hp).1
    mg := gl
    sm := f0
    mgC := He.glo_ok X G (c.fact 8 (f := .glo "Case") rfl)
    cC := He.cls_ok (c.fact 81 (f := .cls "Case") rfl)
    mC := He.mkr_ok (c.fact 82 (f := .mkr "Case") rfl)
    nC := fun x hx => noat_in c (List.all_eq_true.mp noatCase x hx)
  }
/-- the law's def keeps its promise -/
theorem lawK (w : World) {K : PySem.W.Frag} {h : Heap} {mg : Str → Option Value} {a : Addr} (X : K.In h) (G : h.Ns mainGlobals mg) (c : SaysG fa fn tf fb h K) (ha : mg "law" = some (.ref a)) : LawK PySem.Challenge.rw_lasthands_k03_cases_refused w K 16 63 "cells" mg a h := by
  obtain ⟨fdl, Flaw⟩ := c.d.def_ 54 (d := d_law) rfl
  have gl := He.glo_ok X G (c.d.fact 54 (f := .glo "law") rfl)
  have e := ha.symm.trans gl
  cases e
  have ndt : (tf.map fun p => (He.cT K p).2).Nodup := of_decide_eq_true (and2 (and2 (and2 (and2 c.more).2).2).2).2
  refine ⟨fdl, tf.map (He.cT K), tabL K tf, (fun t ht => ?_), (fun t ht => ?_), (fun t ht => ?_), (fun t ht => ?_), fun s u => FunD.bindsA (ps := ["cells"]) Flaw (fun _ _ _ _ _ _ us hl => match us, hl with | [_], _ => rfl) s [u] rfl, fun base X2 G2 hT => ?_⟩
  · obtain ⟨p, hp, rfl⟩ := List.mem_map.mp ht
    exact c.empty p hp
  · obtain ⟨p, hp, rfl⟩ := List.mem_map.mp ht
    exact c.out p hp
  · obtain ⟨p, hp, rfl⟩ := List.mem_map.mp ht
    exact PySem.W.codeHd_of_K X (c.hd p hp)
  · obtain ⟨p, hp, rfl⟩ := List.mem_map.mp ht
    exact ⟨_, List.mem_map.mpr ⟨p, hp, rfl⟩, rfl⟩
  have B := b03 (P := PySem.Challenge.rw_lasthands_k03_cases_refused.prog) (w := w) (base := base) (T := tabL K tf) X2 G2 c.d c.more
  let Z : Zd := ⟨PySem.Challenge.rw_lasthands_k03_cases_refused.prog, w, K, mg, base, tabL K tf, []⟩
  have mk : ∀ x : Str, (x, none) ∈ tf → Mkr Z x (He.cT K (x, none)).1 (He.cT K (x, none)).2 := fun x hx => ⟨hT _ (List.mem_map.mpr ⟨_, hx, rfl⟩), List.mem_map.mpr ⟨_, hx, rfl⟩, tab_un ndt hx⟩
  obtain ⟨fd_is_whole, F_is_whole⟩ := c.d.def_ 9 (d := d_is_whole) rfl
  have g_is_whole := He.glo_ok X2 G2 (c.d.fact 9 (f := .glo "is_whole") rfl)
  have k_is_whole : Kn Z 1 "is_whole" (SpP Z sp_is_whole) := kn_top g_is_whole F_is_whole (ps := ["value"]) (fun _ _ _ _ _ _ us hl => match us, hl with | [_], _ => rfl) (kn_is_whole B F_is_whole)
  obtain ⟨fd_is_between, F_is_between⟩ := c.d.def_ 10 (d := d_is_between) rfl
  have g_is_between := He.glo_ok X2 G2 (c.d.fact 10 (f := .glo "is_between") rfl)
  have k_is_between : Kn Z 2 "is_between" (SpP Z sp_is_between) := kn_top g_is_between F_is_between (ps := ["value", "least", "most"]) (fun _ _ _ _ _ _ us hl => match us, hl with | [_, _, _], _ => rfl) (kn_is_between B F_is_between k_is_whole)
  obtain ⟨fd_is_string, F_is_string⟩ := c.d.def_ 11 (d := d_is_string) rfl
  have g_is_string := He.glo_ok X2 G2 (c.d.fact 11 (f := .glo "is_string") rfl)
  have k_is_string : Kn Z 1 "is_string" (SpP Z sp_is_string) := kn_top g_is_string F_is_string (ps := ["value"]) (fun _ _ _ _ _ _ us hl => match us, hl with | [_], _ => rfl) (kn_is_string B F_is_string)
  obtain ⟨fd_is_made_of, F_is_made_of⟩ := c.d.def_ 12 (d := d_is_made_of) rfl
  have g_is_made_of := He.glo_ok X2 G2 (c.d.fact 12 (f := .glo "is_made_of") rfl)
  have k_is_made_of : Kn Z 1 "is_made_of" (SpP Z sp_is_made_of) := kn_top g_is_made_of F_is_made_of (ps := ["text", "signs"]) (fun _ _ _ _ _ _ us hl => match us, hl with | [_, _], _ => rfl) (kn_is_made_of B F_is_made_of)
  obtain ⟨fd_is_name, F_is_name⟩ := c.d.def_ 13 (d := d_is_name) rfl
  have g_is_name := He.glo_ok X2 G2 (c.d.fact 13 (f := .glo "is_name") rfl)
  have k_is_name : Kn Z 2 "is_name" (SpP Z sp_is_name) := kn_top g_is_name F_is_name (ps := ["value"]) (fun _ _ _ _ _ _ us hl => match us, hl with | [_], _ => rfl) (kn_is_name B F_is_name k_is_string k_is_made_of)
  obtain ⟨fd_is_tuple_of, F_is_tuple_of⟩ := c.d.def_ 14 (d := d_is_tuple_of) rfl
  have g_is_tuple_of := He.glo_ok X2 G2 (c.d.fact 14 (f := .glo "is_tuple_of") rfl)
  have k_is_tuple_of : Kn Z 1 "is_tuple_of" (SpP Z sp_is_tuple_of) := kn_top g_is_tuple_of F_is_tuple_of (ps := ["value", "many"]) (fun _ _ _ _ _ _ us hl => match us, hl with | [_, _], _ => rfl) (kn_is_tuple_of B F_is_tuple_of)
  obtain ⟨fd_is_row, F_is_row⟩ := c.d.def_ 15 (d := d_is_row) rfl
  have g_is_row := He.glo_ok X2 G2 (c.d.fact 15 (f := .glo "is_row") rfl)
  have k_is_row : Kn Z 1 "is_row" (SpP Z sp_is_row) := kn_top g_is_row F_is_row (ps := ["value", "least", "most"]) (fun _ _ _ _ _ _ us hl => match us, hl with | [_, _, _], _ => rfl) (kn_is_row B F_is_row)
  obtain ⟨fd_is_one_of, F_is_one_of⟩ := c.d.def_ 17 (d := d_is_one_of) rfl
  have g_is_one_of := He.glo_ok X2 G2 (c.d.fact 17 (f := .glo "is_one_of") rfl)
  have k_is_one_of : Kn Z 2 "is_one_of" (SpP Z sp_is_one_of) := kn_top g_is_one_of F_is_one_of (ps := ["menu", "value"]) (fun _ _ _ _ _ _ us hl => match us, hl with | [_, _], _ => rfl) (kn_is_one_of B F_is_one_of k_is_string)
  obtain ⟨fd_is_weight, F_is_weight⟩ := c.d.def_ 18 (d := d_is_weight) rfl
  have g_is_weight := He.glo_ok X2 G2 (c.d.fact 18 (f := .glo "is_weight") rfl)
  have k_is_weight : Kn Z 3 "is_weight" (SpP Z sp_is_weight) := kn_top g_is_weight F_is_weight (ps := ["value"]) (fun _ _ _ _ _ _ us hl => match us, hl with | [_], _ => rfl) (kn_is_weight B F_is_weight k_is_between)
  obtain ⟨fd_is_door, F_is_door⟩ := c.d.def_ 19 (d := d_is_door) rfl
  have g_is_door := He.glo_ok X2 G2 (c.d.fact 19 (f := .glo "is_door") rfl)
  have k_is_door : Kn Z 3 "is_door" (SpP Z sp_is_door) := kn_top g_is_door F_is_door (ps := ["rooms", "value"]) (fun _ _ _ _ _ _ us hl => match us, hl with | [_, _], _ => rfl) (kn_is_door B F_is_door k_is_tuple_of k_is_one_of)
  obtain ⟨fd_is_sighting, F_is_sighting⟩ := c.d.def_ 20 (d := d_is_sighting) rfl
  have g_is_sighting := He.glo_ok X2 G2 (c.d.fact 20 (f := .glo "is_sighting") rfl)
  have k_is_sighting : Kn Z 4 "is_sighting" (SpP Z sp_is_sighting) := kn_top g_is_sighting F_is_sighting (ps := ["rooms", "people", "last", "value"]) (fun _ _ _ _ _ _ us hl => match us, hl with | [_, _, _, _], _ => rfl) (kn_is_sighting B F_is_sighting k_is_tuple_of k_is_one_of k_is_between k_is_weight)
  obtain ⟨fd_is_notice, F_is_notice⟩ := c.d.def_ 21 (d := d_is_notice) rfl
  have g_is_notice := He.glo_ok X2 G2 (c.d.fact 21 (f := .glo "is_notice") rfl)
  have k_is_notice : Kn Z 4 "is_notice" (SpP Z sp_is_notice) := kn_top g_is_notice F_is_notice (ps := ["rooms", "last", "value"]) (fun _ _ _ _ _ _ us hl => match us, hl with | [_, _, _], _ => rfl) (kn_is_notice B F_is_notice k_is_tuple_of k_is_one_of k_is_between k_is_weight)
  obtain ⟨fd_first_wrong, F_first_wrong⟩ := c.d.def_ 16 (d := d_first_wrong) rfl
  have g_first_wrong := He.glo_ok X2 G2 (c.d.fact 16 (f := .glo "first_wrong") rfl)
  have k_first_wrong : KnL Z 6 5 "first_wrong" SlW := kn_first_wrong B F_first_wrong g_first_wrong (FunD.bindsN F_first_wrong fun _ _ _ _ _ _ us hl => match us, hl with | [_, _], _ => rfl)
  obtain ⟨fd_wrong_room, F_wrong_room⟩ := c.d.def_ 22 (d := d_wrong_room) rfl
  have g_wrong_room := He.glo_ok X2 G2 (c.d.fact 22 (f := .glo "wrong_room") rfl)
  have k_wrong_room : Kn Z 7 "wrong_room" (SpP Z sp_wrong_room) := kn_top g_wrong_room F_wrong_room (ps := ["value"]) (fun _ _ _ _ _ _ us hl => match us, hl with | [_], _ => rfl) (kn_wrong_room B F_wrong_room (code_of F_wrong_room) (mk "wrong_room" (by decide +kernel)) k_first_wrong k_is_name)
  obtain ⟨fd_wrong_door, F_wrong_door⟩ := c.d.def_ 23 (d := d_wrong_door) rfl
  have g_wrong_door := He.glo_ok X2 G2 (c.d.fact 23 (f := .glo "wrong_door") rfl)
  have k_wrong_door : Kn Z 7 "wrong_door" (SpP Z sp_wrong_door) := kn_top g_wrong_door F_wrong_door (ps := ["rooms", "value"]) (fun _ _ _ _ _ _ us hl => match us, hl with | [_, _], _ => rfl) (kn_wrong_door B F_wrong_door (code_of F_wrong_door) (mk "wrong_door" (by decide +kernel)) k_first_wrong k_is_door)
  obtain ⟨fd_wrong_person, F_wrong_person⟩ := c.d.def_ 24 (d := d_wrong_person) rfl
  have g_wrong_person := He.glo_ok X2 G2 (c.d.fact 24 (f := .glo "wrong_person") rfl)
  have k_wrong_person : Kn Z 7 "wrong_person" (SpP Z sp_wrong_person) := kn_top g_wrong_person F_wrong_person (ps := ["rooms", "value"]) (fun _ _ _ _ _ _ us hl => match us, hl with | [_, _], _ => rfl) (kn_wrong_person B F_wrong_person (code_of F_wrong_person) (mk "wrong_person" (by decide +kernel)) k_first_wrong k_is_name)
  obtain ⟨fd_wrong_sighting, F_wrong_sighting⟩ := c.d.def_ 25 (d := d_wrong_sighting) rfl
  have g_wrong_sighting := He.glo_ok X2 G2 (c.d.fact 25 (f := .glo "wrong_sighting") rfl)
  have k_wrong_sighting : Kn Z 7 "wrong_sighting" (SpP Z sp_wrong_sighting) := kn_top g_wrong_sighting F_wrong_sighting (ps := ["rooms", "people", "last", "value"]) (fun _ _ _ _ _ _ us hl => match us, hl with | [_, _, _, _], _ => rfl) (kn_wrong_sighting B F_wrong_sighting (code_of F_wrong_sighting) (mk "wrong_sighting" (by decide +kernel)) k_first_wrong k_is_sighting)
  obtain ⟨fd_wrong_notice, F_wrong_notice⟩ := c.d.def_ 26 (d := d_wrong_notice) rfl
  have g_wrong_notice := He.glo_ok X2 G2 (c.d.fact 26 (f := .glo "wrong_notice") rfl)
  have k_wrong_notice : Kn Z 7 "wrong_notice" (SpP Z sp_wrong_notice) := kn_top g_wrong_notice F_wrong_notice (ps := ["rooms", "last", "value"]) (fun _ _ _ _ _ _ us hl => match us, hl with | [_, _, _], _ => rfl) (kn_wrong_notice B F_wrong_notice (code_of F_wrong_notice) (mk "wrong_notice" (by decide +kernel)) k_first_wrong k_is_notice)
  obtain ⟨fd_check_rooms, F_check_rooms⟩ := c.d.def_ 27 (d := d_check_rooms) rfl
  have g_check_rooms := He.glo_ok X2 G2 (c.d.fact 27 (f := .glo "check_rooms") rfl)
  have k_check_rooms : Kn Z 8 "check_rooms" (SpP Z (sp_check_rooms (He.ga K))) := kn_top g_check_rooms F_check_rooms (ps := ["rooms"]) (fun _ _ _ _ _ _ us hl => match us, hl with | [_], _ => rfl) (kn_check_rooms B F_check_rooms k_is_row k_wrong_room)
  obtain ⟨fd_check_doors, F_check_doors⟩ := c.d.def_ 28 (d := d_check_doors) rfl
  have g_check_doors := He.glo_ok X2 G2 (c.d.fact 28 (f := .glo "check_doors") rfl)
  have k_check_doors : Kn Z 8 "check_doors" (SpP Z (sp_check_doors (He.ga K))) := kn_top g_check_doors F_check_doors (ps := ["rooms", "doors"]) (fun _ _ _ _ _ _ us hl => match us, hl with | [_, _], _ => rfl) (kn_check_doors B F_check_doors k_is_row k_wrong_door)
  obtain ⟨fd_check_people, F_check_people⟩ := c.d.def_ 29 (d := d_check_people) rfl
  have g_check_people := He.glo_ok X2 G2 (c.d.fact 29 (f := .glo "check_people") rfl)
  have k_check_people : Kn Z 8 "check_people" (SpP Z (sp_check_people (He.ga K))) := kn_top g_check_people F_check_people (ps := ["rooms", "people"]) (fun _ _ _ _ _ _ us hl => match us, hl with | [_, _], _ => rfl) (kn_check_people B F_check_people k_is_row k_wrong_person)
  obtain ⟨fd_check_last, F_check_last⟩ := c.d.def_ 30 (d := d_check_last) rfl
  have g_check_last := He.glo_ok X2 G2 (c.d.fact 30 (f := .glo "check_last") rfl)
  have k_check_last : Kn Z 8 "check_last" (SpP Z (sp_check_last (He.ga K))) := kn_top g_check_last F_check_last (ps := ["last"]) (fun _ _ _ _ _ _ us hl => match us, hl with | [_], _ => rfl) (kn_check_last B F_check_last k_is_between)
  obtain ⟨fd_check_end, F_check_end⟩ := c.d.def_ 31 (d := d_check_end) rfl
  have g_check_end := He.glo_ok X2 G2 (c.d.fact 31 (f := .glo "check_end") rfl)
  have k_check_end : Kn Z 8 "check_end" (SpP Z (sp_check_end (He.ga K))) := kn_top g_check_end F_check_end (ps := ["rooms", "room"]) (fun _ _ _ _ _ _ us hl => match us, hl with | [_, _], _ => rfl) (kn_check_end B F_check_end k_is_one_of)
  obtain ⟨fd_check_sightings, F_check_sightings⟩ := c.d.def_ 32 (d := d_check_sightings) rfl
  have g_check_sightings := He.glo_ok X2 G2 (c.d.fact 32 (f := .glo "check_sightings") rfl)
  have k_check_sightings : Kn Z 8 "check_sightings" (SpP Z (sp_check_sightings (He.ga K))) := kn_top g_check_sightings F_check_sightings (ps := ["rooms", "people", "last", "sightings"]) (fun _ _ _ _ _ _ us hl => match us, hl with | [_, _, _, _], _ => rfl) (kn_check_sightings B F_check_sightings k_is_row k_wrong_sighting)
  obtain ⟨fd_check_notices, F_check_notices⟩ := c.d.def_ 33 (d := d_check_notices) rfl
  have g_check_notices := He.glo_ok X2 G2 (c.d.fact 33 (f := .glo "check_notices") rfl)
  have k_check_notices : Kn Z 8 "check_notices" (SpP Z (sp_check_notices (He.ga K))) := kn_top g_check_notices F_check_notices (ps := ["rooms", "last", "notices"]) (fun _ _ _ _ _ _ us hl => match us, hl with | [_, _, _], _ => rfl) (kn_check_notices B F_check_notices k_is_row k_wrong_notice)
  obtain ⟨fd_Case___init__, F_Case___init__⟩ := c.d.def_ 7 (d := d_Case___init__) rfl
  have k_Case___init__ := kn_init B F_Case___init__ k_check_rooms k_check_doors k_check_people k_check_last k_check_end k_check_sightings k_check_notices
  have kC : KnC Z 9 "Case" (He.ga K "Case") (SpE Z (sp_init (He.ga K))) := by
    obtain ⟨ds, hv, hb⟩ := FunD.binds1 (ps := ["self", "rooms", "doors", "people", "last", "begin", "end", "sightings", "notices"]) F_Case___init__ 9 2 (fun z => nomatch z) rfl (fun T kV doc pm an cdv ct us its hu hi => match us, hu, its, hi with | [_, _, _, _, _, _, _, _, _], _, [_, _], _ => ⟨_, rfl, rfl⟩)
    have e : ds = [] := by
      cases hv
      rfl
    subst e
    exact ⟨_, fd_Case___init__, ["self", "rooms", "doors", "people", "last", "begin", "end", "sightings", "notices"], B.mgC, B.mC, hb, k_Case___init__⟩
  have kW : KnCK Z 9 "Case" (He.ga K "Case") byName rev8 (SpE Z (sp_init (He.ga K))) := by
    obtain ⟨its, hb⟩ := FunD.kbindsD (ps := ["self", "rooms", "doors", "people", "last", "begin", "end", "sightings", "notices"]) F_Case___init__ 1 byName (fun us _ ws => us ++ rev8 ws) (fun z => nomatch z) (fun h1 _ h3 => vals_app h1 (rev8_vals h3)) (fun T kV doc pm an cdv ct us its ws hu hi hw => match us, hu, its, hi, ws, hw with | [_], _, [_, _], _, [_, _, _, _, _, _, _, _], _ => ⟨_, rfl, rfl⟩)
    exact ⟨_, fd_Case___init__, ["self", "rooms", "doors", "people", "last", "begin", "end", "sightings", "notices"], B.mgC, B.mC, hb, k_Case___init__⟩
  obtain ⟨fd__law_caught, F__law_caught⟩ := c.d.def_ 50 (d := d__law_caught) rfl
  have g__law_caught := He.glo_ok X2 G2 (c.d.fact 50 (f := .glo "_law_caught") rfl)
  have k__law_caught : KnZ Z 12 11 "_law_caught" (SoC (He.ga K)) := kn_caught B F__law_caught g__law_caught (FunD.bindsN F__law_caught fun _ _ _ _ _ _ us hl => match us, hl with | [_], _ => rfl)
  obtain ⟨fd__law_is_number, F__law_is_number⟩ := c.d.def_ 38 (d := d__law_is_number) rfl
  have g__law_is_number := He.glo_ok X2 G2 (c.d.fact 38 (f := .glo "_law_is_number") rfl)
  have k__law_is_number : Kn Z 1 "_law_is_number" (SpP Z sp__law_is_number) := kn_top g__law_is_number F__law_is_number (ps := ["value", "low", "high"]) (fun _ _ _ _ _ _ us hl => match us, hl with | [_, _, _], _ => rfl) (kn__law_is_number B F__law_is_number)
  obtain ⟨fd__law_is_name, F__law_is_name⟩ := c.d.def_ 39 (d := d__law_is_name) rfl
  have g__law_is_name := He.glo_ok X2 G2 (c.d.fact 39 (f := .glo "_law_is_name") rfl)
  have k__law_is_name : Kn Z 1 "_law_is_name" (SpP Z sp__law_is_name) := kn_top g__law_is_name F__law_is_name (ps := ["value"]) (fun _ _ _ _ _ _ us hl => match us, hl with | [_], _ => rfl) (kn__law_is_name B F__law_is_name)
  obtain ⟨fd__law_wrong_names, F__law_wrong_names⟩ := c.d.def_ 45 (d := d__law_wrong_names) rfl
  have g__law_wrong_names := He.glo_ok X2 G2 (c.d.fact 45 (f := .glo "_law_wrong_names") rfl)
  have k__law_wrong_names : Kn Z 2 "_law_wrong_names" (SpP Z sp__law_wrong_names) := kn_top g__law_wrong_names F__law_wrong_names (ps := ["value", "low", "high", "others"]) (fun _ _ _ _ _ _ us hl => match us, hl with | [_, _, _, _], _ => rfl) (kn__law_wrong_names B F__law_wrong_names k__law_is_name)
  obtain ⟨fd__law_wrong_doors, F__law_wrong_doors⟩ := c.d.def_ 46 (d := d__law_wrong_doors) rfl
  have g__law_wrong_doors := He.glo_ok X2 G2 (c.d.fact 46 (f := .glo "_law_wrong_doors") rfl)
  have k__law_wrong_doors : Kn Z 1 "_law_wrong_doors" (SpP Z sp__law_wrong_doors) := kn_top g__law_wrong_doors F__law_wrong_doors (ps := ["value", "rooms"]) (fun _ _ _ _ _ _ us hl => match us, hl with | [_, _], _ => rfl) (kn__law_wrong_doors B F__law_wrong_doors)
  obtain ⟨fd__law_is_notice, F__law_is_notice⟩ := c.d.def_ 48 (d := d__law_is_notice) rfl
  have g__law_is_notice := He.glo_ok X2 G2 (c.d.fact 48 (f := .glo "_law_is_notice") rfl)
  have k__law_is_notice : Kn Z 2 "_law_is_notice" (SpP Z sp__law_is_notice) := kn_top g__law_is_notice F__law_is_notice (ps := ["row", "rooms", "last"]) (fun _ _ _ _ _ _ us hl => match us, hl with | [_, _, _], _ => rfl) (kn__law_is_notice B F__law_is_notice k__law_is_number)
  obtain ⟨fd__law_is_sighting, F__law_is_sighting⟩ := c.d.def_ 47 (d := d__law_is_sighting) rfl
  have g__law_is_sighting := He.glo_ok X2 G2 (c.d.fact 47 (f := .glo "_law_is_sighting") rfl)
  have k__law_is_sighting : Kn Z 3 "_law_is_sighting" (SpP Z sp__law_is_sighting) := kn_top g__law_is_sighting F__law_is_sighting (ps := ["row", "rooms", "people", "last"]) (fun _ _ _ _ _ _ us hl => match us, hl with | [_, _, _, _], _ => rfl) (kn__law_is_sighting B F__law_is_sighting k__law_is_notice)
  obtain ⟨fd__law_due, F__law_due⟩ := c.d.def_ 49 (d := d__law_due) rfl
  have g__law_due := He.glo_ok X2 G2 (c.d.fact 49 (f := .glo "_law_due") rfl)
  have k__law_due : Kn Z 4 "_law_due" (SpP Z sp__law_due) := kn_top g__law_due F__law_due (ps := ["rooms", "doors", "people", "last", "begin", "end", "sightings", "notices"]) (fun _ _ _ _ _ _ us hl => match us, hl with | [_, _, _, _, _, _, _, _], _ => rfl) (kn__law_due B F__law_due k__law_wrong_names k__law_wrong_doors k__law_is_number k__law_is_sighting k__law_is_notice)
  obtain ⟨fd__law_are_refused, F__law_are_refused⟩ := c.d.def_ 51 (d := d__law_are_refused) rfl
  have g__law_are_refused := He.glo_ok X2 G2 (c.d.fact 51 (f := .glo "_law_are_refused") rfl)
  have k__law_are_refused : Kn Z 13 "_law_are_refused" (SpP Z sp__law_are_refused) := kn_top g__law_are_refused F__law_are_refused (ps := ["parts"]) (fun _ _ _ _ _ _ us hl => match us, hl with | [_], _ => rfl) (kn__law_are_refused B F__law_are_refused (code_of F__law_are_refused) (mk "_law_are_refused" (by decide +kernel)) k__law_due k__law_caught kC kW)
  obtain ⟨fd__law_take, F__law_take⟩ := c.d.def_ 36 (d := d__law_take) rfl
  have g__law_take := He.glo_ok X2 G2 (c.d.fact 36 (f := .glo "_law_take") rfl)
  have k__law_take : Kn Z 2 "_law_take" (SpE Z sp_take) := kn_top g__law_take F__law_take (ps := ["draws", "many"]) (fun _ _ _ _ _ _ us hl => match us, hl with | [_, _], _ => rfl) (kn_take B F__law_take)
  obtain ⟨fd__law_pick, F__law_pick⟩ := c.d.def_ 37 (d := d__law_pick) rfl
  have g__law_pick := He.glo_ok X2 G2 (c.d.fact 37 (f := .glo "_law_pick") rfl)
  have k__law_pick : Kn Z 3 "_law_pick" (SpE Z sp_pick) := kn_top g__law_pick F__law_pick (ps := ["draws", "some"]) (fun _ _ _ _ _ _ us hl => match us, hl with | [_, _], _ => rfl) (kn_pick B F__law_pick k__law_take)
  obtain ⟨fd__law_purse, F__law_purse⟩ := c.d.def_ 35 (d := d__law_purse) rfl
  have g__law_purse := He.glo_ok X2 G2 (c.d.fact 35 (f := .glo "_law_purse") rfl)
  have k__law_purse : Kn Z 2 "_law_purse" (SpP Z sp_purse) := kn_top g__law_purse F__law_purse (ps := ["cells", "at"]) (fun _ _ _ _ _ _ us hl => match us, hl with | [_, _], _ => rfl) (kn_purse B F__law_purse)
  obtain ⟨fd__law_names, F__law_names⟩ := c.d.def_ 40 (d := d__law_names) rfl
  have g__law_names := He.glo_ok X2 G2 (c.d.fact 40 (f := .glo "_law_names") rfl)
  have k__law_names : Kn Z 3 "_law_names" (SpE Z sp_names) := kn_top g__law_names F__law_names (ps := ["draws", "many", "some"]) (fun _ _ _ _ _ _ us hl => match us, hl with | [_, _, _], _ => rfl) (kn_names B F__law_names k__law_take)
  obtain ⟨fd__law_case, F__law_case⟩ := c.d.def_ 41 (d := d__law_case) rfl
  have g__law_case := He.glo_ok X2 G2 (c.d.fact 41 (f := .glo "_law_case") rfl)
  have k__law_case : Kn Z 4 "_law_case" (SpE Z sp_case) := kn_top g__law_case F__law_case (ps := ["draws", "many", "crowd", "last", "records"]) (fun _ _ _ _ _ _ us hl => match us, hl with | [_, _, _, _, _], _ => rfl) (kn_case B F__law_case k__law_take k__law_pick k__law_names)
  obtain ⟨fd__law_odd, F__law_odd⟩ := c.d.def_ 43 (d := d__law_odd) rfl
  have g__law_odd := He.glo_ok X2 G2 (c.d.fact 43 (f := .glo "_law_odd") rfl)
  have k__law_odd : Kn Z 4 "_law_odd" (SpE Z sp_odd) := kn_top g__law_odd F__law_odd (ps := ["draws"]) (fun _ _ _ _ _ _ us hl => match us, hl with | [_], _ => rfl) (kn_odd B F__law_odd k__law_pick)
  obtain ⟨fd__law_bent, F__law_bent⟩ := c.d.def_ 44 (d := d__law_bent) rfl
  have g__law_bent := He.glo_ok X2 G2 (c.d.fact 44 (f := .glo "_law_bent") rfl)
  have k__law_bent := kn_bent B F__law_bent g__law_bent k__law_take k__law_odd
  obtain ⟨fd__law_by_hand, F__law_by_hand⟩ := c.d.def_ 52 (d := d__law_by_hand) rfl
  have g__law_by_hand := He.glo_ok X2 G2 (c.d.fact 52 (f := .glo "_law_by_hand") rfl)
  have k__law_by_hand : Kn Z 14 "_law_by_hand" (SpP Z sp_hand) := kn_top g__law_by_hand F__law_by_hand (ps := []) (fun _ _ _ _ _ _ us hl => match us, hl with | [], _ => rfl) (kn_hand B F__law_by_hand k__law_are_refused)
  obtain ⟨fd__law_right, F__law_right⟩ := c.d.def_ 53 (d := d__law_right) rfl
  have g__law_right := He.glo_ok X2 G2 (c.d.fact 53 (f := .glo "_law_right") rfl)
  have k__law_right : Kn Z 15 "_law_right" (SpE Z sp_right) := kn_top g__law_right F__law_right (ps := ["draws"]) (fun _ _ _ _ _ _ us hl => match us, hl with | [_], _ => rfl) (kn_right B F__law_right k__law_take k__law_case k__law_odd (k__law_bent 6) k__law_are_refused k__law_by_hand)
  exact kn_law B Flaw k__law_right k__law_purse
end K03
open PySem PySem.W PySem.Calls PyProof.Rows
theorem PySem.Challenge.cw_lasthands_k03_cases_refused_holds : PySem.Challenge.rw_lasthands_k03_cases_refused.Holds := by
  w_on; o_law
  refine HandSHeadRun.head_any (r := OpenLaw.row PySem.Challenge.rw_lasthands_k03_cases_refused) (q := view (OpenLaw.row PySem.Challenge.rw_lasthands_k03_cases_refused).prog [68]) (H := K03.hk) (ob := K03.ob) (M := 20000) (loose := K03.loose) (d := HandSHeadRun.topDef (OpenLaw.row PySem.Challenge.rw_lasthands_k03_cases_refused).prog 68) (kwd := []) K03.ob_eq
    (by kernel_rfl) (fun s => by kernel_rfl) K03.run (by kernel_rfl) (by kernel_rfl) (by kernel_rfl) (by rfl) (by first | assumption | decide +kernel) (by decide +kernel) ⟨rfl, rfl, rfl, rfl, rfl, by decide +kernel⟩ ?hw ?hc
  case hw => w_witness2
  case hc =>
    refine Fw.walk_K (l := PySem.Challenge.rw_lasthands_k03_cases_refused) (n := 63) (k := 16) (x := "cells") rfl (by decide) (by kernel_rfl) ⟨⟨rfl, by decide, by decide⟩, rfl⟩ ?F
    intro w mg fa h Y G hmg0
    obtain ⟨K, KX, c⟩ := Y
    have hmg : mg ("law" : PySem.Str) = some (.ref fa) := by
      have e : (HandSHeadRun.topDef (OpenLaw.row PySem.Challenge.rw_lasthands_k03_cases_refused).prog 68).name = ("law" : PySem.Str) := by kernel_rfl
      rw [← e]
      exact hmg0
    exact ⟨K, KX, K03.lawK w KX G c hmg⟩

